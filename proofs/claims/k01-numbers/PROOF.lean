import PyProof.Rows.All
import Wide.All
import OpenK.AllK
import Wide.FinOn
import HandS.ForMost
import HandS.ForExc
import HandS.TryMany
import HandS.AnyAll
import HandS.Wide
import HandS.Lambda
import HandS.IsInst
import HandS.SortInts
import HandS.SortRule
import HandS.Text
import HandS.Deep
import HandS.TupAny
import HandS.Conv
import HandS.Style
import HandS.TupMul
import KE.KNest
import KE.GoesEnum
import HandS.Zip
import PyProof.StrOps2
import KE.SortData
import KE.DataMinMax
import HandS.GenOver
import HandS.GenBody
import HandS.ExcField
import KE.KEqDict
import HandS.More
import HandS.DictComp
import HandS.TupLen
import KE.KDictDisplayH
import HandS.Rev
import HandS.SetFor
import PyProof.SeqIndex
import PyProof.SeqRoads2
import KE.KExcSuper
import HandS.HeadWalk
import HandS.ExcIs
import HandS.ExcBuiltin
import HandS.SortKw
import KE.KMinKey
import HandS.TupLe
import KE.DatumIndex
import HandS.Strs
import HandS.EndTab
import HandS.EndOwn
import KE.KNestM
import KE.DatumOrd
import PySem.Challenge.RW_fleetyard_k01_numbers_and_what_is_common
set_option Elab.async false
set_option linter.all false
set_option maxRecDepth 100000
/-! Plain data over the hand layer: values as trees, a store of what may change. -/
namespace Fy
open PySem PySem.Spec PyProof.Rows L2

/-- plain data: tuples and lists that no one changes stand within; what may change is named by its place -/
inductive D where
  | non | bl (b : Bool) | int (i : Int) | str (x : Str) | tup (xs : List D) | fl (xs : List D) | ref (a : Addr) | ty (n : String) | scr (xs : List D)
  | fd (t : Bool) (kvs : List (List Key × D))
  | tix (xs : List D)

/-- what the store holds at a place -/
inductive MO where
  | lst (xs : List D)
  | dct (t : Bool) (kvs : List (List Key × D))
abbrev Sto := Addr → Option MO
def put (st : Sto) (a : Addr) (o : MO) : Sto := fun b => if b = a then some o else st b
def del (st : Sto) (a : Addr) : Sto := fun b => if b = a then none else st b
theorem put_same {st : Sto} {a : Addr} {o : MO} : put st a o a = some o := by unfold put; rw [if_pos rfl]
theorem put_ne {st : Sto} {a b : Addr} {o : MO} (h : b ≠ a) : put st a o b = st b := by unfold put; rw [if_neg h]
theorem del_same {st : Sto} {a : Addr} : del st a a = none := by unfold del; rw [if_pos rfl]
theorem del_ne {st : Sto} {a b : Addr} (h : b ≠ a) : del st a b = st b := by unfold del; rw [if_neg h]
theorem del_put {st : Sto} {a : Addr} {o : MO} (h : st a = none) : del (put st a o) a = st := by
  funext b
  by_cases z : b = a
  · subst z; rw [del_same, h]
  · rw [del_ne z, put_ne z]
theorem put_put {st : Sto} {a : Addr} {o u : MO} : put (put st a o) a u = put st a u := by
  funext b
  unfold put
  split <;> rfl
theorem put_get {st : Sto} {a : Addr} {o : MO} (h : st a = some o) : put st a o = st := by
  funext b
  by_cases z : b = a
  · subst z; rw [put_same, h]
  · rw [put_ne z]
/-- a part of a store -/
def Sub (st st' : Sto) : Prop := ∀ a o, st a = some o → st' a = some o
theorem Sub.refl (st : Sto) : Sub st st := fun _ _ h => h
theorem Sub.trans {a b c : Sto} (h : Sub a b) (k : Sub b c) : Sub a c := fun x o e => k x o (h x o e)
theorem Sub.free {st st' : Sto} (h : Sub st st') {a : Addr} (e : st' a = none) : st a = none := by
  cases q : st a with
  | none => rfl
  | some o =>
    rw [h a o q] at e
    cases e
theorem Sub.del {st : Sto} {a : Addr} : Sub (del st a) st := fun b o e => by
  by_cases z : b = a
  · subst z; rw [del_same] at e; cases e
  · rw [del_ne z] at e; exact e
theorem Sub.putN {st : Sto} {a : Addr} {o : MO} (h : st a = none) : Sub st (put st a o) := fun b x e => by
  rw [put_ne]
  · exact e
  · rintro rfl
    rw [h] at e
    cases e
theorem Sub.put2 {st st' : Sto} {a : Addr} {o : MO} (h : Sub st st') : Sub (Fy.put st a o) (Fy.put st' a o) := fun b x e => by
  by_cases z : b = a
  · subst z
    rw [put_same] at e ⊢
    exact e
  · rw [put_ne z] at e ⊢
    exact h b x e

/-- the written part, and places that no one may hold -/
structure KH where
  K : PySem.W.Frag
  hs : Addr → Prop
/-- a list that is read and that no one changes any more -/
def FzL (K : KH) (st : Sto) (H : Hp) (a : Addr) (xs : List V) : Prop := (∃ o, H a = some (.frz o (.lst xs))) ∨ SqL K.K (fun _ => none) a xs ∨ (H a = some (.lst xs) ∧ st a = none ∧ ¬ K.hs a)
theorem FzL.sq {K : KH} {st : Sto} {H : Hp} {a : Addr} {xs : List V} (h : FzL K st H a xs) : SqL K.K H a xs := by
  rcases h with ⟨o, h⟩ | (h | h) | h
  · exact .inl (.inr ⟨o, h⟩)
  · rcases h with h | ⟨_, h⟩ <;> cases h
  · exact .inr h
  · exact .inl (.inl h.1)

/-- the same, a list of the run -/
def FlL (K : KH) (st : Sto) (H : Hp) (a : Addr) (xs : List V) : Prop := H a = some (.lst xs) ∧ st a = none ∧ ¬ K.hs a
theorem FlL.sq {K : KH} {st : Sto} {H : Hp} {a : Addr} {xs : List V} (h : FlL K st H a xs) : SqL K.K H a xs := .inl (.inl h.1)
theorem sqT_fz {K : PySem.W.Frag} {H : Hp} {a : Addr} {o : Obj} {xs : List V} (h : H a = some (.frz o (.tup xs))) : SqT K H a xs := .inl (.inr ⟨o, h⟩)
/-- a dict as the library tells it: t: keys are tuples -/
def k1 (k : List Key) : Key := k.headD (.inl 0)
def dHO (t : Bool) (ks : List (List Key)) (xs : List V) : HO := match t with
  | true => .dT (ks.zip xs)
  | false => .dK ((ks.map k1).zip xs)
theorem dHO_ne {t : Bool} {ks : List (List Key)} {xs : List V} : (∀ ys, dHO t ks xs ≠ .tup ys) ∧ (∀ o u, dHO t ks xs ≠ .frz o u) ∧ (∀ ps, dHO t ks xs ≠ .tbl ps) ∧ (∀ ys, dHO t ks xs ≠ .lst ys) ∧ ∀ φ, dHO t ks xs ≠ .ext φ := by
  cases t <;> exact ⟨fun _ z => (by cases z), fun _ _ z => (by cases z), fun _ z => (by cases z), fun _ z => (by cases z), fun _ z => (by cases z)⟩
mutual
inductive Rep (K : KH) (st : Sto) (H : Hp) : V → D → Prop
  | non : Rep K st H .non .non
  | bl (b : Bool) : Rep K st H (.bl b) (.bl b)
  | int (i : Int) : Rep K st H (.int i) (.int i)
  | str (x : Str) : Rep K st H (.str x) (.str x)
  | ref (a : Addr) : Rep K st H (.ref a) (.ref a)
  | ty (n : String) : Rep K st H (.ty n) (.ty n)
  | tup {a : Addr} {xs : List V} {ds : List D} : H a = some (.tup xs) → Reps K st H xs ds → ds.length ≤ sizeLine → Rep K st H (.ref a) (.tup ds)
  | scr {a : Addr} {xs : List V} {ds : List D} : FzL K st H a xs → Reps K st H xs ds → ds.length ≤ sizeLine → Rep K st H (.ref a) (.scr ds)
  | fl {a : Addr} {xs : List V} {ds : List D} : FlL K st H a xs → Reps K st H xs ds → ds.length ≤ sizeLine → Rep K st H (.ref a) (.fl ds)
  | fd {a : Addr} {o : Obj} {t : Bool} {kvs : List (List Key × D)} {xs : List V} : H a = some (.frz o (dHO t (kvs.map (·.1)) xs)) → (∀ p ∈ kvs, p.1.length ≤ sizeLine ∧ (t = false → ∃ q, p.1 = [q])) → Reps K st H xs (kvs.map (·.2)) → kvs.length ≤ sizeLine → Rep K st H (.ref a) (.fd t kvs)
  | tix {a : Addr} {o : Obj} {xs : List V} {ds : List D} : H a = some (.frz o (.tup xs)) → o.cls = .type "tuple" → o.dict = none → Reps K st H xs ds → ds.length ≤ sizeLine → Rep K st H (.ref a) (.tix ds)
inductive Reps (K : KH) (st : Sto) (H : Hp) : List V → List D → Prop
  | nil : Reps K st H [] []
  | cons {v : V} {d : D} {vs : List V} {ds : List D} : Rep K st H v d → Reps K st H vs ds → Reps K st H (v :: vs) (d :: ds)
end

def MOk (K : KH) (st : Sto) (H : Hp) (a : Addr) : MO → Prop
  | .dct t kvs => kvs.length ≤ sizeLine ∧ (∀ p ∈ kvs, p.1.length ≤ sizeLine ∧ (t = false → ∃ q, p.1 = [q])) ∧ ∃ xs, H a = some (dHO t (kvs.map (·.1)) xs) ∧ Reps K st H xs (kvs.map (·.2))
  | .lst ds => ds.length ≤ sizeLine ∧ ∃ xs, H a = some (.lst xs) ∧ Reps K st H xs ds
structure StoOk (K : KH) (st : Sto) (H : Hp) : Prop where
  c : ∀ a o, st a = some o → MOk K st H a o
  h : ∀ a, K.hs a → H a ≠ none ∧ st a = none

/-- what data leans on is kept -/
structure RSt (K K2 : KH) (st : Sto) (H : Hp) (st2 : Sto) (H2 : Hp) : Prop where
  kk : K2.K = K.K
  tup : ∀ a xs, H a = some (.tup xs) → H2 a = some (.tup xs)
  frz : ∀ a o u, H a = some (.frz o u) → H2 a = some (.frz o u)
  fz : ∀ a xs, H a = some (.lst xs) → st a = none → ¬ K.hs a → H2 a = some (.lst xs) ∧ st2 a = none ∧ ¬ K2.hs a
/-- the tables whose code objects bear a known name -/
class LamT where
  nm : Addr → Option Str
  /-- is a lambda written there? -/
  lp : Addr → Nat → Nat → Bool
instance (priority := low) lamT0 : LamT := ⟨fun _ => none, fun _ _ _ => false⟩
theorem among_at {gp p2 : Pos} {c cv : Value} (l : List Value) (h : TriplesOk l) (hc : codeAmong p2 (l ++ [rawInt gp.line, rawInt gp.col, c]) = some cv) : codeAmong p2 l = some cv ∨ (p2.line = gp.line ∧ p2.col = gp.col ∧ cv = c) := by
  fun_induction TriplesOk l with
  | case1 =>
    simp only [List.nil_append, rawInt, codeAmong] at hc
    split at hc
    · rename_i q
      right
      simp only [Bool.and_eq_true, beq_iff_eq] at q
      exact ⟨by omega, by omega, (Option.some.inj hc).symm⟩
    · cases hc
  | case2 a t b u x rest ih =>
    simp only [List.cons_append, codeAmong] at hc ⊢
    split at hc
    · rename_i q
      rw [if_pos q]
      exact .inl hc
    · rename_i q
      rw [if_neg q]
      exact ih h hc
  | case3 l h1 h2 => exact h.elim
/-- a code object whose own table stands at P -/
def GCodeO (c P : Addr) : HO := .ext fun h => PySem.W.CodeHd h c P
theorem gcode_ne {c P : Addr} (ps : Array Value) : GCodeO c P ≠ .tbl ps := fun z => by unfold GCodeO at z; cases z
/-- no lambdas in the table at P -/
def NoL [LamT] (P : Addr) : Prop := LamT.nm P = none ∧ ∀ l c, LamT.lp P l c = false
/-- a table of code objects: those of lambdas bear the known name, those of generator expressions have a table in S -/
def TbS [LamT] (S : Addr → Prop) (H : Hp) (P : Addr) : Prop := ∃ ps : Array Value, H P = some (.tbl ps) ∧ TriplesOk ps.toList ∧ (∀ q, LamT.nm P = some q → ∀ (pos : Pos) (cv : Value), LamT.lp P pos.line pos.col = true → codeAmong pos ps.toList = some cv → ∃ c, cv = .ref c ∧ H c = some (LamX.CodeO c q)) ∧
  ∀ (pos : Pos) (cv : Value), LamT.lp P pos.line pos.col = false → codeAmong pos ps.toList = some cv → ∃ c P2, cv = .ref c ∧ H c = some (GCodeO c P2) ∧ S P2 ∧ NoL P2
def Tb [LamT] (H : Hp) (P : Addr) : Prop := ∃ S : Addr → Prop, S P ∧ ∀ Q, S Q → TbS S H Q
theorem TbS.mono [LamT] {S S2 : Addr → Prop} {H : Hp} {P : Addr} (h : TbS S H P) (k : ∀ Q, S Q → S2 Q) : TbS S2 H P := by
  obtain ⟨ps, h1, h2, h3, h4⟩ := h
  exact ⟨ps, h1, h2, h3, fun pos cv l z => let ⟨c, P2, a, b, d, e⟩ := h4 pos cv l z; ⟨c, P2, a, b, k _ d, e⟩⟩
theorem Tb.out [LamT] {H : Hp} {P : Addr} (h : Tb H P) : TbS (Tb H) H P := by
  obtain ⟨S, h1, h2⟩ := h
  exact (h2 P h1).mono fun Q q => ⟨S, q, h2⟩
theorem Tb.of [LamT] {H : Hp} {P : Addr} (h : TbS (Tb H) H P) : Tb H P := ⟨fun Q => Tb H Q ∨ Q = P, .inr rfl, fun Q q => by
  rcases q with q | rfl
  · exact q.out.mono fun _ y => .inl y
  · exact h.mono fun _ y => .inl y⟩
theorem TbS.up [LamT] {S : Addr → Prop} {H H2 : Hp} {P : Addr} (h : TbS S H P) (ht : ∀ ps, H P = some (.tbl ps) → H2 P = some (.tbl ps)) (hc : ∀ c φ, H c = some (.ext φ) → H2 c = some (.ext φ)) : TbS S H2 P := by
  obtain ⟨ps, h1, h2, h3, h4⟩ := h
  exact ⟨ps, ht ps h1, h2, fun q e pos cv l z => let ⟨c, z1, z2⟩ := h3 q e pos cv l z; ⟨c, z1, hc _ _ z2⟩, fun pos cv l z => let ⟨c, P2, a, b, d, e⟩ := h4 pos cv l z; ⟨c, P2, a, hc _ _ b, d, e⟩⟩
theorem Tb.up [LamT] {H H2 : Hp} {P : Addr} (h : Tb H P) (ht : ∀ Q ps, H Q = some (.tbl ps) → H2 Q = some (.tbl ps)) (hc : ∀ c φ, H c = some (.ext φ) → H2 c = some (.ext φ)) : Tb H2 P := by
  obtain ⟨S, h1, h2⟩ := h
  exact ⟨S, h1, fun Q q => (h2 Q q).up (ht Q) hc⟩
theorem Tb.tabG [LamT] {H : Hp} {P : Addr} (h : Tb H P) : GxR.TabG H P := let ⟨ps, h1, h2, _⟩ := h.out; ⟨ps, h1, h2⟩
theorem Tb.at [LamT] {H : Hp} {P : Addr} (h : Tb H P) : ∃ ps, H P = some (.tbl ps) := let ⟨ps, h1, _⟩ := h.out; ⟨ps, h1⟩
theorem tbS_empty [LamT] {S : Addr → Prop} {H : Hp} {P : Addr} (h : H P = some (.tbl #[])) : TbS S H P := by
  refine ⟨#[], h, trivial, fun q _ pos cv _ z => ?_, fun pos cv _ z => ?_⟩
  all_goals
    have z : codeAmong pos [] = some cv := z
    simp [codeAmong] at z
theorem Tb.empty [LamT] {H : Hp} {P : Addr} (h : H P = some (.tbl #[])) : Tb H P := .of (tbS_empty h)
variable [LamT]
/-- from (st, H) to (st2, H2): what the store does not hold is kept -/
structure Step (K : KH) (st : Sto) (H : Hp) (st2 : Sto) (H2 : Hp) : Prop where
  tup : ∀ a xs, H a = some (.tup xs) → H2 a = some (.tup xs)
  frz : ∀ a o u, H a = some (.frz o u) → H2 a = some (.frz o u)
  tab : ∀ P, Tb H P → Tb H2 P
  keep : ∀ a o, H a = some o → (∀ ps, o ≠ .tbl ps) → st a = none → H2 a = some o ∧ st2 a = none
section
variable {K K2 : KH} {H H2 H3 : Hp} {st st2 st3 : Sto}
theorem Step.any (t : Step K st H st2 H2) : Step K2 st H st2 H2 := ⟨t.tup, t.frz, t.tab, t.keep⟩
theorem Step.rst (t : Step K st H st2 H2) : RSt K K st H st2 H2 := ⟨rfl, t.tup, t.frz, fun a xs h e n => let ⟨h1, e1⟩ := t.keep a _ h (fun _ z => by cases z) e; ⟨h1, e1, n⟩⟩
theorem Step.refl : Step K st H st H := ⟨fun _ _ h => h, fun _ _ _ h => h, fun _ h => h, fun _ _ h _ e => ⟨h, e⟩⟩
theorem Step.trans (a : Step K st H st2 H2) (b : Step K st2 H2 st3 H3) : Step K st H st3 H3 :=
  ⟨fun x xs h => b.tup x xs (a.tup x xs h), fun x o u h => b.frz x o u (a.frz x o u h), fun P h => b.tab P (a.tab P h), fun x o h n e => let ⟨h1, e1⟩ := a.keep x o h n e; b.keep x o h1 n e1⟩
theorem Step.sub (s : Sub st2 st) : Step K st H st2 H := ⟨fun _ _ h => h, fun _ _ _ h => h, fun _ h => h, fun _ _ h _ e => ⟨h, s.free e⟩⟩
/-- a change at p -/
theorem Step.at {p : Addr} {o : HO} (h1 : ∀ xs, H p ≠ some (.tup xs)) (h2 : ∀ o u, H p ≠ some (.frz o u)) (h3 : ∀ ps, H p ≠ some (.tbl ps)) (h4 : H p = none ∨ st p ≠ none) (h5 : ∀ a, a ≠ p → st a = none → st2 a = none) (h6 : ∀ φ, H p ≠ some (.ext φ)) : Step K st H st2 (upd H p o) := by
  refine ⟨fun a xs h => ?_, fun a o u h => ?_, fun P h => ?_, fun a o h n e => ?_⟩
  · rw [upd_ne]
    · exact h
    · rintro rfl
      exact h1 xs h
  · rw [upd_ne]
    · exact h
    · rintro rfl
      exact h2 o u h
  · refine h.up (fun Q ps e => ?_) fun c φ e => ?_
    · rw [upd_ne]
      · exact e
      · rintro rfl
        exact h3 ps e
    · rw [upd_ne]
      · exact e
      · rintro rfl
        exact h6 _ e
  · have ne : a ≠ p := by
      rintro rfl
      rcases h4 with z | z
      · rw [z] at h; cases h
      · exact z e
    rw [upd_ne ne]
    exact ⟨h, h5 a ne e⟩
theorem Step.new {p : Addr} {o : HO} (h : H p = none) : Step K st H st (upd H p o) :=
  .at (fun _ z => by rw [h] at z; cases z) (fun _ _ z => by rw [h] at z; cases z) (fun _ z => by rw [h] at z; cases z) (.inl h) (fun _ _ e => e) (fun _ z => by rw [h] at z; cases z)
theorem Step.newPut {p : Addr} {o : HO} {x : MO} (h : H p = none) : Step K st H (put st p x) (upd H p o) :=
  .at (fun _ z => by rw [h] at z; cases z) (fun _ _ z => by rw [h] at z; cases z) (fun _ z => by rw [h] at z; cases z) (.inl h) (fun _ n e => by rw [put_ne n]; exact e) (fun _ z => by rw [h] at z; cases z)
theorem Step.set {p : Addr} {o : HO} {x : MO} {ys : List V} (h : H p = some (.lst ys)) (e : st p ≠ none) : Step K st H (put st p x) (upd H p o) :=
  .at (fun _ z => by rw [h] at z; cases z) (fun _ _ z => by rw [h] at z; cases z) (fun _ z => by rw [h] at z; cases z) (.inr e) (fun _ n e => by rw [put_ne n]; exact e) (fun _ z => by rw [h] at z; cases z)
theorem RSt.sqT {a : Addr} {xs : List V} (t : RSt K K2 st H st2 H2) (h : SqT K.K H a xs) : SqT K2.K H2 a xs := by
  rw [t.kk]
  rcases h with (h | ⟨o, h⟩) | h
  · exact .inl (.inl (t.tup _ _ h))
  · exact .inl (.inr ⟨o, t.frz _ _ _ h⟩)
  · exact .inr h
theorem RSt.fzL {a : Addr} {xs : List V} (t : RSt K K2 st H st2 H2) (h : FzL K st H a xs) : FzL K2 st2 H2 a xs := by
  unfold FzL
  rw [t.kk]
  rcases h with ⟨o, h⟩ | h | ⟨h, e, n⟩
  · exact .inl ⟨o, t.frz _ _ _ h⟩
  · exact .inr (.inl h)
  · exact .inr (.inr (t.fz _ _ h e n))
theorem Step.sqT {a : Addr} {xs : List V} (t : Step K st H st2 H2) (h : SqT K.K H a xs) : SqT K.K H2 a xs := t.rst.sqT h
theorem Step.fzL {a : Addr} {xs : List V} (t : Step K st H st2 H2) (h : FzL K st H a xs) : FzL K st2 H2 a xs := t.rst.fzL h
mutual
theorem Rep.mon (t : RSt K K2 st H st2 H2) : ∀ {v : V} {d : D}, Rep K st H v d → Rep K2 st2 H2 v d
  | _, _, .non => .non
  | _, _, .bl b => .bl b
  | _, _, .int i => .int i
  | _, _, .str x => .str x
  | _, _, .ref a => .ref a
  | _, _, .ty n => .ty n
  | _, _, .tup h r z => .tup (t.tup _ _ h) (Reps.mon t r) z
  | _, _, .scr h r z => .scr (t.fzL h) (Reps.mon t r) z
  | _, _, .fl h r z => .fl (t.fz _ _ h.1 h.2.1 h.2.2) (Reps.mon t r) z
  | _, _, .fd h k r z => .fd (t.frz _ _ _ h) k (Reps.mon t r) z
  | _, _, .tix h c d r z => .tix (t.frz _ _ _ h) c d (Reps.mon t r) z
theorem Reps.mon (t : RSt K K2 st H st2 H2) : ∀ {vs : List V} {ds : List D}, Reps K st H vs ds → Reps K2 st2 H2 vs ds
  | _, _, .nil => .nil
  | _, _, .cons r s => .cons (Rep.mon t r) (Reps.mon t s)
end
theorem Rep.mono {v : V} {d : D} (r : Rep K st H v d) (t : Step K st H st2 H2) : Rep K st2 H2 v d := r.mon t.rst
theorem Reps.mono {v : List V} {d : List D} (r : Reps K st H v d) (t : Step K st H st2 H2) : Reps K st2 H2 v d := r.mon t.rst
theorem Reps.length : ∀ {vs : List V} {ds : List D}, Reps K st H vs ds → vs.length = ds.length
  | _, _, .nil => rfl
  | _, _, .cons _ s => congrArg Nat.succ (Reps.length s)
theorem Reps.get : ∀ {vs : List V} {ds : List D} {i : Nat} {d : D}, Reps K st H vs ds → ds[i]? = some d → ∃ v, vs[i]? = some v ∧ Rep K st H v d
  | _, _, i, _, .nil, e => by simp at e
  | _, _, 0, _, .cons r _, e => by simp at e; subst e; exact ⟨_, rfl, r⟩
  | _, _, i + 1, _, .cons _ s, e => by
    obtain ⟨v, h1, h2⟩ := Reps.get (i := i) s (by simpa using e)
    exact ⟨v, by simpa using h1, h2⟩
theorem Reps.get' : ∀ {vs : List V} {ds : List D} {i : Nat} {v : V}, Reps K st H vs ds → vs[i]? = some v → ∃ d, ds[i]? = some d ∧ Rep K st H v d
  | _, _, i, _, .nil, e => by simp at e
  | _, _, 0, _, .cons r _, e => by simp at e; subst e; exact ⟨_, rfl, r⟩
  | _, _, i + 1, _, .cons _ s, e => by
    obtain ⟨v, h1, h2⟩ := Reps.get' (i := i) s (by simpa using e)
    exact ⟨v, by simpa using h1, h2⟩
theorem Reps.append : ∀ {vs ws : List V} {ds es : List D}, Reps K st H vs ds → Reps K st H ws es → Reps K st H (vs ++ ws) (ds ++ es)
  | _, _, _, _, .nil, s => s
  | _, _, _, _, .cons r t, s => .cons r (Reps.append t s)
theorem Reps.take : ∀ {vs : List V} {ds : List D} (n : Nat), Reps K st H vs ds → Reps K st H (vs.take n) (ds.take n)
  | _, _, 0, _ => .nil
  | _, _, _ + 1, .nil => .nil
  | _, _, n + 1, .cons r s => .cons r (Reps.take n s)
theorem Reps.drop : ∀ {vs : List V} {ds : List D} (n : Nat), Reps K st H vs ds → Reps K st H (vs.drop n) (ds.drop n)
  | _, _, 0, r => r
  | _, _, _ + 1, .nil => .nil
  | _, _, n + 1, .cons _ s => Reps.drop n s
theorem Reps.set {v : V} {d : D} (h : Rep K st H v d) : ∀ {vs : List V} {ds : List D} (n : Nat), Reps K st H vs ds → Reps K st H (vs.set n v) (ds.set n d)
  | _, _, _, .nil => .nil
  | _, _, 0, .cons _ s => .cons h s
  | _, _, n + 1, .cons r s => .cons r (Reps.set h n s)
theorem Reps.ints : ∀ ns : List Int, Reps K st H (ns.map V.int) (ns.map D.int)
  | [] => .nil
  | n :: r => .cons (.int n) (Reps.ints r)
theorem Reps.one {v : V} {ds : List D} (h : Reps K st H [v] ds) : ∃ d, ds = [d] ∧ Rep K st H v d := by
  cases h with
  | cons r s => cases s; exact ⟨_, rfl, r⟩

theorem StoOk.there {p : Addr} {o : MO} (h : StoOk K st H) (e : st p = some o) : H p ≠ none := by
  cases o with
  | lst ds =>
    obtain ⟨_, xs, z, _⟩ := h.c p _ e
    rw [z]
    exact fun q => by cases q
  | dct t kvs =>
    obtain ⟨_, _, xs, z, _⟩ := h.c p _ e
    rw [z]
    exact fun q => by cases q
theorem StoOk.free {p : Addr} (h : StoOk K st H) (e : H p = none) : st p = none := by
  cases q : st p with
  | none => rfl
  | some o => exact absurd e (h.there q)
theorem StoOk.nohs {p : Addr} (h : StoOk K st H) (e : H p = none) : ¬ K.hs p := fun z => (h.h p z).1 e
theorem StoOk.nohs2 {p : Addr} {o : MO} (h : StoOk K st H) (e : st p = some o) : ¬ K.hs p := fun z => by
  have := (h.h p z).2
  rw [e] at this
  cases this
theorem MOk.mon {a : Addr} {o : MO} (t : RSt K K2 st H st2 H2) (e : H2 a = H a) (h : MOk K st H a o) : MOk K2 st2 H2 a o := by
  cases o with
  | lst ds =>
    obtain ⟨y, xs, z, r⟩ := h
    exact ⟨y, xs, e.trans z, r.mon t⟩
  | dct tt kvs =>
    obtain ⟨y, y2, xs, z, r⟩ := h
    exact ⟨y, y2, xs, e.trans z, r.mon t⟩
theorem StoOk.mon (h : StoOk K st H) (t : RSt K K2 st H st H2) (e : ∀ a o, st a = some o → H2 a = H a) (n : ∀ a, K2.hs a → H2 a ≠ none ∧ st a = none) : StoOk K2 st H2 := ⟨fun a o q => (h.c a o q).mon t (e a o q), n⟩
theorem StoOk.sub (h : StoOk K st2 H) (s : Sub st st2) : StoOk K st H := ⟨fun a o e => (h.c a o (s a o e)).mon (Step.sub s).rst rfl, fun a z => ⟨(h.h a z).1, s.free (h.h a z).2⟩⟩
theorem upd_some {H : Hp} {p a : Addr} {o : HO} (h : H a ≠ none) : upd H p o a ≠ none := by
  by_cases z : a = p
  · subst z; rw [upd_same]; exact fun q => by cases q
  · rw [upd_ne z]; exact h
/-- a new thing that the store does not hold -/
theorem StoOk.new {p : Addr} {o : HO} (h : StoOk K st H) (e : H p = none) : StoOk K st (upd H p o) := h.mon (Step.new e).rst (fun a x q => by
  refine upd_ne ?_
  rintro rfl
  rw [h.free e] at q
  cases q) fun a z => ⟨upd_some (h.h a z).1, (h.h a z).2⟩
/-- a new list -/
theorem StoOk.newLst {p : Addr} {xs : List V} {ds : List D} (h : StoOk K st H) (e : H p = none) (r : Reps K st H xs ds) (hz : ds.length ≤ sizeLine) : StoOk K (put st p (.lst ds)) (upd H p (.lst xs)) := by
  refine ⟨fun a x q => ?_, fun a z => ⟨upd_some (h.h a z).1, ?_⟩⟩
  · by_cases z : a = p
    · subst z
      rw [put_same] at q
      cases q
      exact ⟨hz, xs, upd_same, r.mono (.newPut e)⟩
    · rw [put_ne z] at q
      exact (h.c a x q).mon (Step.newPut e).rst (upd_ne z)
  · rw [put_ne]
    · exact (h.h a z).2
    · rintro rfl
      exact h.nohs e z
/-- what is stored is no tuple, no table .. -/
theorem MOk.kind {a : Addr} {o : MO} (h : MOk K st H a o) : (∀ xs, H a ≠ some (.tup xs)) ∧ (∀ o u, H a ≠ some (.frz o u)) ∧ (∀ ps, H a ≠ some (.tbl ps)) ∧ ∀ φ, H a ≠ some (.ext φ) := by
  cases o with
  | lst ds =>
    obtain ⟨_, xs, e, _⟩ := h
    rw [e]
    exact ⟨fun _ z => (by cases z), fun _ _ z => (by cases z), fun _ z => (by cases z), fun _ z => (by cases z)⟩
  | dct t kvs =>
    obtain ⟨_, _, xs, e, _⟩ := h
    rw [e]
    obtain ⟨a1, a2, a3, a4, a5⟩ := dHO_ne (t := t) (ks := kvs.map (·.1)) (xs := xs)
    exact ⟨fun _ z => a1 _ (Option.some.inj z), fun _ _ z => a2 _ _ (Option.some.inj z), fun _ z => a3 _ (Option.some.inj z), fun _ z => a5 _ (Option.some.inj z)⟩
/-- a new dict -/
theorem StoOk.newDct {p : Addr} {t : Bool} (h : StoOk K st H) (e : H p = none) : StoOk K (put st p (.dct t [])) (upd H p (dHO t [] [])) := by
  refine ⟨fun a x q => ?_, fun a z => ⟨upd_some (h.h a z).1, ?_⟩⟩
  · by_cases z : a = p
    · subst z
      rw [put_same] at q
      cases q
      exact ⟨Nat.zero_le _, fun _ m => (by cases m), [], upd_same, .nil⟩
    · rw [put_ne z] at q
      exact (h.c a x q).mon (Step.newPut e).rst (upd_ne z)
  · rw [put_ne]
    · exact (h.h a z).2
    · rintro rfl
      exact h.nohs e z
/-- a dict changed -/
theorem StoOk.setDct {p : Addr} {xs : List V} {t : Bool} {kvs : List (List Key × D)} {o : MO} (h : StoOk K st H) (e : st p = some o) (r : Reps K st H xs (kvs.map (·.2))) (hz : kvs.length ≤ sizeLine) (hk : ∀ p ∈ kvs, p.1.length ≤ sizeLine ∧ (t = false → ∃ q, p.1 = [q])) :
    StoOk K (put st p (.dct t kvs)) (upd H p (dHO t (kvs.map (·.1)) xs)) ∧ Step K st H (put st p (.dct t kvs)) (upd H p (dHO t (kvs.map (·.1)) xs)) := by
  obtain ⟨k1, k2, k3, k4⟩ := (h.c p _ e).kind
  have tt : Step K st H (put st p (.dct t kvs)) (upd H p (dHO t (kvs.map (·.1)) xs)) := .at k1 k2 k3 (.inr (by rw [e]; exact fun z => by cases z)) (fun a n q => by rw [put_ne n]; exact q) k4
  refine ⟨⟨fun a x q => ?_, fun a z => ⟨upd_some (h.h a z).1, ?_⟩⟩, tt⟩
  · by_cases z : a = p
    · subst z
      rw [put_same] at q
      cases q
      exact ⟨hz, hk, xs, upd_same, r.mono tt⟩
    · rw [put_ne z] at q
      exact (h.c a x q).mon tt.rst (upd_ne z)
  · rw [put_ne]
    · exact (h.h a z).2
    · rintro rfl
      exact h.nohs2 e z
/-- a dict that no one changes any more -/
theorem StoOk.lockDct {p : Addr} {t : Bool} {kvs : List (List Key × D)} (h : StoOk K st H) (e : st p = some (.dct t kvs)) : ∃ xs, H p = some (dHO t (kvs.map (·.1)) xs) ∧ ∀ od : Obj,
    Step K st H (del st p) (upd H p (.frz od (dHO t (kvs.map (·.1)) xs))) ∧ StoOk K (del st p) (upd H p (.frz od (dHO t (kvs.map (·.1)) xs))) ∧ Rep K (del st p) (upd H p (.frz od (dHO t (kvs.map (·.1)) xs))) (.ref p) (.fd t kvs) := by
  obtain ⟨k1, k2, k3, k4⟩ := (h.c p _ e).kind
  obtain ⟨hz, hk, xs, hx, r⟩ := h.c p _ e
  refine ⟨xs, hx, fun od => ?_⟩
  have tt : Step K st H (del st p) (upd H p (.frz od (dHO t (kvs.map (·.1)) xs))) := .at k1 k2 k3 (.inr (by rw [e]; exact fun z => by cases z)) (fun a n q => by rw [del_ne n]; exact q) k4
  refine ⟨tt, ⟨fun a x q => ?_, fun a z => ⟨upd_some (h.h a z).1, ?_⟩⟩, .fd upd_same hk (r.mono tt) hz⟩
  · have ne : a ≠ p := by
      rintro rfl
      rw [del_same] at q
      cases q
    rw [del_ne ne] at q
    exact (h.c a x q).mon tt.rst (upd_ne ne)
  · by_cases c : a = p
    · subst c; exact del_same
    · rw [del_ne c]
      exact (h.h a z).2
/-- a list changed -/
theorem StoOk.setLst {p : Addr} {xs : List V} {ds es : List D} (h : StoOk K st H) (e : st p = some (.lst es)) (r : Reps K st H xs ds) (hz : ds.length ≤ sizeLine) : StoOk K (put st p (.lst ds)) (upd H p (.lst xs)) ∧ Step K st H (put st p (.lst ds)) (upd H p (.lst xs)) := by
  obtain ⟨_, ys, hy, _⟩ := h.c p _ e
  have t : Step K st H (put st p (.lst ds)) (upd H p (.lst xs)) := .set hy (by rw [e]; exact fun z => by cases z)
  refine ⟨⟨fun a x q => ?_, fun a z => ⟨upd_some (h.h a z).1, ?_⟩⟩, t⟩
  · by_cases z : a = p
    · subst z
      rw [put_same] at q
      cases q
      exact ⟨hz, xs, upd_same, r.mono t⟩
    · rw [put_ne z] at q
      exact (h.c a x q).mon t.rst (upd_ne z)
  · rw [put_ne]
    · exact (h.h a z).2
    · rintro rfl
      exact h.nohs2 e z
/-! a place p that is hidden -/
def KH.hide (K : KH) (p : Addr) : KH := ⟨K.K, fun a => K.hs a ∨ a = p⟩
theorem RSt.hide {p : Addr} (h : H p = none) : RSt K (K.hide p) st H st H := ⟨rfl, fun _ _ h => h, fun _ _ _ h => h, fun a xs e n q => ⟨e, n, fun z => z.elim q (by rintro rfl; rw [h] at e; cases e)⟩⟩
theorem RSt.show_ {p : Addr} : RSt (K.hide p) K st H st H := ⟨rfl, fun _ _ h => h, fun _ _ _ h => h, fun _ _ e n q => ⟨e, n, fun z => q (.inl z)⟩⟩
theorem RSt.trans {K3 : KH} (a : RSt K K2 st H st2 H2) (b : RSt K2 K3 st2 H2 st3 H3) : RSt K K3 st H st3 H3 :=
  ⟨b.kk.trans a.kk, fun x xs h => b.tup x xs (a.tup x xs h), fun x o u h => b.frz x o u (a.frz x o u h), fun x xs h e n => let ⟨h1, e1, n1⟩ := a.fz x xs h e n; b.fz x xs h1 e1 n1⟩
/-- a hidden list laid -/
theorem RSt.hideNew {p : Addr} {o : HO} (h : H p = none) : RSt K (K.hide p) st H st (upd H p o) := (RSt.hide (K := K) (st := st) h).trans (Step.new h).rst
theorem StoOk.hideNew {p : Addr} {o : HO} (so : StoOk K st H) (h : H p = none) : StoOk (K.hide p) st (upd H p o) := so.mon (RSt.hideNew h) (fun a x e => by
  refine upd_ne ?_
  rintro rfl
  rw [so.free h] at e
  cases e) fun a z => by
  rcases z with z | rfl
  · exact ⟨upd_some (so.h a z).1, (so.h a z).2⟩
  · refine ⟨?_, so.free h⟩
    rw [upd_same]
    exact fun q => (by cases q)
theorem StoOk.unhide {p : Addr} (so : StoOk (K.hide p) st H) : StoOk K st H := so.mon RSt.show_ (fun _ _ _ => rfl) fun a z => so.h a (.inl z)
/-- a hidden list changed -/
theorem RSt.hid {p : Addr} {o : HO} {ys : List V} (h : H p = some (.lst ys)) (q : K.hs p) : RSt K K st H st (upd H p o) := by
  refine ⟨rfl, fun a xs e => ?_, fun a o u e => ?_, fun a xs e n m => ?_⟩
  · rw [upd_ne]
    · exact e
    · rintro rfl; rw [h] at e; cases e
  · rw [upd_ne]
    · exact e
    · rintro rfl; rw [h] at e; cases e
  · rw [upd_ne]
    · exact ⟨e, n, m⟩
    · rintro rfl; exact m q
theorem StoOk.hid {p : Addr} {o : HO} {ys : List V} (so : StoOk K st H) (h : H p = some (.lst ys)) (q : K.hs p) : StoOk K st (upd H p o) := so.mon (RSt.hid h q) (fun a x e => by
  refine upd_ne ?_
  rintro rfl
  exact so.nohs2 e q) fun a z => ⟨upd_some (so.h a z).1, (so.h a z).2⟩

/-! ### slots -/
abbrev DSt := List (Option D)
def SRep (K : KH) (st : Sto) (H : Hp) (s : L2.St) (z : DSt) : Prop := s.length = z.length ∧ ∀ (i : Nat) d, z[i]? = some (some d) → ∃ v, s[i]? = some (some v) ∧ Rep K st H v d
theorem SRep.mono {s : L2.St} {z : DSt} (h : SRep K st H s z) (t : Step K st H st2 H2) : SRep K st2 H2 s z := ⟨h.1, fun i d e => let ⟨v, a, b⟩ := h.2 i d e; ⟨v, a, b.mono t⟩⟩
theorem SRep.set {s : L2.St} {z : DSt} {v : V} {d : D} (i : Nat) (h : SRep K st H s z) (r : Rep K st H v d) : SRep K st H (s.set i (some v)) (z.set i (some d)) := by
  refine ⟨by rw [List.length_set, List.length_set]; exact h.1, fun j x e => ?_⟩
  by_cases q : i = j
  · subst q
    have hl : i < z.length := by
      obtain ⟨h, _⟩ := List.getElem?_eq_some_iff.mp e
      simpa using h
    rw [List.getElem?_set_self hl] at e
    cases e
    exact ⟨v, List.getElem?_set_self (by rw [h.1]; exact hl), r⟩
  · rw [List.getElem?_set_ne q] at e ⊢
    exact h.2 j x e
theorem SRep.unset {s : L2.St} {z : DSt} (i : Nat) (h : SRep K st H s z) : SRep K st H (s.set i none) (z.set i none) := by
  refine ⟨by rw [List.length_set, List.length_set]; exact h.1, fun j x e => ?_⟩
  by_cases q : i = j
  · subst q
    by_cases hl : i < z.length
    · rw [List.getElem?_set_self hl] at e
      cases e
    · rw [List.getElem?_eq_none (by simpa using hl)] at e
      cases e
  · rw [List.getElem?_set_ne q] at e ⊢
    exact h.2 j x e
/-- what was true at the start of a def and stays true -/
structure BP where
  p : KH → Sto → Hp → Prop
  step : ∀ {K : KH} {st : Sto} {H : Hp} {st2 : Sto} {H2 : Hp}, p K st H → Step K st H st2 H2 → p K st2 H2
  T : Addr → Prop
  tab : ∀ {K : KH} {st : Sto} {H : Hp}, p K st H → ∀ P, T P → Tb H P
/-- nothing but the tables -/
def BT (T : Addr → Prop) : BP := ⟨fun _ _ H => ∀ P, T P → Tb H P, fun h t P hP => t.tab P (h P hP), T, fun h => h⟩
structure SR (B : BP) (K : KH) (st : Sto) (H : Hp) (s : L2.St) (z : DSt) : Prop where
  r : SRep K st H s z
  b : B.p K st H
theorem SR.mono {B : BP} {s : L2.St} {z : DSt} (h : SR B K st H s z) (t : Step K st H st2 H2) : SR B K st2 H2 s z := ⟨h.r.mono t, B.step h.b t⟩
theorem SR.set {B : BP} {s : L2.St} {z : DSt} {v : V} {d : D} (i : Nat) (h : SR B K st H s z) (r : Rep K st H v d) : SR B K st H (s.set i (some v)) (z.set i (some d)) := ⟨h.r.set i r, h.b⟩
theorem SR.at {B : BP} {s s2 : L2.St} {z z2 : DSt} (h : SR B K st H s z) (t : Step K st H st2 H2) (r : SRep K st2 H2 s2 z2) : SR B K st2 H2 s2 z2 := ⟨r, B.step h.b t⟩
def dwipe (z : DSt) : List Nat → DSt
  | [] => z
  | v :: vs => (dwipe z vs).set v none
theorem SRep.wipe {s : L2.St} {z : DSt} (h : SRep K st H s z) : ∀ vs : List Nat, SRep K st H (L2.wipe s vs) (dwipe z vs)
  | [] => h
  | v :: vs => (SRep.wipe h vs).unset v
def dstart (n : Nat) (ds : List D) : DSt := ds.map some ++ List.replicate (n - ds.length) none
theorem SRep.start {vs : List V} {ds : List D} {N : List Str} (r : Reps K st H vs ds) : SRep K st H (L2.start N vs) (dstart N.length ds) := by
  refine ⟨?_, fun i d e => ?_⟩
  · unfold L2.start dstart
    simp [r.length]
  · unfold dstart at e
    unfold L2.start
    by_cases hi : i < ds.length
    · rw [List.getElem?_append_left (by simpa using hi), List.getElem?_map] at e
      cases q : ds[i]? with
      | none => rw [q] at e; simp at e
      | some x =>
        rw [q] at e
        simp at e
        subst e
        obtain ⟨v, h1, h2⟩ := r.get q
        exact ⟨v, by rw [List.getElem?_append_left (by simpa [r.length] using hi), List.getElem?_map, h1]; rfl, h2⟩
    · rw [List.getElem?_append_right (by simpa using hi)] at e
      have := List.mem_of_getElem? e
      simp at this
end
end Fy

/-! sorted(a tuple): of ints, of pairs of ints. -/
namespace Fy
open PySem PySem.Spec PyProof.Rows L2 SrtO
section
variable {prog : Program} {w : World} {A : Around} {E : Value → Shared → Prop} {s : Shared}
theorem coll_tup {l : Addr} {o : Obj} {vs : List Value} {n : Nat} {Q : List Value → Shared → Prop} (ho : s.heap.get? l = some o) (hc : o.cls = .type "tuple") (hd : o.data = .seq vs.toArray n) (hz : vs.length ≤ sizeLine)
    (h : Q vs { s with heap := (s.heap.push (seqObj "list" #[] 0)).update s.heap.objs.size (Obj.mapSeq (· ++ vs.toArray)) }) : wpAny (model prog w) A (collect (.ref l)) Q E s := by
  unfold collect
  refine wpAny_bind <| wpAny_runValue <| codeAny_builtin F.entry_proto_collect ?_
  rw [(Around.under_plainId F.plain_proto_collect _)]
  show wpAny _ A.in1 (newList [] >>= fun y => again (.builtin "list.__iadd__" ⟨[y, .ref l], []⟩)) _ _ s
  refine wpAny_bind <| wpAny_newObj_type ?_
  refine wpAny_pure ⟨plainId_quiet F.plain_list_iadd _, codeAny_builtin F.entry_list_iadd ?_⟩
  rw [(Around.under_plainId F.plain_list_iadd _)]
  show wpAny _ A.in1 (Builtin.List.listExtendWith (.ref s.heap.objs.size) (.ref l) (.ref s.heap.objs.size)) _ _ { s with heap := s.heap.push (seqObj "list" #[] 0) }
  have hS : (s.heap.push (seqObj "list" #[] 0)).get? s.heap.objs.size = some (seqObj "list" #[] 0) := Heap.get?_push_size _ rfl
  refine wpAny_mono (wpAny_extend_seq (A := A) (R := fun rr s2 => rr = .ok (.ret (.ref s.heap.objs.size)) ∧ s2 = { s with heap := (s.heap.push (seqObj "list" #[] 0)).update s.heap.objs.size (Obj.mapSeq (· ++ vs.toArray)) }) (s := { s with heap := s.heap.push (seqObj "list" #[] 0) }) s.heap.objs.size l (.ref s.heap.objs.size) 0 (.inr rfl) hS (Heap.get?_push_of_some _ ho) hc hd ⟨rfl, rfl⟩ (by simpa using hz)) (fun fin s2 z => ?_) fun e s2 z => absurd z.1 (by simp)
  have e : ((#[] : Array Value) ++ vs.toArray).toList = vs := by simp
  have done : wpAny (model prog w) A (load s.heap.objs.size >>= fun o => match o.data with
      | .seq xs _ => pure xs.toList
      | _ => unsupported "internal:collect") Q E { s with heap := (s.heap.push (seqObj "list" #[] 0)).update s.heap.objs.size (Obj.mapSeq (· ++ vs.toArray)) } := by
    refine wpAny_bind <| wpAny_load (get?_update_seq hS _) ?_
    show wpAny _ _ (pure ((#[] : Array Value) ++ vs.toArray).toList) Q E _
    rw [e]
    exact wpAny_pure h
  cases fin with
  | done f =>
    obtain ⟨z, rfl⟩ := z
    cases z
    exact done
  | again c =>
    refine ⟨z.1, codeAny_mono z.2 fun rr s3 y => ?_⟩
    obtain ⟨rfl, rfl⟩ := y
    exact done
theorem sorted_tup {l : Addr} {o : Obj} {vs : List Value} {n : Nat} {ltv : Value → Value → Bool} {Q : Value → Shared → Prop} (O : Swo ltv) (ho : s.heap.get? l = some o) (hc : o.cls = .type "tuple") (hd : o.data = .seq vs.toArray n) (hz : vs.length ≤ sizeLine)
    (hS : 2 ≤ vs.length → ∀ (h₁ : Heap) (a : Addr), h₁.get? a = some (seqObj "list" vs.toArray 0) → (∀ b o, s.heap.get? b = some o → b ≠ a ∧ h₁.get? b = some o) → SortableO prog w A.in1.in1 { s with heap := h₁ } a vs ltv)
    (h : ∀ out : List Value, Srtd ltv out → Stb ltv out vs → Q (.ref (s.heap.objs.size + 1)) { s with heap := sortedAll s.heap vs out.toArray }) :
    wpAny (model prog w) A (call (.builtin "sorted") [.ref l]) Q E s := by
  refine Calls.call_function_entry kind_sorted plain_sorted entry_sorted (args_sorted1 _) ?_
  unfold Builtin.«sorted»
  refine wpAny_bind (m := checkCount "sorted" 1 1 _) <| wpAny_pure ?_
  refine wpAny_bind (coll_tup ho hc hd hz ?_)
  refine wpAny_bind (wpAny_newList (hsz := hz) ?_)
  let h1 : Heap := (s.heap.push (seqObj "list" #[] 0)).update s.heap.objs.size (Obj.mapSeq (· ++ vs.toArray))
  have sz : h1.objs.size = s.heap.objs.size + 1 := by
    show ((s.heap.push (seqObj "list" #[] 0)).update s.heap.objs.size (Obj.mapSeq (· ++ vs.toArray))).objs.size = _
    rw [Heap.size_update, size_push']
  have at2 : (h1.push (seqObj "list" vs.toArray 0)).get? (s.heap.objs.size + 1) = some (seqObj "list" vs.toArray 0) := by
    rw [← sz]; exact Heap.get?_push_size _ rfl
  have keep : ∀ b o, s.heap.get? b = some o → b ≠ s.heap.objs.size + 1 ∧ (h1.push (seqObj "list" vs.toArray 0)).get? b = some o := fun b o q => by
    have lt : b < s.heap.objs.size := Heap.lt_size q
    refine ⟨Nat.ne_of_lt (Nat.lt_succ_of_lt lt), Heap.get?_push_of_some _ ?_⟩
    show ((s.heap.push (seqObj "list" #[] 0)).update s.heap.objs.size (Obj.mapSeq (· ++ vs.toArray))).get? b = _
    rw [(Heap.get?_update_ne _ _ _ _ (Nat.ne_of_lt lt))]
    exact Heap.get?_push_of_some _ q
  show wpAny _ _ _ _ _ { s with heap := h1.push (seqObj "list" vs.toArray 0) }
  rw [sz]
  refine wpAny_bind (wpAny_holding (wpAny_call_entry slot_list_sort ⟨_, at2, rfl⟩ entry_list_sort (list_sort_ord O at2 hz (fun q => hS q _ _ at2 keep) fun out a b => ⟨_, rfl, ?_⟩) (args_list_sort _)))
  exact wpAny_pure ⟨_, rfl, h out a b⟩
end
section
variable {X : Cx}
/-- sorted(a tuple of ints) -/
def rSrtTI (K : PySem.W.Frag) : List V → Hp → VK → Prop := fun vs H Q => ∃ (a : Addr) (ns : List Int), vs = [V.ref a] ∧ SqT K H a (ns.map V.int) ∧
  ∀ (ms : List Int) (p : Addr), ms.Perm ns → ms.Pairwise (· ≤ ·) → H p = none → Q (.ref p) (upd H p (.lst (ms.map V.int)))
/-- sorted(a tuple of pairs of ints) -/
def rSrtTP (K : PySem.W.Frag) : List V → Hp → VK → Prop := fun vs H Q => ∃ (a : Addr) (xs : List V) (k : V → Int × Int), vs = [V.ref a] ∧ SqT K H a xs ∧ (∀ x ∈ xs, ∃ t, x = V.ref t ∧ H t = some (.tup [.int (k x).1, .int (k x).2])) ∧
  ∀ ys p, Srtd (ltP k) ys → Stb (ltP k) ys xs → H p = none → Q (.ref p) (upd H p (.lst ys))
theorem cr_srtTI : CallR X (.builtin "sorted") (rSrtTI X.K) := by
  intro pins s σ H vs us Q I r h
  obtain ⟨a, ns, rfl, hs, q⟩ := h
  obtain ⟨its, rv, ⟨o, ho, hc, n, hd⟩, hz⟩ := I.tuple hs
  rw [Vals.ref1 r]
  have hi := rv.ints
  refine sorted_tup swo_int ho hc hd (by rw [← rv.length]; exact hz) (fun q1 q2 q3 _ _ => ints_sortable hi q1) fun out h1 h2 => ?_
  obtain ⟨k1, k2, k3⟩ := ints_out hi h1 h2
  obtain ⟨ep, e2⟩ := PyProof.Rows.sortedAll_at s.heap its out.toArray
  have hl : ((out.map iv).map V.int).length ≤ sizeLine := by
    rw [List.length_map, k2.length_eq]
    simpa using hz
  exact ⟨.ref _, upd H (s.heap.objs.size + 1) (.lst ((out.map iv).map V.int)), I.laid (t' := s.toks) (fun _ _ => PyProof.Rows.sortedAll_old) (Nat.le_succ _) ⟨hl, out, ep, vals_of_ints k1, e2⟩, rfl, q _ _ k2 k3 (I.hok.fresh (Nat.le_succ _))⟩
theorem cr_srtTP : CallR X (.builtin "sorted") (rSrtTP X.K) := by
  intro pins s σ H vs us Q I r h
  obtain ⟨a, xs, k, rfl, hs, hx, q⟩ := h
  obtain ⟨its, rv, ⟨o, ho, hc, n, hd⟩, hz⟩ := I.tuple hs
  rw [Vals.ref1 r]
  obtain ⟨e1, e2⟩ := refs_back rv fun x m => (hx x m).imp fun t z => z.1
  have hp : ∀ v ∈ its, Srt.IsPair s.heap v (k (backV v)).1 (k (backV v)).2 := fun v hv => by
    obtain ⟨t, rfl⟩ := e2 v hv
    obtain ⟨t', e, ht⟩ := hx (V.ref t) (by rw [e1]; exact List.mem_map.mpr ⟨_, hv, rfl⟩)
    cases e
    obtain ⟨_, its2, r2, o2, ho2, hc2, n2, hd2⟩ := I.hok _ _ ht
    obtain ⟨u1, u2, rfl, ⟨t1, rfl⟩, ⟨t2, rfl⟩⟩ := vals2 r2
    exact ⟨t, o2, t1, t2, n2, rfl, ho2, hc2, hd2⟩
  refine sorted_tup (swo_lex fun v => k (backV v)) ho hc hd (by rw [← rv.length]; exact hz) (fun q1 h₁ a ha kk => ?_) fun out h1 h2 => ?_
  · refine pairs_sortableO (s := { s with heap := h₁ }) (by omega) (fun v hm => (hp v hm).keeps fun b o e _ => (kk b o e).2) fun o e => ?_
    cases (show some o = some (seqObj "list" its.toArray 0) from e.symm.trans ha)
    exact fun c => absurd (Value.type.inj c) (by decide)
  · obtain ⟨ep, e3⟩ := PyProof.Rows.sortedAll_at s.heap its out.toArray
    have hb : Stb (ltP k) (out.map backV) xs := by
      rw [e1]
      exact Stb.map (ltP_swo k) backV h2
    have h3 : ∀ u ∈ out, ∃ a, u = Value.ref a := fun u hu => e2 u (h2.perm.mem_iff.mp hu)
    exact ⟨.ref _, upd H (s.heap.objs.size + 1) (.lst (out.map backV)), I.laid (t' := s.toks) (fun _ _ => PyProof.Rows.sortedAll_old) (Nat.le_succ _) ⟨by rw [hb.len]; exact hz, out, ep, vals_back h3, e3⟩, rfl, q _ _ (srtd_map h1) hb (I.hok.fresh (Nat.le_succ _))⟩
end
end Fy

/-! enumerate(a tuple). -/
namespace Fy
open PySem PySem.Spec PyProof.Rows L2
set_option maxHeartbeats 1000000 in
theorem meets_enumT (l : Addr) (items : Array Value) : Meets (Builtin.«enumerate.__new__» ⟨[.type "enumerate", .ref l], []⟩) (fun _ R s => s.heap.IsTuple l items ∧
      R (.ok (.ret (.ref (s.heap.push { cls := .type "tuple_iterator", data := .fields #[.ref l, .int 0 0] }).objs.size))) { s with heap := (s.heap.push { cls := .type "tuple_iterator", data := .fields #[.ref l, .int 0 0] }).push { cls := .type "enumerate", data := .fields #[.none, .bool false, .ref s.heap.objs.size, rawInt 0, .none, .none] } }) :=
  .of_wp fun prog w A R s h => by
    obtain ⟨hp, g, d, tk, os⟩ := s
    obtain ⟨h1, h⟩ := h
    have hsub := sub_enumerate
    have it1 : ∀ {A2 : Around} {E : Value → Shared → Prop} {Q : Value → Shared → Prop}, Q (.ref hp.objs.size) ⟨hp.push { cls := .type "tuple_iterator", data := .fields #[.ref l, .int 0 0] }, g, d, tk, os⟩ → wpAny (model prog w) A2 (pyIter (.ref l)) Q E ⟨hp, g, d, tk, os⟩ :=
      fun q => (begins_tuple l items).iter prog w _ _ ⟨hp, g, d, tk, os⟩ _ h1 q
    wp_walk using it1
    refine wpAny_stack_any fun st => wpAny_pure ?_
    split
    · rename_i c _ _ _ _ _
      cases (c == Value.type "enumerate") <;> (wp_walk using it1; exact ⟨_, rfl, h⟩)
    · wp_walk using it1
      exact ⟨_, rfl, h⟩
section
variable {prog : Program} {w : World} {A : Around} {E : Value → Shared → Prop} {s : Shared}
theorem call_enumT {l : Addr} {items : Array Value} {Q : Value → Shared → Prop} (hL : s.heap.IsTuple l items)
    (h : ∀ h', IsEnum h' (s.heap.objs.size + 1) s.heap.objs.size 0 .none → h'.get? s.heap.objs.size = some { cls := .type "tuple_iterator", data := .fields #[.ref l, .int 0 0] } → (∀ b o, s.heap.get? b = some o → h'.get? b = some o) → Q (.ref (s.heap.objs.size + 1)) { s with heap := h' }) :
    wpAny (model prog w) A (call (.type "enumerate") [.ref l]) Q E s := by
  refine callType_new F.called_enumerate (by decide) (F.typeCall_enumerate_1 _) (F.newCall_enumerate_1 _) (fun obj => F.args_object_init_2 obj _) F.entry_enumerate_new (meets_enumT l items) ⟨hL, ?_⟩
  let o1 : Obj := { cls := .type "tuple_iterator", data := .fields #[.ref l, .int 0 0] }
  have hz : (s.heap.push o1).objs.size = s.heap.objs.size + 1 := Heap.size_push ..
  show _ ∧ _
  rw [show (s.heap.push { cls := .type "tuple_iterator", data := .fields #[.ref l, .int 0 0] }).objs.size = s.heap.objs.size + 1 from hz]
  have he : IsEnum ((s.heap.push o1).push { cls := .type "enumerate", data := .fields #[.none, .bool false, .ref s.heap.objs.size, rawInt 0, .none, .none] }) (s.heap.objs.size + 1) s.heap.objs.size 0 .none := by
    have q := Heap.get?_push_size (s.heap.push o1) (o := { cls := .type "enumerate", data := .fields #[.none, .bool false, .ref s.heap.objs.size, rawInt 0, .none, .none] }) rfl
    rw [hz] at q
    exact q
  exact ⟨⟨_, he, rfl⟩, h _ he (Heap.get?_push_of_some _ (Heap.get?_push_size _ rfl)) fun b o x => Heap.get?_push_of_some _ (Heap.get?_push_of_some _ x)⟩
theorem enumT_end {e it a : Addr} {items : Array Value} {i : Nat} {old : Value} {Q : Option Value → Shared → Prop} (hh : A.handled = none) (he : IsEnum s.heap e it i old) (hit : s.heap.IsTupleIter it a i) (ht : s.heap.IsTuple a items) (hi : items.size ≤ i)
    (hQ : ∀ h', Heap.ExtBut it s.heap h' → Q none { s with heap := h' }) : wpAny (model prog w) A (pyNext (.ref e)) Q E s := by
  have hT : s.TypeIs (.ref e) "enumerate" := ⟨_, he, rfl⟩
  unfold pyNext
  refine wpAny_bind <| wpAny_attempt <| wpAny_callSpecial?_slot (name := Str.ofString "__next__") hT F.slot_enumerate_next <| wpAny_call_entry F.slot_enumerate_next hT F.entry_enumerate_next ?_ (F.args_enumerate_next_1 _)
  show wpAny _ _ (field (.ref e) 2 >>= _) _ _ _
  refine wpAny_bind <| wpAny_field he rfl (x := .ref it) rfl ?_
  refine wpAny_bind <| wpAny_nextOf_tuple_end hh hit ht (by simp [hi]) fun h2 x e2 hx => ?_
  obtain ⟨o, ho, hc⟩ := hx
  refine wpAny_bind <| wpAny_isInstance (T := "StopIteration") (b := true) ⟨o, ho, hc⟩ isSubtype_stop ?_
  exact wpAny_pure (hQ _ e2)
end
/-- the tuple at a, each item in a new pair -/
def IteT (K : PySem.W.Frag) (a : Addr) : It :=
  ⟨fun i H => ∃ (xs : List V) (x : V), SqT K H a xs ∧ xs[i]? = some x, fun i H v H2 => ∃ T x, v = .ref T ∧ H T = none ∧ H2 = upd H T (.tup [.int (i : Nat), x]) ∧ ∀ xs, SqT K H a xs → xs[i]? = some x, fun i H => ∃ xs : List V, SqT K H a xs ∧ xs.length ≤ i⟩
theorem turn_enumT {P : Program} {w : World} {K : PySem.W.Frag} {elts : List Expr} {kk : Nat} {tpos : Pos} (a e it : Addr) (ha : a ≠ it) (hea : e ≠ a) :
    Turn P w K (.Tuple elts kk tpos) (IteT K a) [e, it] e (fun i h => (∃ old, IsEnum h e it ((i : Nat) : Int) old) ∧ h.IsTupleIter it a i ∧ e ≠ it) where
  mem := by simp
  obj := fun i h st b hb => by
    obtain ⟨⟨old, he⟩, ⟨o, ho, hc, hd⟩, _⟩ := st
    rcases List.mem_cons.mp hb with z | z
    · rw [z]; exact ⟨_, he, fun v q => nomatch q⟩
    · rw [List.mem_singleton.mp z]; exact ⟨o, ho, fun v q => by rw [hd] at q; cases q⟩
  keep := fun i h h2 st k => let ⟨⟨old, he⟩, hi, hne⟩ := st; ⟨⟨old, k e (by simp) _ he⟩, hi.at fun o q => k it (by simp) o q, hne⟩
  item := by
    intro X hP hw hK hc i pins s σ H E I hf st hg
    subst hP hw hK
    obtain ⟨⟨old, he⟩, hit, hne⟩ := st
    obtain ⟨xs, x, hq, hx⟩ := hg
    obtain ⟨its, rv, p, hz⟩ := I.tuple hq
    obtain ⟨u, hu, ru⟩ := rv.get hx
    have hel : e < s.heap.objs.size := Heap.lt_size he
    have hil : it < s.heap.objs.size := by obtain ⟨_, q, _⟩ := hit; exact Heap.lt_size q
    have hi : i < its.toArray.size := by
      obtain ⟨z, _⟩ := List.getElem?_eq_some_iff.mp hu
      simpa using z
    have hpT : s.heap.IsTuple a its.toArray := p
    have na : (X.A.in1).handled = none := I.ok.hd hc
    refine wpAny_pyNext_enum_itemD (Draws.tuple na it a ha its.toArray) he ⟨hit, hpT⟩ hi hne (by simp [hne, hea]) fun y h2 tk hy ho hs2 hT hsz hk => ?_
    have ey : u = y := by
      have : its.toArray[i]? = some u := by simpa using hu
      exact Option.some.inj (this.symm.trans hy)
    subst ey
    refine ⟨_, rfl, wpAny_letOwnedTupleGo_enum (s := { s with heap := h2, toks := tk + 1 }) ho fun h3 he3 sb => ?_⟩
    have hT2 : h3.get? s.heap.objs.size = some { cls := .type "tuple", data := .seq #[.int i tk, u] } := (sb.2 _ (Nat.ne_of_gt hel)).trans hT
    have new : ObjOk X.prog X.w (upd H s.heap.objs.size (.tup [.int (i : Nat), x])) h3 s.heap.objs.size (.tup [.int (i : Nat), x]) :=
      ⟨by show 2 ≤ sizeLine; decide, [.int i tk, u], .cons ⟨_, rfl⟩ (.cons ru .nil), ⟨_, hT2, rfl, _, rfl⟩⟩
    have I1 : Inv X pins σ (upd H s.heap.objs.size (.tup [.int (i : Nat), x])) { s with heap := h3, toks := tk + 1 } :=
      I.turnedNew (ch := [e, it]) (fun b ob hb q => (sb.2 b (fun z => hb (by simp [z]))).trans (hk b ob (fun z => hb (by simp [z])) (fun z => hb (by simp [z])) q)) hf (Nat.le_refl _) new
    refine ⟨.ref s.heap.objs.size, _, I1, rfl, ⟨_, x, rfl, I.hok.fresh (Nat.le_refl _), rfl, fun ys hy => by rw [I.tuple_inj hy hq]; exact hx⟩, ⟨⟨u, ?_⟩, hs2.1.at fun o q => (sb.2 it (Ne.symm hne)).trans q, hne⟩, fun b hb => ?_⟩
    · have e1 : ((i + 1 : Nat) : Int) = (i : Int) + 1 := by omega
      rw [e1]; exact he3
    · have lt : b < s.heap.objs.size := by
        rcases List.mem_cons.mp hb with z | z
        · rw [z]; exact hel
        · rw [List.mem_singleton.mp z]; exact hil
      rw [upd_ne (Nat.ne_of_lt lt)]
      exact (hf b hb).1
  done := by
    intro X hP hw hK hc i pins s σ H E I hf st hg
    subst hP hw hK
    obtain ⟨⟨old, he⟩, hit, hne⟩ := st
    obtain ⟨xs, hq, hx⟩ := hg
    obtain ⟨its, rv, p, hz⟩ := I.tuple hq
    obtain ⟨f0, f1, f2, f3, f4, f5⟩ := hf it (by simp)
    have hpT : s.heap.IsTuple a its.toArray := p
    have hl : its.toArray.size ≤ i := by simpa [← rv.length] using hx
    refine enumT_end (I.ok.hd hc) he hit hpT hl fun h2 eb => ⟨rfl, I.turned (t' := s.toks) (fun b o hb q => eb b o hb q) f0 f1 f3 f4 f5⟩
  self := fun A i s Q E st h => let ⟨⟨_, he⟩, _⟩ := st; wpAny_pyIter_enum he h
def iEnumA (K : PySem.W.Frag) (ta : TA) : TI := fun σ H R => ta σ H fun vs H1 => ∃ a xs, vs = [.ref a] ∧ ((SqL K H1 a xs ∧ R (Ite K a) H1) ∨ (SqT K H1 a xs ∧ R (IteT K a) H1))
theorem pi_enumA {X : Cx} {e : Expr} {ta : TA} {p pos tpos : Pos} {elts : List Expr} {kk : Nat} (hg : Gl X "enumerate") (hm : X.mg "enumerate" = none) (ha : PA X [e] ta) (hs : starEach [e] X.env = [(false, eval e X.env)]) :
    PI X (.Tuple elts kk tpos) (.Call (.Name "enumerate" p) [e] [] pos) (iEnumA X.K ta) := by
  refine ⟨fun pins s σ H R I h => ?_⟩
  refine Call_ <| ld_blt I hg hm boot_enumerate <| PyProof.Rows.callWith_type1 (thn (ha.run pos pins s σ H _ I h) fun us s1 ⟨vs, H1, I1, r1, q1⟩ => ?_) hs rfl
  obtain ⟨a, xs, rfl, q1⟩ := q1
  rw [Vals.ref1 r1]
  have fpo : ∀ b ∈ [s1.heap.objs.size + 1, s1.heap.objs.size], FpOk X pins H1 b := fun b hb => by
    have hle : s1.heap.objs.size ≤ b := by
      rcases List.mem_cons.mp hb with z | z
      · rw [z]; exact Nat.le_add_right _ _
      · rw [List.mem_singleton.mp z]; exact Nat.le_refl _
    exact I1.fpOk hle (I1.hok.fresh hle)
  rcases q1 with ⟨hq, q⟩ | ⟨hq, q⟩
  · obtain ⟨its, rv, p2, hz⟩ := I1.list hq
    refine call_enumerate_list p2.isList fun h2 he hit hsz hk => wpAny_pyIter_enum he ?_
    exact ⟨s1.heap.objs.size + 1, [s1.heap.objs.size + 1, s1.heap.objs.size], _, _, H1, rfl, I1.kept (t' := s1.toks) hk, turn_enum a (s1.heap.objs.size + 1) s1.heap.objs.size, ⟨⟨.none, he⟩, hit, Nat.succ_ne_self _⟩, fpo, q⟩
  · obtain ⟨its, rv, p2, hz⟩ := I1.tuple hq
    have hpT : s1.heap.IsTuple a its.toArray := p2
    have hal : a < s1.heap.objs.size := by obtain ⟨_, q, _⟩ := hpT; exact Heap.lt_size q
    refine call_enumT hpT fun h2 he hit hk => wpAny_pyIter_enum he ?_
    exact ⟨s1.heap.objs.size + 1, [s1.heap.objs.size + 1, s1.heap.objs.size], _, _, H1, rfl, I1.kept (t' := s1.toks) hk, turn_enumT a (s1.heap.objs.size + 1) s1.heap.objs.size (Nat.ne_of_lt hal) (Nat.ne_of_gt (Nat.lt_succ_of_lt hal)), ⟨⟨.none, he⟩, ⟨_, hit, rfl, rfl⟩, Nat.succ_ne_self _⟩, fpo, q⟩
theorem pi_or {X : Cx} {tg e : Expr} {t u : TI} (h1 : PI X tg e t) (h2 : PI X tg e u) : PI X tg e (fun s H R => t s H R ∨ u s H R) := ⟨fun pins s z H R I h => h.elim (h1.run pins s z H R I) (h2.run pins s z H R I)⟩
end Fy

set_option maxHeartbeats 4000000
/-! tuple * k for k below two -/
namespace Fy
open PySem PySem.Spec PyProof.Rows L2
theorem tmul1 (l : Addr) (items : Array Value) (n : Nat) (dd : Option Addr) (sl : Array (Option Value)) (u : Tok) (c1 : items.isEmpty = false) :
    Meets (Builtin.«tuple.__mul__» ⟨[.ref l, .int 1 u], []⟩) (fun _ R s => s.heap.get? l = some { cls := .type "tuple", dict := dd, data := .seq items n, slots := sl } ∧ R (.ok (.ret (Value.ref l))) s) :=
  .of_wp fun prog w A R s h => by
    obtain ⟨hp, g, d, tk, os⟩ := s
    obtain ⟨hl, h⟩ := h
    have f1 := AutoSeq1.idx_int
    wp_walk using wpAny_loadPart' hl
    repeat (first
      | (refine wpAny_ite_false (decide_eq_false (by decide)) ?_; wp_walk using wpAny_loadPart' hl)
      | (refine wpAny_ite_true (decide_eq_true (by rw [c1]; rfl)) ?_; wp_walk using wpAny_loadPart' hl))
    all_goals exact ⟨_, rfl, h⟩
theorem tmul0 (l : Addr) (items : Array Value) (n : Nat) (dd : Option Addr) (sl : Array (Option Value)) (x : Int) (u : Tok) (c0 : (decide (x < -(2 ^ 63)) || decide (x ≥ 2 ^ 63)) = false) (c1 : (items.isEmpty || x == 1) = false) (c2 : (decide (x ≤ 0) || items.isEmpty) = true) :
    Meets (Builtin.«tuple.__mul__» ⟨[.ref l, .int x u], []⟩) (fun _ R s => s.heap.get? l = some { cls := .type "tuple", dict := dd, data := .seq items n, slots := sl } ∧
      R (.ok (.ret (Value.ref s.heap.objs.size))) { s with heap := s.heap.push { cls := Value.type "tuple", data := Data.seq #[] }, toks := s.toks }) :=
  .of_wp fun prog w A R s h => by
    obtain ⟨hp, g, d, tk, os⟩ := s
    obtain ⟨hl, h⟩ := h
    have f1 := AutoSeq1.idx_int
    wp_walk using wpAny_loadPart' hl
    repeat (first
      | (refine wpAny_ite_false (decide_eq_false (by rw [c0]; exact Bool.false_ne_true)) ?_; wp_walk using wpAny_loadPart' hl)
      | (refine wpAny_ite_false (decide_eq_false (by rw [c1]; exact Bool.false_ne_true)) ?_; wp_walk using wpAny_loadPart' hl)
      | (refine wpAny_ite_true (decide_eq_true c2) ?_; wp_walk using wpAny_loadPart' hl)
      | (refine wpAny_ite_false (decide_eq_false (by decide)) ?_; wp_walk using wpAny_loadPart' hl))
    all_goals exact ⟨_, rfl, h⟩
def rRepU (K : PySem.W.Frag) : R2 := fun x y H Q => ∃ l k xs, x = .ref l ∧ y = .int k ∧ SqT K H l xs ∧ xs ≠ [] ∧ -1000 ≤ k ∧ k ≤ 1 ∧ (k = 1 → Q (.ref l) H) ∧ (k ≤ 0 → ∀ p, H p = none → Q (.ref p) (upd H p (.tup [])))
variable {X : Cx}
theorem op_repU : OpR X (binaryOp .Mult) (rRepU X.K) := by
  intro pins s σ H x y v u Q I rx ry h
  obtain ⟨l, k, xs, rfl, rfl, hT, hne, h1, h2, q1, q2⟩ := h
  cases rx
  obtain ⟨t, rfl⟩ := ry
  obtain ⟨its, r, ⟨⟨cls, dd, data, sl⟩, ho, hc, n, hd⟩, hs⟩ := I.tuple hT
  simp only at hc hd
  subst hc hd
  have hle : its.length = xs.length := r.length.symm
  have hi : its.toArray.isEmpty = false := by
    cases its with
    | nil => exact absurd (List.eq_nil_of_length_eq_zero hle.symm) hne
    | cons a b => rfl
  refine wpAny_binaryOp_repeat_ref (T := "tuple") (U := "int") (by decide) ⟨_, ho, rfl⟩ (fun s' => typeIs_int s' k t) noFill_tuple_mul F.fills_int_mul F.slot_int_rmul repeat_tuple F.slot_int_index.lookup
    (call_meets F.slot_int_rmul (typeIs_int s k t) F.entry_int_rmul (F.args_int_rmul_2 _ _) (int_rmul_tuple k t l its.toArray n dd sl) ⟨ho, rfl, ⟨_, ho, rfl⟩, ?_⟩)
  by_cases e : k = 1
  · subst e
    exact call_meets F.slot_tuple_mul ⟨_, ho, rfl⟩ F.entry_tuple_mul (F.args_tuple_mul_2 _ _) (tmul1 l its.toArray n dd sl t hi) ⟨ho, .ref l, H, I, rfl, q1 rfl⟩
  · have c0 : (decide (k < -(2 ^ 63)) || decide (k ≥ 2 ^ 63)) = false := by
      rw [decide_eq_false (by omega), decide_eq_false (by omega)] <;> rfl
    have c1 : (its.toArray.isEmpty || k == 1) = false := by
      rw [hi, Bool.false_or]
      exact beq_eq_false_iff_ne.mpr e
    have c2 : (decide (k ≤ 0) || its.toArray.isEmpty) = true := by
      rw [decide_eq_true (by omega), Bool.true_or]
    refine call_meets F.slot_tuple_mul ⟨_, ho, rfl⟩ F.entry_tuple_mul (F.args_tuple_mul_2 _ _) (tmul0 l its.toArray n dd sl k t c0 c1 c2) ⟨ho, ?_⟩
    refine ⟨.ref s.heap.objs.size, _, I.laid (t' := s.toks) (o := .tup []) (fun b ob q => Heap.get?_push_of_some _ q) (Nat.le_refl _) ?_, rfl, q2 (by omega) _ (I.hok.fresh (Nat.le_refl _))⟩
    exact ⟨Nat.zero_le _, _, .nil, IsTup.new _ _⟩
def rRepX : R2 := fun x y H Q => ∃ (z : Str) (k : Int), x = .str z ∧ y = .int k ∧ 2 ≤ k ∧ k ≤ 1000 ∧ 1 ≤ z.length ∧ z.length ≤ 1000 ∧ Q (.str ⟨(List.replicate k.toNat z.cps).foldl (· ++ ·) #[]⟩) H
theorem fold_size (z : Array Nat) : ∀ (n : Nat) (acc : Array Nat), ((List.replicate n z).foldl (· ++ ·) acc).size = acc.size + n * z.size
  | 0, acc => by simp
  | n + 1, acc => by
    rw [List.replicate_succ, List.foldl_cons, fold_size z n, Array.size_append, Nat.succ_mul]
    omega
theorem op_repX : OpR X (binaryOp .Mult) rRepX := by
  intro pins s σ H x y v u Q I rx ry h
  obtain ⟨z, k, rfl, rfl, h1, h2, h3, h4, q⟩ := h
  obtain ⟨t, rfl⟩ := rx
  obtain ⟨t2, rfl⟩ := ry
  have e0 : ¬ k < 1 := by omega
  have e1 : ¬ (k == 1 || z.length == 0) = true := by
    rw [Bool.or_eq_true, beq_iff_eq, beq_iff_eq]
    omega
  have hm : z.length * k.toNat ≤ 1000000 := Nat.le_trans (Nat.mul_le_mul h4 (by omega : k.toNat ≤ 1000)) (by decide)
  refine P.mul_str (by rw [decide_eq_false (by omega), decide_eq_false (by omega)]; rfl) (fun _ _ => ?_) (fun _ _ => ?_) ?_
  · have : (1000 : Int) ≤ (2 ^ 63 - 1) / k := by
      rw [Int.le_ediv_iff_mul_le (by omega)]
      omega
    omega
  · unfold Builtin.Str.tooLong
    rw [decide_eq_false]
    have : sizeLine = 16777216 := sizeLine_eq
    omega
  · rw [if_neg e0, if_neg e1]
    refine ⟨?_, .str _, H, I.tok _, ⟨_, rfl⟩, q⟩
    show ((List.replicate k.toNat z.cps).foldl (· ++ ·) #[]).size ≤ sizeLine
    rw [fold_size]
    have e3 : z.cps.size = z.length := rfl
    rw [e3, Nat.mul_comm]
    have : sizeLine = 16777216 := sizeLine_eq
    simp
    omega
end Fy

/-! A small language of slots, and what must hold for a piece of it to bring about a wish. -/
namespace Fy
open PySem PySem.Spec PyProof.Rows L2

inductive BOp where
  | add | sub | mul | fdiv | mod | pow
  deriving DecidableEq
inductive COp where
  | eq | ne | lt | le | gt | ge | is | isnot | isin | notin
  deriving DecidableEq
inductive Bi where
  | abs | len | int | max | min | isi | tuple | list (z : Bool) | sorted (z : Bool) | sum | srd (z : Bool) | best (mx : Bool)
  deriving DecidableEq
/-- a constant of the text's top -/
inductive KC where
  | int (i : Int) | str (x : Str)
  deriving DecidableEq
def KC.d : KC → D
  | .int i => .int i
  | .str x => .str x
def KC.v : KC → V
  | .int i => .int i
  | .str x => .str x
/-- a constant: a text, a bool, None, an int, (text, constant) -/
inductive TC where
  | str (r : Str) | bl (b : Bool) | non | int (z : Int) | pr (t : Str) (c : TC)
  deriving DecidableEq
/-- what an except suite of a def that calls what it is handed returns: a constant, e.f, (text, e.f), a constant behind if isinstance(e, A) and isinstance(e, ValueError) -/
inductive TX where
  | cst (c : TC) | fld (f : Str) | prF (t f : Str) | isx (g : Nat) (c : TC)
  deriving DecidableEq
/-- an except clause: the class, the classes it takes, the slot of the name, what it returns -/
structure HC where
  c : Nat
  cs : List Nat
  i : Option Nat
  x : TX
  deriving DecidableEq
/-- what a def does with what it was handed: return what() / what(), then return a constant / return (text, what()) -/
inductive TM where
  | ret | drop (fb : TC) | tell (t : Str)
  deriving DecidableEq
/-- methods of a list -/
inductive Mt where
  | append | insert | extend | pop | remove
  deriving DecidableEq
/-- who asks a generator expression -/
inductive GM where
  | all | any | sum
  deriving DecidableEq
mutual
inductive Tg where
  | nm (i : Nat) | tp (ts : Tgs)
inductive Tgs where
  | nil | cons (t : Tg) (r : Tgs)
end
mutual
def Tg.slots : Tg → List Nat
  | .nm i => [i]
  | .tp ts => ts.slots
def Tgs.slots : Tgs → List Nat
  | .nil => []
  | .cons t r => t.slots ++ r.slots
end
def Tgs.len : Tgs → Nat
  | .nil => 0
  | .cons _ r => r.len + 1
mutual
inductive IE where
  | var (i : Nat)
  | cint (i : Int) | cbl (b : Bool) | cnon | cstr (x : Str)
  | con (c : KC)
  | cty (n : String)
  | nope
  | bin (o : BOp) (a b : IE)
  | neg (a : IE)
  | cmp (o : COp) (a b : IE)
  | cmp2 (o o2 : COp) (a b c : IE)
  | and (a b : IE) | or (a b : IE) | not (a : IE)
  | ife (t a b : IE)
  | tup (es : IEs)
  | lst (z : Bool) (es : IEs)
  | frz (e : IE)
  | call (f : Nat) (es : IEs)
  | bi (f : Bi) (es : IEs)
  | ix (a b : IE)
  | sl (z : Bool) (a : IE) (lo hi : IEs)
  | lc (own : List Nat) (t : Tg) (it : II) (ts : IEs) (el : IE)
  | mt (m : Mt) (o : IE) (es : IEs)
  | lc2 (own vs1 : List Nat) (t : Tg) (it : II) (ts : IEs) (t1 : Tg) (it1 : II) (ts1 : IEs) (el : IE)
  | lrg1 (z : Bool) (a : IE) | lrg2 (z : Bool) (a b : IE) | rev (z : Bool) (a : IE) | rp (a b : IE)
  | gen (m : GM) (own : List Nat) (t : Tg) (it : II) (ts : IEs) (el : IE)
  | thk (t : Nat) (m : TM) (hs : List HC) (e : IE)
  | dnew (t : Bool) | dg (d k : IE) | din (n : Bool) (k d : IE) | dgt (d k x : IE)
  | srk (z : Bool) (i : Nat) (it : II) (el : IE) | mnk (mx : Bool) (i : Nat) (e el : IE)
  | idx (tp : Bool) (a b : IE) | trv (a : IE) | trg (a b : IE)
  | dis (t : Bool) (es : IEs) | fzd (e : IE) | dln (e : IE) | deq (n : Bool) (a b : IE) | dcp (e : IE) | dpo (d k : IE) | dks (z : Bool) (e : IE)
  | tpx (e : IE) | join (a b : IE) | tdc (e : IE) | dkp (z : Bool) (e : IE)
inductive IEs where
  | nil | cons (e : IE) (r : IEs)
inductive II where
  | val (e : IE) | rng1 (a : IE) | rng2 (a b : IE) | enm (e : IE) | zip (a b : IE) | rngd (a b c : IE) | rvd (a : IE)
end
mutual
inductive IS where
  | ex (e : IE)
  | set (t : Tg) (e : IE)
  | par (i j : Nat) (a b : IE)
  | setIx (a i e : IE)
  | aug (i : Nat) (o : BOp) (e : IE)
  | ifs (t : IE) (a b : ISs)
  | whl (t : IE) (b : ISs)
  | fr (t : Tg) (it : II) (b : ISs)
  | ret (e : IE) | retN | pass | brk | cont | nope
  | par3 (i j l : Nat) (a b c : IE)
  | gh (i : Nat)
  | rs (c : Nat) (es : IEs)
  | tr (b : ISs) (h : IHs)
  | dset (d k v : IE)
  | ghd (i : Nat)
inductive ISs where
  | nil | cons (s : IS) (r : ISs)
/-- except clauses: the class that is named, the classes that are taken, the slot of the name, the suite -/
inductive IHs where
  | nil | cons (c : Nat) (cs : List Nat) (i : Option Nat) (b : ISs) (r : IHs)
  | cx (c : Nat) (cs : List Nat) (i : Nat) (m : Nat) (t f : Str) (b : IE)
end
def IEs.len : IEs → Nat
  | .nil => 0
  | .cons _ r => r.len + 1

/-- an error: the number of its class, what it tells -/
structure Exc where
  cls : Nat
  arg : Option D
abbrev XS := Exc → DSt → Sto → Prop
abbrev Cl := Nat → List D → Sto → (D → Sto → Prop) → (Exc → Sto → Prop) → Prop

/-- the order of rows of ints -/
def lexN : List Int → List Int → Bool
  | x :: xs, y :: ys => if x = y then lexN xs ys else decide (x < y)
  | _, _ => false
/-- keys: ints, or tuples of d ints -/
def KeysD (ks : List D) (rows : List (List Int)) (d : Nat) : Prop := (d = 1 ∧ ∃ ns : List Int, ks = ns.map D.int ∧ rows = ns.map fun n => [n]) ∨ (1 ≤ d ∧ (∀ r ∈ rows, r.length = d) ∧ ks = rows.map fun r => .tup (r.map D.int))
def OutD (rows : List (List Int)) (ds ys : List D) : Prop := ∃ ps : List (List Int × D), ps.Perm (rows.zip ds) ∧ ps.Pairwise (fun a b => lexN b.1 a.1 = false) ∧ ys = ps.map (·.2)
/-- better: the greater (mx), the less -/
def better (mx : Bool) (r rb : List Int) : Bool := if mx = true then lexN rb r else lexN r rb
/-- a key: an int, or a tuple of d ints -/
def KeyD (d : Option Nat) (y : D) (r : List Int) : Prop := match d with
  | none => ∃ n, y = .int n ∧ r = [n]
  | some d => r.length = d ∧ y = .tup (r.map D.int)
def keyL (el : DSt → Sto → (D → Sto → Prop) → Prop) (i : Nat) (s : DSt) : List D → List D → Sto → (List D → Sto → Prop) → Prop
  | [], ks, st, k => k ks st
  | d :: r, ks, st, k => el (s.set i (some d)) st fun y st2 => keyL el i s r (ks ++ [y]) st2 k
def TC.d : TC → D
  | .str r => .str r
  | .bl b => .bl b
  | .non => .non
  | .int z => .int z
  | .pr t c => .tup [.str t, c.d]
def TX.w (t : TX) (x : Exc) (R : D → Prop) : Prop := match t with
  | .cst c => R c.d
  | .fld _ => ∃ y, x.arg = some y ∧ R y
  | .prF t _ => ∃ y, x.arg = some y ∧ R (.tup [.str t, y])
  | .isx _ c => x.arg = none ∧ R c.d
/-- the clauses, one after the other -/
def thH : List HC → Exc → Sto → (D → Sto → Prop) → Prop
  | [], _, _, _ => False
  | h :: l, x, st, R => if h.cs.contains x.cls = true then h.x.w x fun y => R y st else thH l x st R
def thV (m : TM) (d : D) (st : Sto) (R : D → Sto → Prop) : Prop := match m with
  | .ret => R d st
  | .drop fb => R fb.d st
  | .tell t => R (.tup [.str t, d]) st
/-! ### what the operators do -/
def newL (z : Bool) (ds : List D) (st : Sto) (R : D → Sto → Prop) : Prop := match z with
  | true => R (.fl ds) st
  | false => ∀ a, st a = none → R (.ref a) (put st a (.lst ds))
def binI (o : BOp) (x y : D) (st : Sto) (R : D → Sto → Prop) : Prop := match o, x, y with
  | .add, .int i, .int j => R (.int (i + j)) st
  | .sub, .int i, .int j => R (.int (i - j)) st
  | .mul, .int i, .int j => CMul i j ∧ R (.int (i * j)) st
  | .fdiv, .int i, .int j => (0 < j ∧ j < 1073741824) ∧ R (.int (i / j)) st
  | .mod, .int i, .int j => 0 < j ∧ R (.int (i % j)) st
  | .pow, .int i, .int j => CPow i j ∧ R (.int (i ^ j.toNat)) st
  | _, _, _ => False
/-- two lists in one -/
def catL (x y : List D) (st : Sto) (R : D → Sto → Prop) : Prop := x.length + y.length ≤ sizeLine ∧ R (.fl (x ++ y)) st
/-- a text taken k times -/
def strRep (x : Str) (k : Int) : Str := ⟨(List.replicate k.toNat x.cps).foldl (· ++ ·) #[]⟩
def binP (o : BOp) (x y : D) (st : Sto) (R : D → Sto → Prop) : Prop := match o, x, y with
  | .add, .str a, .str b => a.length + b.length ≤ sizeLine ∧ R (.str (a ++ b)) st
  | .add, .tup a, .tup b => a.length + b.length ≤ sizeLine ∧ R (.tup (a ++ b)) st
  | .add, .fl a, .fl b => catL a b st R
  | .add, .fl a, .ref q => ∃ b, st q = some (.lst b) ∧ catL a b st R
  | .add, .ref p, .fl b => ∃ a, st p = some (.lst a) ∧ catL a b st R
  | .add, .ref p, .ref q => ∃ a b, st p = some (.lst a) ∧ st q = some (.lst b) ∧ catL a b st R
  | .mul, .fl a, .int k => (k ≤ 1000000 ∧ -1000000 ≤ k ∧ a.length * k.toNat ≤ sizeLine) ∧ R (.fl (List.replicate k.toNat a).flatten) st
  | .mul, .tup a, .int k => (a ≠ [] ∧ -1000 ≤ k ∧ k ≤ 1000 ∧ a.length ≤ 1000) ∧ R (.tup (List.replicate k.toNat a).flatten) st
  | .mul, .str a, .int k => (2 ≤ k ∧ k ≤ 1000 ∧ 1 ≤ a.length ∧ a.length ≤ 1000) ∧ R (.str (strRep a k)) st
  | o, x, y => binI o x y st R
/-- a list taken k times, stored -/
def repP (x y : D) (st : Sto) (R : D → Sto → Prop) : Prop := match x, y with
  | .fl a, .int k => (k ≤ 1000000 ∧ -1000000 ≤ k ∧ a.length * k.toNat ≤ sizeLine) ∧ newL false (List.replicate k.toNat a).flatten st R
  | _, _ => False
mutual
/-- data as the library's own -/
inductive Py (st : Sto) : D → PyData → Prop
  | non : Py st .non .none
  | bl (b : Bool) : Py st (.bl b) (.bool b)
  | int (i : Int) : Py st (.int i) (.int i)
  | str (x : Str) : Py st (.str x) (.str x)
  | tup {ds : List D} {ps : List PyData} : Pys st ds ps → Py st (.tup ds) (.tuple ps)
  | tix {ds : List D} {ps : List PyData} : Pys st ds ps → Py st (.tix ds) (.tuple ps)
  | fl {ds : List D} {ps : List PyData} : Pys st ds ps → Py st (.fl ds) (.list ps)
  | ref {a : Addr} {ds : List D} {ps : List PyData} : st a = some (.lst ds) → Pys st ds ps → Py st (.ref a) (.list ps)
inductive Pys (st : Sto) : List D → List PyData → Prop
  | nil : Pys st [] []
  | cons {d : D} {p : PyData} {ds : List D} {ps : List PyData} : Py st d p → Pys st ds ps → Pys st (d :: ds) (p :: ps)
end
def eqP (x y : D) (st : Sto) (k : Bool → Prop) : Prop := match x, y with
  | .int i, .int j => k (decide (i = j))
  | .bl a, .bl b => k (decide (a = b))
  | .str a, .str b => k (decide (a = b))
  | x, y => ∃ p q, Py st x p ∧ Py st y q ∧ SeqAt.shaped p = true ∧ SeqAt.shaped q = true ∧ k (PyData.eqv p q)
def flatD : D → Bool
  | .non => true
  | .bl _ => true
  | .int _ => true
  | .str _ => true
  | _ => false
/-- == of flat data -/
def eqF : D → D → Bool
  | .non, .non => true
  | .bl a, .bl b => a == b
  | .bl a, .int b => (if a then 1 else 0) == b
  | .int a, .bl b => a == (if b then 1 else 0)
  | .int a, .int b => a == b
  | .str a, .str b => a == b
  | _, _ => false
/-- x in a list -/
def inL (x : D) (ds : List D) (st : Sto) (k : Bool → Prop) : Prop := (flatD x = true ∧ ds.all flatD = true ∧ k (ds.any fun y => eqF y x)) ∨ ∃ p ps, Py st x p ∧ Pys st ds ps ∧ SeqAt.shaped p = true ∧ SeqAt.shaped (.list ps) = true ∧ k (ps.any fun z => PyData.eqv z p)
def inP (x y : D) (st : Sto) (k : Bool → Prop) : Prop := match y with
  | .str z => ∃ c, x = .str ⟨#[c]⟩ ∧ k (decide (c ∈ z.cps.toList))
  | .tup ds => flatD x = true ∧ ds.all flatD = true ∧ k (ds.any fun y => eqF y x)
  | .tix ds => flatD x = true ∧ ds.all flatD = true ∧ k (ds.any fun y => eqF y x)
  | .fl ds => inL x ds st k
  | .ref a => ∃ ds, st a = some (.lst ds) ∧ inL x ds st k
  | _ => False
def D.isNon : D → Bool
  | .non => true
  | _ => false
def cmpP (o : COp) (x y : D) (st : Sto) (R : D → Sto → Prop) : Prop := match o, x, y with
  | .lt, .int i, .int j => R (.bl (decide (i < j))) st
  | .le, .int i, .int j => R (.bl (decide (i ≤ j))) st
  | .gt, .int i, .int j => R (.bl (decide (j < i))) st
  | .ge, .int i, .int j => R (.bl (decide (j ≤ i))) st
  | .eq, x, y => eqP x y st fun b => R (.bl b) st
  | .ne, x, y => eqP x y st fun b => R (.bl (!b)) st
  | .isin, x, y => inP x y st fun b => R (.bl b) st
  | .notin, x, y => inP x y st fun b => R (.bl (!b)) st
  | .is, x, .non => R (.bl x.isNon) st
  | .isnot, x, .non => R (.bl (!x.isNon)) st
  | .is, .bl a, .bl b => R (.bl (decide (a = b))) st
  | .isnot, .bl a, .bl b => R (.bl (!decide (a = b))) st
  | .isnot, .int _, .bl _ => R (.bl true) st
  | _, _, _ => False
def ixP (x y : D) (st : Sto) (R : D → Sto → Prop) : Prop := match x, y with
  | .tup ds, .int i => ∃ d, atI ds i = some d ∧ R d st
  | .tix ds, .int i => ∃ d, atI ds i = some d ∧ R d st
  | .fl ds, .int i => ∃ d, atI ds i = some d ∧ R d st
  | .ref a, .int i => ∃ ds d, st a = some (.lst ds) ∧ atI ds i = some d ∧ R d st
  | .str z, .int i => z.length ≤ sizeLine ∧ ∃ c, atI z.cps.toList i = some c ∧ R (.str ⟨#[c]⟩) st
  | _, _ => False
def cutD (xs : List D) (lo hi : Option Int) : List D := (xs.drop (HT.sIx xs.length 0 lo)).take (HT.sIx xs.length xs.length hi - HT.sIx xs.length 0 lo)
def slP (z : Bool) (x : D) (lo hi : Option Int) (st : Sto) (R : D → Sto → Prop) : Prop := match x with
  | .tup ds => R (.tup (cutD ds lo hi)) st
  | .str x => x.length ≤ sizeLine ∧ R (.str (cutS x lo hi)) st
  | .fl ds => newL z (cutD ds lo hi) st R
  | .scr ds => newL z (cutD ds lo hi) st R
  | .ref a => ∃ ds, st a = some (.lst ds) ∧ newL z (cutD ds lo hi) st R
  | _ => False
def frzP (d : D) (st : Sto) (R : D → Sto → Prop) : Prop := match d with
  | .ref a => ∃ ds, st a = some (.lst ds) ∧ R (.fl ds) (del st a)
  | _ => False
def lenP (x : D) (st : Sto) (R : D → Sto → Prop) : Prop := match x with
  | .fd _ kvs => R (.int kvs.length) st
  | .str z => z.length ≤ sizeLine ∧ R (.int z.length) st
  | .tup ds => R (.int ds.length) st
  | .tix ds => R (.int ds.length) st
  | .fl ds => R (.int ds.length) st
  | .ref a => ∃ ds, st a = some (.lst ds) ∧ R (.int ds.length) st
  | _ => False
/-- the name of a type -/
def tyP (x : D) (st : Sto) (k : String → Prop) : Prop := match x with
  | .non => k "NoneType"
  | .bl _ => k "bool"
  | .int _ => k "int"
  | .str _ => k "str"
  | .tup _ => k "tuple"
  | .tix _ => k "tuple"
  | .fl _ => k "list"
  | .fd _ _ => k "dict"
  | .ref a => (∃ ds, st a = some (.lst ds)) ∧ k "list"
  | _ => False
def knownT (T : String) : Bool := T == "int" || T == "bool" || T == "str" || T == "tuple" || T == "list" || T == "dict"
def subT (t T : String) : Bool := t == T || (t == "bool" && T == "int")
/-- the items of a list or a tuple -/
def itemsP (x : D) (st : Sto) (k : List D → Prop) : Prop := match x with
  | .tup ds => k ds
  | .tix ds => k ds
  | .fl ds => k ds
  | .ref a => ∃ ds, st a = some (.lst ds) ∧ k ds
  | _ => False
def itemsT (x : D) (st : Sto) (k : List D → Prop) : Prop := match x with
  | .tup ds => k ds
  | .fl ds => k ds
  | .ref a => ∃ ds, st a = some (.lst ds) ∧ k ds
  | _ => False
/-- the items of a list -/
def lstP (x : D) (st : Sto) (k : List D → Prop) : Prop := match x with
  | .fl ds => k ds
  | .ref a => ∃ ds, st a = some (.lst ds) ∧ k ds
  | _ => False
def prD (p : Int × Int) : D := .tup [.int p.1, .int p.2]
/-- a list of ints, or of pairs of ints, put in order -/
def rowD (r : List Int) : D := .tup (r.map D.int)
def srtP (z : Bool) (ds : List D) (st : Sto) (R : D → Sto → Prop) : Prop :=
  (∃ ns : List Int, ds = ns.map D.int ∧ ∀ ms : List Int, ms.Perm ns → ms.Pairwise (· ≤ ·) → newL z (ms.map D.int) st R) ∨
  (∃ ps : List (Int × Int), ds = ps.map prD ∧ ∀ qs : List (Int × Int), qs.Perm ps → qs.Pairwise (fun a b => SrtO.lexB b a = false) → newL z (qs.map prD) st R) ∨
  ∃ (rows : List (List Int)) (d : Nat), ds = rows.map rowD ∧ (2 ≤ rows.length → 1 ≤ d) ∧ (∀ r ∈ rows, r.length = d) ∧ ∀ rs : List (List Int), rs.Perm rows → rs.Pairwise (fun a b => lexN b a = false) → newL z (rs.map rowD) st R
/-- sorted of deep data -/
def dlD : D × PyData → D × PyData → Bool := PySem.W.dataLe false (fun b : D × PyData => b.2)
def srdP (z : Bool) (ds : List D) (st : Sto) (R : D → Sto → Prop) : Prop := ∃ ps, Pys st ds ps ∧ PySem.W.AllAlike ps ∧ PySem.W.Sortable ps ∧ (∀ p ∈ ps, p.depth ≤ 60) ∧ newL z (((ds.zip ps).mergeSort dlD).map (·.1)) st R
/-- the greatest (least) of deep data -/
def bestD (mx : Bool) (p : PyData) (ps : List PyData) : PyData := if mx = true then PySem.W.maxD p ps else PySem.W.minD p ps
def bestP (mx : Bool) (ds : List D) (st : Sto) (R : D → Sto → Prop) : Prop := ∃ p ps, Pys st ds (p :: ps) ∧ PySem.W.AlikeAll (p :: ps) ∧ PyData.depthAll (p :: ps) ≤ 60 ∧ ∀ (i : Nat) (d : D), ds[i]? = some d → (p :: ps)[i]? = some (bestD mx p ps) → R d st
def biP (f : Bi) (xs : List D) (st : Sto) (R : D → Sto → Prop) : Prop := match f, xs with
  | .abs, [.int i] => R (.int (if i < 0 then -i else i)) st
  | .len, [x] => lenP x st R
  | .isi, [x, .ty T] => knownT T = true ∧ tyP x st fun t => R (.bl (subT t T)) st
  | .tuple, [x] => itemsT x st fun ds => R (.tup ds) st
  | .list z, [x] => itemsP x st fun ds => newL z ds st R
  | .sorted z, [x] => itemsP x st fun ds => srtP z ds st R
  | .int, [.int i] => R (.int i) st
  | .int, [.bl b] => R (.int (if b then 1 else 0)) st
  | .max, [.int i, .int j] => R (.int (if j > i then j else i)) st
  | .min, [.int i, .int j] => R (.int (if j < i then j else i)) st
  | .srd z, [x] => itemsP x st fun ds => srdP z ds st R
  | .best mx, [x] => lstP x st fun ds => bestP mx ds st R
  | .max, [x] => lstP x st fun ds => ∃ ns : List Int, ds = ns.map D.int ∧ 0 < ns.length ∧ ∀ m, m ∈ ns → (∀ y ∈ ns, y ≤ m) → R (.int m) st
  | .min, [x] => lstP x st fun ds => ∃ ns : List Int, ds = ns.map D.int ∧ 0 < ns.length ∧ ∀ m, m ∈ ns → (∀ y ∈ ns, m ≤ y) → R (.int m) st
  | .sum, [x] => lstP x st fun ds => ∃ ns : List Int, ds = ns.map D.int ∧ R (.int ns.sum) st
  | _, _ => False
def truP (x : D) (st : Sto) (k : Bool → Prop) : Prop := match x with
  | .bl b => k b
  | _ => False
def getP (s : DSt) (i : Nat) (k : D → Prop) : Prop := match s[i]? with
  | some (some d) => k d
  | _ => False
mutual
def asgP : Tg → D → DSt → (DSt → Prop) → Prop
  | .nm i, d, s, k => k (s.set i (some d))
  | .tp ts, .tup ds, s, k => asgsP ts ds s k
  | .tp ts, .fl ds, s, k => asgsP ts ds s k
  | .tp _, _, _, _ => False
def asgsP : Tgs → List D → DSt → (DSt → Prop) → Prop
  | .nil, [], s, k => k s
  | .cons t r, d :: ds, s, k => asgP t d s fun s1 => asgsP r ds s1 k
  | _, _, _, _ => False
end
/-- what a loop walks: its items; the list's place, if it may change -/
structure Src where
  items : List D
  own : Option (Addr × List D)
def Src.ok (s : Src) (st : Sto) : Prop := match s.own with
  | none => True
  | some (a, ds) => st a = some (.lst ds)
def rangeD (lo : Int) (n : Nat) : List D := (List.range n).map fun (i : Nat) => D.int (lo + (i : Int))
def kD : Key → D
  | .inl i => .int i
  | .inr x => .str x
/-- a key as data -/
def keyD (t : Bool) (k : List Key) : D := match t with
  | true => .tup (k.map kD)
  | false => kD (k1 k)
def keysD (t : Bool) (kvs : List (List Key × D)) : List D := kvs.map fun p => keyD t p.1
def iterP (d : D) (st : Sto) (R : Src → Sto → Prop) : Prop := match d with
  | .fd t kvs => R ⟨keysD t kvs, none⟩ st
  | .str x => x.cps.size ≤ sizeLine ∧ R ⟨x.cps.toList.map fun c => .str ⟨#[c]⟩, none⟩ st
  | .tup ds => R ⟨ds, none⟩ st
  | .tix ds => R ⟨ds, none⟩ st
  | .fl ds => R ⟨ds, none⟩ st
  | .ref a => ∃ ds, st a = some (.lst ds) ∧ R ⟨ds, some (a, ds)⟩ st
  | _ => False
def enumD (ds : List D) : List D := ds.zipIdx.map fun p => .tup [.int (p.2 : Nat), p.1]
def enmP (d : D) (st : Sto) (R : Src → Sto → Prop) : Prop := match d with
  | .tup ds => R ⟨enumD ds, none⟩ st
  | .fl ds => R ⟨enumD ds, none⟩ st
  | .ref a => ∃ ds, st a = some (.lst ds) ∧ R ⟨enumD ds, some (a, ds)⟩ st
  | _ => False
def zipD (xs ys : List D) : List D := (xs.zip ys).map fun p => .tup [p.1, p.2]
def zipP (x y : D) (st : Sto) (R : Src → Sto → Prop) : Prop := match x, y with
  | .tup a, .tup b => R ⟨zipD a b, none⟩ st
  | .fl a, .fl b => R ⟨zipD a b, none⟩ st
  | _, _ => False
def rngP (a b : D) (st : Sto) (R : Src → Sto → Prop) : Prop := match a, b with
  | .int i, .int j => (-1000000 ≤ i ∧ i ≤ 1000000 ∧ -1000000 ≤ j ∧ j ≤ 1000000) ∧ R ⟨rangeD i (j - i).toNat, none⟩ st
  | _, _ => False
/-- a list as a source -/
def lsrP (d : D) (st : Sto) (k : Src → Prop) : Prop := match d with
  | .fl ds => k ⟨ds, none⟩
  | .ref a => ∃ ds, st a = some (.lst ds) ∧ k ⟨ds, some (a, ds)⟩
  | _ => False
/-- the best so far -/
def mnkD (mx : Bool) (d : Option Nat) (src : Src) (el : DSt → Sto → (D → Sto → Prop) → Prop) (i : Nat) (s : DSt) : List D → D → List Int → Sto → (D → Sto → Prop) → Prop
  | [], xb, _, st, k => src.ok st ∧ k xb st
  | x :: r, xb, rb, st, k => src.ok st ∧ el (s.set i (some x)) st fun y st2 => ∃ r2, KeyD d y r2 ∧ if better mx r2 rb = true then mnkD mx d src el i s r x r2 st2 k else mnkD mx d src el i s r xb rb st2 k
def mnk0 (mx : Bool) (src : Src) (el : DSt → Sto → (D → Sto → Prop) → Prop) (i : Nat) (s : DSt) (l : List D) (st : Sto) (k : D → Sto → Prop) : Prop := match l with
  | [] => False
  | x :: r => ∃ d, src.ok st ∧ el (s.set i (some x)) st fun y st2 => ∃ r2, KeyD d y r2 ∧ mnkD mx d src el i s r x r2 st2 k
/-- range(i, j, -1) -/
def downD (hi : Int) (n : Nat) : List D := (List.range n).map fun (i : Nat) => D.int (hi - (i : Int))
def rngdP (a b c : D) (st : Sto) (R : Src → Sto → Prop) : Prop := match a, b, c with
  | .int i, .int j, .int c => c = -1 ∧ (-1000000 ≤ i ∧ i ≤ 1000000 ∧ -1000000 ≤ j ∧ j ≤ 1000000) ∧ R ⟨downD i (i - j).toNat, none⟩ st
  | _, _, _ => False
/-- reversed -/
def rvdP (d : D) (st : Sto) (R : Src → Sto → Prop) : Prop := match d with
  | .tup ds => R ⟨ds.reverse, none⟩ st
  | .tix ds => R ⟨ds.reverse, none⟩ st
  | .fl ds => R ⟨ds.reverse, none⟩ st
  | .ref a => ∃ ds, st a = some (.lst ds) ∧ R ⟨ds.reverse, some (a, ds)⟩ st
  | _ => False
/-- the first place of a thing in a row -/
def idxL (ds : List D) (y : D) (st : Sto) (k : Nat → Prop) : Prop :=
  (flatD y = true ∧ ds.all flatD = true ∧ ∃ (j : Nat) (z : D), ds[j]? = some z ∧ eqF z y = true ∧ (∀ (m : Nat) (w : D), m < j → ds[m]? = some w → eqF w y = false) ∧ k j) ∨
  ∃ (p : PyData) (ps : List PyData) (j : Nat) (z : PyData), Py st y p ∧ Pys st ds ps ∧ SeqAt.shaped p = true ∧ SeqAt.shaped (.list ps) = true ∧ ps[j]? = some z ∧ PyData.eqv z p = true ∧ (∀ (m : Nat) (w : PyData), m < j → ps[m]? = some w → PyData.eqv w p = false) ∧ k j
/-- the same, of a tuple -/
def idxT (ds : List D) (y : D) (st : Sto) (k : Nat → Prop) : Prop := ∃ (p : PyData) (ps : List PyData) (j : Nat) (z : PyData), Py st y p ∧ Pys st ds ps ∧ SeqAt.shaped p = true ∧ SeqAt.shaped (.list ps) = true ∧ ps[j]? = some z ∧ PyData.eqv z p = true ∧ (∀ (m : Nat) (w : PyData), m < j → ps[m]? = some w → PyData.eqv w p = false) ∧ k j
def isS (tp : Bool) (x : D) (st : Sto) : Prop := match tp, x with
  | true, .tix _ => True
  | false, .fl _ => True
  | false, .ref a => ∃ ds, st a = some (.lst ds)
  | _, _ => False
def idxP (tp : Bool) (x y : D) (st : Sto) (R : D → Sto → Prop) : Prop := match tp, x with
  | true, .tix ds => idxT ds y st fun j => R (.int (j : Nat)) st
  | false, .fl ds => idxL ds y st fun j => R (.int (j : Nat)) st
  | false, .ref a => ∃ ds, st a = some (.lst ds) ∧ idxL ds y st fun j => R (.int (j : Nat)) st
  | _, _ => False
structure DEnds where
  nx : DSt → Sto → Prop
  rt : D → Sto → Prop
  bk : DSt → Sto → Prop
  ct : DSt → Sto → Prop
def forL (body : DSt → Sto → DEnds → Prop) (t : Tg) (src : Src) : List D → DSt → Sto → DEnds → Prop
  | [], s, st, K => src.ok st ∧ K.nx s st
  | d :: r, s, st, K => src.ok st ∧ asgP t d s fun s2 => body s2 st { K with nx := fun s st => forL body t src r s st K, ct := fun s st => forL body t src r s st K, bk := K.nx }
def whN (c : DSt → Sto → (Bool → Sto → Prop) → Prop) (body : DSt → Sto → DEnds → Prop) : Nat → DSt → Sto → DEnds → Prop
  | 0, _, _, _ => False
  | n + 1, s, st, K => c s st fun b st1 => if b = true then body s st1 { K with nx := fun s st => whN c body n s st K, ct := fun s st => whN c body n s st K, bk := K.nx } else K.nx s st1
def lcL (tt : DSt → Sto → (Bool → Sto → Prop) → Prop) (el : DSt → Sto → (D → Sto → Prop) → Prop) (t : Tg) (src : Src) (s : DSt) : List D → List D → Sto → (List D → Sto → Prop) → Prop
  | [], acc, st, k => src.ok st ∧ k acc st
  | d :: r, acc, st, k => src.ok st ∧ asgP t d s fun s2 => tt s2 st fun b st1 => if b = true then el s2 st1 fun y st2 => lcL tt el t src s r (acc ++ [y]) st2 k else lcL tt el t src s r acc st1 k

def isL (x : D) (st : Sto) : Prop := match x with
  | .ref a => ∃ ds, st a = some (.lst ds)
  | _ => False
def mtP (m : Mt) (x : D) (ys : List D) (st : Sto) (R : D → Sto → Prop) : Prop := match m, x, ys with
  | .append, .ref a, [y] => ∃ ds, st a = some (.lst ds) ∧ ds.length < sizeLine ∧ R .non (put st a (.lst (ds ++ [y])))
  | .insert, .ref a, [.int i, y] => ∃ ds, st a = some (.lst ds) ∧ ds.length < sizeLine ∧ 0 ≤ i ∧ i < 9223372036854775808 ∧ R .non (put st a (.lst (ds.take i.toNat ++ [y] ++ ds.drop i.toNat)))
  | .extend, .ref a, [.fl es] => ∃ ds, st a = some (.lst ds) ∧ ds.length + es.length ≤ sizeLine ∧ R .non (put st a (.lst (ds ++ es)))
  | .pop, .ref a, [.int i] => ∃ ds k y, st a = some (.lst ds) ∧ (-9223372036854775808 ≤ i ∧ i < 9223372036854775808) ∧ seqIndex? i ds.length = some k ∧ ds[k]? = some y ∧ R y (put st a (.lst (ds.eraseIdx k)))
  | .pop, .ref a, [] => ∃ ds y, st a = some (.lst (ds ++ [y])) ∧ R y (put st a (.lst ds))
  | .remove, .ref a, [.int k] => ∃ ns : List Int, st a = some (.lst (ns.map D.int)) ∧ k ∈ ns ∧ R .non (put st a (.lst ((ns.erase k).map D.int)))
  | .remove, .ref a, [.str k] => ∃ xs : List Str, st a = some (.lst (xs.map D.str)) ∧ k ∈ xs ∧ R .non (put st a (.lst ((xs.erase k).map D.str)))
  | _, _, _ => False
/-- the inner clause: as lcL, the list's length watched -/
def lcB (tt : DSt → Sto → (Bool → Sto → Prop) → Prop) (el : DSt → Sto → (D → Sto → Prop) → Prop) (t : Tg) (src : Src) (s : DSt) : List D → List D → Sto → (List D → Sto → Prop) → Prop
  | [], acc, st, k => src.ok st ∧ k acc st
  | d :: r, acc, st, k => src.ok st ∧ asgP t d s fun s2 => tt s2 st fun b st1 => if b = true then el s2 st1 fun y st2 => acc.length < sizeLine ∧ lcB tt el t src s r (acc ++ [y]) st2 k else lcB tt el t src s r acc st1 k
def lc2L (tt : DSt → Sto → (Bool → Sto → Prop) → Prop) (it1 : DSt → Sto → (Src → Sto → Prop) → Prop) (tt1 : DSt → Sto → (Bool → Sto → Prop) → Prop) (el : DSt → Sto → (D → Sto → Prop) → Prop) (t t1 : Tg) (vs1 : List Nat) (src : Src) (s : DSt) : List D → List D → Sto → (List D → Sto → Prop) → Prop
  | [], acc, st, k => src.ok st ∧ k acc st
  | d :: r, acc, st, k => src.ok st ∧ asgP t d s fun s2 => tt s2 st fun b st1 => if b = true then it1 s2 st1 fun src1 st2 => lcB tt1 el t1 src1 (dwipe s2 vs1) src1.items acc st2 fun acc2 st3 => lc2L tt it1 tt1 el t t1 vs1 src s r acc2 st3 k else lc2L tt it1 tt1 el t t1 vs1 src s r acc st1 k
def genE : GM → Int → D
  | .all, _ => .bl true
  | .any, _ => .bl false
  | .sum, a => .int a
/-- what is done with an element -/
def genS (m : GM) (a : Int) (y : D) (st : Sto) (nx : Int → Sto → Prop) (R : D → Sto → Prop) : Prop := match m, y with
  | .all, .bl true => nx 0 st
  | .all, .bl false => R (.bl false) st
  | .any, .bl true => R (.bl true) st
  | .any, .bl false => nx 0 st
  | .sum, .int i => ((-9223372036854775808 ≤ i ∧ i < 9223372036854775808) ∧ -9223372036854775808 ≤ a + i ∧ a + i < 9223372036854775808) ∧ nx (a + i) st
  | _, _ => False
def genL (m : GM) (tt : DSt → Sto → (Bool → Sto → Prop) → Prop) (el : DSt → Sto → (D → Sto → Prop) → Prop) (t : Tg) (src : Src) (s : DSt) : List D → Int → Sto → (D → Sto → Prop) → Prop
  | [], a, st, k => src.ok st ∧ k (genE m a) st
  | d :: r, a, st, k => src.ok st ∧ asgP t d s fun s2 => tt s2 st fun b st1 => if b = true then el s2 st1 fun y st2 => genS m a y st2 (fun a2 st3 => genL m tt el t src s r a2 st3 k) k else genL m tt el t src s r a st1 k

/-! ### dicts -/
def keysOf : List D → Option (List Key)
  | [] => some []
  | .int i :: r => (keysOf r).map (.inl i :: ·)
  | .str x :: r => (keysOf r).map (.inr x :: ·)
  | _ :: _ => none
/-- the key that data is; t: keys are tuples -/
def keyOf (t : Bool) (d : D) : Option (List Key) := match t, d with
  | false, .int i => some [.inl i]
  | false, .str x => some [.inr x]
  | true, .tup ds => keysOf ds
  | _, _ => none
def valD (kvs : List (List Key × D)) (k : List Key) : Option D := (kvs.find? fun p => decide (p.1 = k)).map (·.2)
def putD (kvs : List (List Key × D)) (k : List Key) (v : D) : List (List Key × D) :=
  if (kvs.any fun p => decide (p.1 = k)) = true then kvs.map (fun p => if p.1 = k then (p.1, v) else p) else kvs ++ [(k, v)]
/-- a dict and a key -/
def dctP (x y : D) (st : Sto) (Q : Addr → Bool → List (List Key × D) → List Key → Prop) : Prop := match x with
  | .ref a => ∃ t kvs k, st a = some (.dct t kvs) ∧ keyOf t y = some k ∧ Q a t kvs k
  | _ => False
def isDc (x : D) (st : Sto) : Prop := match x with
  | .fd _ _ => True
  | .ref a => ∃ t kvs, st a = some (.dct t kvs)
  | _ => False
/-- a dict that is read, and a key -/
def dctR (x y : D) (st : Sto) (Q : List (List Key × D) → List Key → Prop) : Prop := match x with
  | .ref a => ∃ t kvs k, st a = some (.dct t kvs) ∧ keyOf t y = some k ∧ Q kvs k
  | .fd t kvs => ∃ k, keyOf t y = some k ∧ Q kvs k
  | _ => False
/-- a dict, whole -/
def dctA (x : D) (st : Sto) (Q : Bool → List (List Key × D) → Prop) : Prop := match x with
  | .ref a => ∃ t kvs, st a = some (.dct t kvs) ∧ Q t kvs
  | .fd t kvs => Q t kvs
  | _ => False
/-- pairs of a display -/
def pairsD (t : Bool) : List D → Option (List (List Key × D))
  | [] => some []
  | k :: v :: r => match keyOf t k, pairsD t r with
    | some q, some l => some ((q, v) :: l)
    | _, _ => none
  | [_] => none
def mergeD (kvs more : List (List Key × D)) : List (List Key × D) := more.foldl (fun acc p => putD acc p.1 p.2) kvs
def dropD (kvs : List (List Key × D)) (k : List Key) : List (List Key × D) := kvs.filter fun p => decide (p.1 ≠ k)
def fzdP (d : D) (st : Sto) (R : D → Sto → Prop) : Prop := match d with
  | .ref a => ∃ t kvs, st a = some (.dct t kvs) ∧ R (.fd t kvs) (del st a)
  | _ => False
def dpoP (x y : D) (st : Sto) (R : D → Sto → Prop) : Prop := match x with
  | .ref a => ∃ kvs k v, st a = some (.dct false kvs) ∧ keyOf false y = some k ∧ valD kvs k = some v ∧ R v (put st a (.dct false (dropD kvs k)))
  | _ => False
def srkP (z : Bool) (ks ds : List D) (st : Sto) (R : D → Sto → Prop) : Prop := ∃ rows d, KeysD ks rows d ∧ ∀ ys, OutD rows ds ys → newL z ys st R
def joinP (x y : D) (st : Sto) (R : D → Sto → Prop) : Prop := match x with
  | .str a => lstP y st fun ds => ∃ ys : List Str, ds = ys.map D.str ∧ (ys.map (·.length)).sum + ys.length * a.length ≤ 16777216 ∧ R (.str (Txt.join a ys)) st
  | _ => False
mutual
def wpE (C : Cl) (ES : XS) : IE → DSt → Sto → (D → Sto → Prop) → Prop
  | .var i, s, st, R => getP s i fun d => R d st
  | .cint i, _, st, R => R (.int i) st
  | .cbl b, _, st, R => R (.bl b) st
  | .cnon, _, st, R => R .non st
  | .cstr x, _, st, R => R (.str x) st
  | .con c, _, st, R => R c.d st
  | .cty n, _, st, R => R (.ty n) st
  | .nope, _, _, _ => False
  | .bin o a b, s, st, R => wpE C ES a s st fun x st1 => wpE C ES b s st1 fun y st2 => binP o x y st2 R
  | .neg a, s, st, R => wpE C ES a s st fun x st1 => match x with | .int i => R (.int (-i)) st1 | _ => False
  | .cmp o a b, s, st, R => wpE C ES a s st fun x st1 => wpE C ES b s st1 fun y st2 => cmpP o x y st2 R
  | .cmp2 o o2 a b c, s, st, R => wpE C ES a s st fun x st1 => wpE C ES b s st1 fun y st2 => cmpP o x y st2 fun r st3 => match r with
      | .bl true => wpE C ES c s st3 fun z st4 => cmpP o2 y z st4 R
      | .bl false => R (.bl false) st3
      | _ => False
  | .and a b, s, st, R => wpE C ES a s st fun x st1 => match x with | .bl true => wpE C ES b s st1 R | .bl false => R (.bl false) st1 | _ => False
  | .or a b, s, st, R => wpE C ES a s st fun x st1 => match x with | .bl true => R (.bl true) st1 | .bl false => wpE C ES b s st1 R | _ => False
  | .not a, s, st, R => wpE C ES a s st fun x st1 => match x with | .bl b => R (.bl (!b)) st1 | _ => False
  | .ife t a b, s, st, R => wpE C ES t s st fun x st1 => truP x st1 fun c => if c = true then wpE C ES a s st1 R else wpE C ES b s st1 R
  | .tup es, s, st, R => wpEs C ES es s st fun ds st1 => R (.tup ds) st1
  | .lst z es, s, st, R => wpEs C ES es s st fun ds st1 => newL z ds st1 R
  | .frz e, s, st, R => wpE C ES e s st fun d st1 => frzP d st1 R
  | .call f es, s, st, R => wpEs C ES es s st fun ds st1 => C f ds st1 R fun x st2 => ES x s st2
  | .bi f es, s, st, R => wpEs C ES es s st fun ds st1 => biP f ds st1 R
  | .ix a b, s, st, R => wpE C ES a s st fun x st1 => wpE C ES b s st1 fun y st2 => ixP x y st2 R
  | .sl z a lo hi, s, st, R => wpE C ES a s st fun x st1 => wpO C ES lo s st1 fun i st2 => wpO C ES hi s st2 fun j st3 => slP z x i j st3 R
  | .lc own t it ts el, s, st, R => wpI C ES it s st fun src st1 =>
      lcL (fun s st k => wpTs C (fun _ _ _ => False) ts s st k) (fun s st k => wpE C (fun _ _ _ => False) el s st k) t src (dwipe s own) src.items [] st1 fun acc st2 => R (.fl acc) st2
  | .thk _ m hs e, s, st, R => wpE C (fun y _ st1 => thH hs y st1 R) e s st fun d st1 => thV m d st1 R
  | .lc2 own vs1 t it ts t1 it1 ts1 el, s, st, R => wpI C ES it s st fun src st1 =>
      lc2L (fun s st k => wpTs C (fun _ _ _ => False) ts s st k) (fun s st k => wpI C (fun _ _ _ => False) it1 s st k) (fun s st k => wpTs C (fun _ _ _ => False) ts1 s st k) (fun s st k => wpE C (fun _ _ _ => False) el s st k) t t1 vs1 src (dwipe s own) src.items [] st1 fun acc st2 => R (.fl acc) st2
  | .lrg1 z a, s, st, R => wpE C ES a s st fun d st1 => rngP (.int 0) d st1 fun src st2 => newL z src.items st2 R
  | .lrg2 z a b, s, st, R => wpE C ES a s st fun x st1 => wpE C ES b s st1 fun y st2 => rngP x y st2 fun src st3 => newL z src.items st3 R
  | .rp a b, s, st, R => wpE C ES a s st fun x st1 => wpE C ES b s st1 fun y st2 => repP x y st2 R
  | .rev z a, s, st, R => wpE C ES a s st fun x st1 => lstP x st1 fun ds => newL z ds.reverse st1 R
  | .mt m o es, s, st, R => wpE C ES o s st fun x st1 => isL x st1 ∧ wpEs C ES es s st1 fun ys st2 => mtP m x ys st2 R
  | .dnew t, _, st, R => ∀ a, st a = none → R (.ref a) (put st a (.dct t []))
  | .dg d k, s, st, R => wpE C ES d s st fun x st1 => wpE C ES k s st1 fun y st2 => dctR x y st2 fun kvs q => ∃ v, valD kvs q = some v ∧ R v st2
  | .din n k d, s, st, R => wpE C ES k s st fun y st1 => wpE C ES d s st1 fun x st2 => dctR x y st2 fun kvs q => R (.bl ((valD kvs q).isSome != n)) st2
  | .dgt d k x, s, st, R => wpE C ES d s st fun w st1 => isDc w st1 ∧ wpE C ES k s st1 fun y st2 => wpE C ES x s st2 fun u st3 => dctR w y st3 fun kvs q => R ((valD kvs q).getD u) st3
  | .srk z i it el, s, st, R => wpC C ES it s st fun ds st1 => keyL (fun s st k => wpE C (fun _ _ _ => False) el s st k) i s ds [] st1 fun ks st2 => srkP z ks ds st2 R
  | .mnk mx i e el, s, st, R => wpE C ES e s st fun x st1 => lsrP x st1 fun src => mnk0 mx src (fun s st k => wpE C (fun _ _ _ => False) el s st k) i s src.items st1 R
  | .idx tp a b, s, st, R => wpE C ES a s st fun x st1 => isS tp x st1 ∧ wpE C ES b s st1 fun y st2 => idxP tp x y st2 R
  | .trv a, s, st, R => wpE C ES a s st fun x st1 => lstP x st1 fun ds => R (.tup ds.reverse) st1
  | .trg a b, s, st, R => wpE C ES a s st fun x st1 => wpE C ES b s st1 fun y st2 => rngP x y st2 fun src st3 => R (.tup src.items) st3
  | .dis t es, s, st, R => ∀ a, st a = none → wpEs C ES es s (put st a (.dct t [])) fun xs st2 => st2 a = some (.dct t []) ∧ xs.length ≤ 30 ∧ ∃ kvs, pairsD t xs = some kvs ∧ R (.ref a) (put st2 a (.dct t (mergeD [] kvs)))
  | .fzd e, s, st, R => wpE C ES e s st fun d st1 => fzdP d st1 R
  | .dln e, s, st, R => wpE C ES e s st fun d st1 => dctA d st1 fun _ kvs => R (.int kvs.length) st1
  | .deq n a b, s, st, R => wpE C ES a s st fun x st1 => wpE C ES b s st1 fun y st2 => dctA x st2 fun t ks => dctA y st2 fun u ls => t = u ∧ ks.length = ls.length ∧ (∀ p ∈ ks, valD ls p.1 = some p.2 ∧ flatD p.2 = true) ∧ R (.bl (!n)) st2
  | .dcp e, s, st, R => wpE C ES e s st fun d st1 => dctA d st1 fun t kvs => t = false ∧ ∀ a, st1 a = none → R (.ref a) (put st1 a (.dct t kvs))
  | .dpo d k, s, st, R => wpE C ES d s st fun x st1 => isDc x st1 ∧ wpE C ES k s st1 fun y st2 => dpoP x y st2 R
  | .dks z e, s, st, R => wpE C ES e s st fun d st1 => dctA d st1 fun t kvs => ∃ xs : List Str, t = false ∧ kvs.map (·.1) = xs.map (fun x => [.inr x]) ∧ xs.length < 64 ∧ ∀ ys : List Str, ys.Perm xs → sortedS ys = true → newL z (ys.map D.str) st1 R
  | .tpx a, s, st, R => wpE C ES a s st fun x st1 => lstP x st1 fun ds => R (.tix ds) st1
  | .dkp z e, s, st, R => wpE C ES e s st fun d st1 => dctA d st1 fun t kvs => ∃ ps : List (Int × Int), t = true ∧ kvs.map (·.1) = ps.map (fun p => [.inl p.1, .inl p.2]) ∧ ∀ qs : List (Int × Int), qs.Perm ps → qs.Pairwise (fun a b => SrtO.lexB b a = false) → newL z (qs.map prD) st1 R
  | .tdc a, s, st, R => wpE C ES a s st fun x st1 => dctA x st1 fun t kvs => t = false ∧ R (.tup (keysD t kvs)) st1
  | .join a b, s, st, R => wpE C ES a s st fun x st1 => (match x with | .str _ => True | _ => False) ∧ wpE C ES b s st1 fun y st2 => joinP x y st2 R
  | .gen m own t it ts el, s, st, R => wpI C ES it s st fun src st1 =>
      genL m (fun s st k => wpTs C (fun _ _ _ => False) ts s st k) (fun s st k => wpE C (fun _ _ _ => False) el s st k) t src (dwipe s own) src.items 0 st1 R
def wpEs (C : Cl) (ES : XS) : IEs → DSt → Sto → (List D → Sto → Prop) → Prop
  | .nil, _, st, R => R [] st
  | .cons e r, s, st, R => wpE C ES e s st fun x st1 => wpEs C ES r s st1 fun xs st2 => R (x :: xs) st2
/-- a part of a slice: none or one -/
def wpO (C : Cl) (ES : XS) : IEs → DSt → Sto → (Option Int → Sto → Prop) → Prop
  | .nil, _, st, R => R none st
  | .cons e .nil, s, st, R => wpE C ES e s st fun x st1 => match x with | .int i => R (some i) st1 | _ => False
  | .cons _ (.cons _ _), _, _, _ => False
/-- the tests of a clause: none or one -/
def wpTs (C : Cl) (ES : XS) : IEs → DSt → Sto → (Bool → Sto → Prop) → Prop
  | .nil, _, st, R => R true st
  | .cons e .nil, s, st, R => wpE C ES e s st fun x st1 => truP x st1 fun c => R c st1
  | .cons _ (.cons _ _), _, _, _ => False
/-- what is gathered ahead of keys -/
def wpC (C : Cl) (ES : XS) : II → DSt → Sto → (List D → Sto → Prop) → Prop
  | .val e, s, st, R => wpE C ES e s st fun d st1 => itemsP d st1 fun ds => R ds st1
  | .rng1 a, s, st, R => wpE C ES a s st fun d st1 => rngP (.int 0) d st1 fun src st2 => R src.items st2
  | .rng2 a b, s, st, R => wpE C ES a s st fun x st1 => wpE C ES b s st1 fun y st2 => rngP x y st2 fun src st3 => R src.items st3
  | _, _, _, _ => False
def wpI (C : Cl) (ES : XS) : II → DSt → Sto → (Src → Sto → Prop) → Prop
  | .val e, s, st, R => wpE C ES e s st fun d st1 => iterP d st1 R
  | .rng1 a, s, st, R => wpE C ES a s st fun d st1 => rngP (.int 0) d st1 R
  | .rng2 a b, s, st, R => wpE C ES a s st fun x st1 => wpE C ES b s st1 fun y st2 => rngP x y st2 R
  | .enm a, s, st, R => wpE C ES a s st fun d st1 => enmP d st1 R
  | .zip a b, s, st, R => wpE C ES a s st fun x st1 => wpE C ES b s st1 fun y st2 => zipP x y st2 R
  | .rngd a b c, s, st, R => wpE C ES a s st fun x st1 => wpE C ES b s st1 fun y st2 => wpE C ES c s st2 fun w st3 => rngdP x y w st3 R
  | .rvd a, s, st, R => wpE C ES a s st fun x st1 => rvdP x st1 R
end
def wpT (C : Cl) (ES : XS) (e : IE) (s : DSt) (st : Sto) (R : Bool → Sto → Prop) : Prop := wpE C ES e s st fun x st1 => truP x st1 fun c => R c st1
def setIxP (x y v : D) (st : Sto) (k : Sto → Prop) : Prop := match x, y with
  | .ref a, .int i => ∃ ds j, st a = some (.lst ds) ∧ ixN ds.length i = some j ∧ k (put st a (.lst (ds.set j v)))
  | _, _ => False
def unsetO (s : DSt) : Option Nat → DSt
  | none => s
  | some i => s.set i none
def DEnds.unset (K : DEnds) (i : Option Nat) : DEnds := ⟨fun s st => K.nx (unsetO s i) st, K.rt, fun s st => K.bk (unsetO s i) st, fun s st => K.ct (unsetO s i) st⟩
mutual
def wpS (C : Cl) (ES : XS) : IS → DSt → Sto → DEnds → Prop
  | .ex e, s, st, K => wpE C ES e s st fun _ st1 => K.nx s st1
  | .set t e, s, st, K => wpE C ES e s st fun x st1 => asgP t x s fun s2 => K.nx s2 st1
  | .par i j a b, s, st, K => wpE C ES a s st fun x st1 => wpE C ES b s st1 fun y st2 => K.nx ((s.set i (some x)).set j (some y)) st2
  | .setIx a i e, s, st, K => wpE C ES e s st fun v st1 => wpE C ES a s st1 fun x st2 => wpE C ES i s st2 fun y st3 => setIxP x y v st3 fun st4 => K.nx s st4
  | .aug i o e, s, st, K => getP s i fun x => wpE C ES e s st fun y st1 => binI o x y st1 fun z st2 => K.nx (s.set i (some z)) st2
  | .ifs t a b, s, st, K => wpT C ES t s st fun c st1 => if c = true then wpSs C ES a s st1 K else wpSs C ES b s st1 K
  | .whl t b, s, st, K => ∃ n, whN (wpT C ES t) (fun s st K => wpSs C ES b s st K) n s st K
  | .fr t it b, s, st, K => wpI C ES it s st fun src st1 => forL (fun s st K => wpSs C ES b s st K) t src src.items s st1 K
  | .ret e, s, st, K => wpE C ES e s st K.rt
  | .retN, _, st, K => K.rt .non st
  | .pass, s, st, K => K.nx s st
  | .brk, s, st, K => K.bk s st
  | .cont, s, st, K => K.ct s st
  | .nope, _, _, _ => False
  | .par3 i j l a b c, s, st, K => wpE C ES a s st fun x st1 => wpE C ES b s st1 fun y st2 => wpE C ES c s st2 fun w st3 => K.nx (((s.set i (some x)).set j (some y)).set l (some w)) st3
  | .rs c es, s, st, K => wpEs C ES es s st fun ds st1 => ES ⟨c, ds.head?⟩ s st1
  | .gh i, s, st, K => getP s i fun d => frzP d st fun e st1 => K.nx (s.set i (some e)) st1
  | .dset d k v, s, st, K => wpE C ES v s st fun w st1 => wpE C ES d s st1 fun x st2 => wpE C ES k s st2 fun y st3 => dctP x y st3 fun a t kvs q => kvs.length < sizeLine ∧ K.nx s (put st3 a (.dct t (putD kvs q w)))
  | .ghd i, s, st, K => getP s i fun d => fzdP d st fun e st1 => K.nx (s.set i (some e)) st1
  | .tr b h, s, st, K => wpSs C (fun x s2 st2 => wpH C ES h x s2 st2 K) b s st K
def wpSs (C : Cl) (ES : XS) : ISs → DSt → Sto → DEnds → Prop
  | .nil, s, st, K => K.nx s st
  | .cons a r, s, st, K => wpS C ES a s st { K with nx := fun s2 st2 => wpSs C ES r s2 st2 K }
def wpH (C : Cl) (ES : XS) : IHs → Exc → DSt → Sto → DEnds → Prop
  | .nil, x, s, st, _ => ES x s st
  | .cx _ cs i m t _ b, x, s, st, K => if cs.contains x.cls = true then ∃ y, x.arg = some y ∧ (match m with
      | 0 => K.rt (.tup [.str t, y]) st
      | 1 => K.rt y st
      | _ => cmpP .le (.int 0) y st fun r st1 => match r with
        | .bl true => wpE C (fun _ _ _ => False) b (unsetO s (some i)) st1 fun w st2 => cmpP .le y w st2 K.rt
        | .bl false => K.rt (.bl false) st1
        | _ => False) else ES x s st
  | .cons _ cs i b r, x, s, st, K => if cs.contains x.cls = true then wpSs C (fun _ _ _ => False) b (unsetO s i) st (K.unset i) else wpH C ES r x s st K
end
/-- forgetting a part of the store -/
def Fg (R : D → Sto → Prop) (d : D) (st : Sto) : Prop := ∃ st2, Sub st2 st ∧ R d st2
structure FnD where
  np : Nat
  ns : Nat
  body : ISs
def wpFn (P : List FnD) : Nat → Cl
  | 0, _, _, _, _, _ => False
  | n + 1, f, ds, st, R, E => ∃ d, P[f]? = some d ∧ ds.length = d.np ∧
      wpSs (wpFn P n) (fun x _ st2 => ∃ st3, Sub st3 st2 ∧ E x st3) d.body (dstart d.ns ds) st ⟨fun _ st2 => Fg R .non st2, Fg R, fun _ _ => False, fun _ _ => False⟩
end Fy

/-! The small language against the text: a look that says when a piece of it is the text's, and that its wishes hold of the text. -/
namespace Fy
open PySem PySem.Spec PyProof.Rows L2
variable [LamT]

/-! ### readings of plain data -/
abbrev DE := DSt → Sto → (D → Sto → Prop) → Prop
def liftE (B : BP) (K : PySem.W.Frag) (t : DE) : TE := fun s H Q => ∃ hs z st R, SR B ⟨K, hs⟩ st H s z ∧ StoOk ⟨K, hs⟩ st H ∧ t z st R ∧ ∀ d st2 v H2, R d st2 → Step ⟨K, hs⟩ st H st2 H2 → Rep ⟨K, hs⟩ st2 H2 v d → StoOk ⟨K, hs⟩ st2 H2 → Q v H2
def liftT (B : BP) (K : PySem.W.Frag) (t : DSt → Sto → (Bool → Sto → Prop) → Prop) : TT := fun s H Q => ∃ hs z st R, SR B ⟨K, hs⟩ st H s z ∧ StoOk ⟨K, hs⟩ st H ∧ t z st R ∧ ∀ b st2 H2, R b st2 → Step ⟨K, hs⟩ st H st2 H2 → StoOk ⟨K, hs⟩ st2 H2 → Q b H2
def liftA (B : BP) (K : PySem.W.Frag) (n : Nat) (t : DSt → Sto → (List D → Sto → Prop) → Prop) : TA := fun s H Q => ∃ hs z st R, SR B ⟨K, hs⟩ st H s z ∧ StoOk ⟨K, hs⟩ st H ∧ t z st R ∧ ∀ ds st2 vs H2, R ds st2 → ds.length = n → Step ⟨K, hs⟩ st H st2 H2 → Reps ⟨K, hs⟩ st2 H2 vs ds → StoOk ⟨K, hs⟩ st2 H2 → Q vs H2
def liftO (B : BP) (K : PySem.W.Frag) (t : DSt → Sto → (Option Int → Sto → Prop) → Prop) : TO := fun s H Q => ∃ hs z st R, SR B ⟨K, hs⟩ st H s z ∧ StoOk ⟨K, hs⟩ st H ∧ t z st R ∧ ∀ o st2 H2, R o st2 → Step ⟨K, hs⟩ st H st2 H2 → StoOk ⟨K, hs⟩ st2 H2 → Q o H2
/-- an iterator J walks src as long as L stands -/
structure ItOk (K : PySem.W.Frag) (J : It) (src : Src) (L : (Addr → Prop) → Sto → Hp → Prop) : Prop where
  step : ∀ hs hs2 st H st2 H2, L hs st H → RSt ⟨K, hs⟩ ⟨K, hs2⟩ st H st2 H2 → StoOk ⟨K, hs2⟩ st2 H2 → src.ok st2 → L hs2 st2 H2
  go : ∀ hs i st H, L hs st H → i < src.items.length → J.go i H
  yld : ∀ hs i st H x H2, L hs st H → StoOk ⟨K, hs⟩ st H → i < src.items.length → J.yld i H x H2 → Step ⟨K, hs⟩ st H st H2 ∧ StoOk ⟨K, hs⟩ st H2 ∧ ∃ d, src.items[i]? = some d ∧ Rep ⟨K, hs⟩ st H2 x d
  stop : ∀ hs i st H, L hs st H → src.items.length ≤ i → J.stop i H
def liftI (B : BP) (K : PySem.W.Frag) (t : DSt → Sto → (Src → Sto → Prop) → Prop) : TI := fun s H Q => ∃ hs z st R, SR B ⟨K, hs⟩ st H s z ∧ StoOk ⟨K, hs⟩ st H ∧ t z st R ∧
  ∀ src st2 H2 J L, R src st2 → Step ⟨K, hs⟩ st H st2 H2 → StoOk ⟨K, hs⟩ st2 H2 → ItOk K J src L → L hs st2 H2 → src.items.length ≤ sizeLine → Q J H2
/-- two rows of slots that are alike but for some -/
def Out (l : List Nat) (s s2 : L2.St) : Prop := ∀ vs : List Nat, (∀ i ∈ l, i ∈ vs) → L2.wipe s2 vs = L2.wipe s vs
theorem wipe_in {s : L2.St} {j : Nat} : ∀ {vs : List Nat}, j ∈ vs → j < s.length → (L2.wipe s vs)[j]? = some none
  | v :: vs, h, hl => by
    unfold L2.wipe
    by_cases e : v = j
    · subst e
      exact List.getElem?_set_self (by rw [L2.wipe_length]; exact hl)
    · rw [List.getElem?_set_ne e]
      exact wipe_in ((List.mem_cons.mp h).resolve_left fun q => e q.symm) hl
theorem wipe_ext {s s2 : L2.St} {vs : List Nat} (hl : s2.length = s.length) (h : ∀ j, j ∉ vs → s2[j]? = s[j]?) : L2.wipe s2 vs = L2.wipe s vs := by
  refine List.ext_getElem? fun j => ?_
  by_cases e : j ∈ vs
  · by_cases q : j < s.length
    · rw [wipe_in e q, wipe_in e (by rw [hl]; exact q)]
    · rw [List.getElem?_eq_none (by rw [L2.wipe_length]; omega), List.getElem?_eq_none (by rw [L2.wipe_length]; omega)]
  · rw [L2.wipe_out e, L2.wipe_out e, h j e]
theorem wipe_wipe {s : L2.St} {vs : List Nat} : L2.wipe (L2.wipe s vs) vs = L2.wipe s vs := wipe_ext (L2.wipe_length _ _) fun j h => L2.wipe_out h
theorem Out.set {s : L2.St} {i : Nat} {v : Option V} : Out [i] s (s.set i v) := fun vs h => wipe_ext (List.length_set ..) fun j hj => List.getElem?_set_ne fun (e : i = j) => hj (e ▸ h i (List.mem_singleton.mpr rfl))
theorem Out.trans {l m : List Nat} {s s2 s3 : L2.St} (a : Out l s s2) (b : Out m s2 s3) : Out (l ++ m) s s3 := fun vs h => (b vs fun i hi => h i (List.mem_append_right _ hi)).trans (a vs fun i hi => h i (List.mem_append_left _ hi))
def liftG (B : BP) (K : PySem.W.Frag) (t : Tg) : TG := fun v s H Q => ∃ hs z st d R, SR B ⟨K, hs⟩ st H s z ∧ StoOk ⟨K, hs⟩ st H ∧ Rep ⟨K, hs⟩ st H v d ∧ asgP t d z R ∧ ∀ z2 s2, R z2 → SR B ⟨K, hs⟩ st H s2 z2 → Out t.slots s s2 → Q s2 H
def liftGs (B : BP) (K : PySem.W.Frag) (t : Tgs) : TGs := fun vs s H Q => ∃ hs z st ds R, SR B ⟨K, hs⟩ st H s z ∧ StoOk ⟨K, hs⟩ st H ∧ Reps ⟨K, hs⟩ st H vs ds ∧ asgsP t ds z R ∧ ∀ z2 s2, R z2 → SR B ⟨K, hs⟩ st H s2 z2 → Out t.slots s s2 → Q s2 H
structure EndsOk (K : KH) (st : Sto) (H : Hp) (k : DEnds) (d : Ends) : Prop where
  nx : ∀ z st2 s H2, k.nx z st2 → Step K st H st2 H2 → SRep K st2 H2 s z → StoOk K st2 H2 → d.nx s H2
  rt : ∀ x st2 v H2, k.rt x st2 → Step K st H st2 H2 → Rep K st2 H2 v x → StoOk K st2 H2 → d.rt v H2
  bk : ∀ z st2 s H2, k.bk z st2 → Step K st H st2 H2 → SRep K st2 H2 s z → StoOk K st2 H2 → d.bk s H2
  ct : ∀ z st2 s H2, k.ct z st2 → Step K st H st2 H2 → SRep K st2 H2 s z → StoOk K st2 H2 → d.ct s H2
theorem EndsOk.step {K : KH} {st st1 : Sto} {H H1 : Hp} {k : DEnds} {d : Ends} (e : EndsOk K st H k d) (t : Step K st H st1 H1) : EndsOk K st1 H1 k d :=
  ⟨fun z st2 s H2 h t2 => e.nx z st2 s H2 h (t.trans t2), fun z st2 s H2 h t2 => e.rt z st2 s H2 h (t.trans t2), fun z st2 s H2 h t2 => e.bk z st2 s H2 h (t.trans t2), fun z st2 s H2 h t2 => e.ct z st2 s H2 h (t.trans t2)⟩
def liftS (B : BP) (K : PySem.W.Frag) (t : DSt → Sto → DEnds → Prop) : TS := fun d s H => ∃ hs z st k, SR B ⟨K, hs⟩ st H s z ∧ StoOk ⟨K, hs⟩ st H ∧ t z st k ∧ EndsOk ⟨K, hs⟩ st H k d

theorem pe_imp {X : Cx} {e : Expr} {t u : TE} (h : PE X e t) (k : ∀ s H Q, u s H Q → t s H Q) : PE X e u := ⟨fun pins s z H Q I q => h.run pins s z H Q I (k _ _ _ q)⟩
theorem pt_imp {X : Cx} {e : Expr} {t u : TT} (h : PT X e t) (k : ∀ s H Q, u s H Q → t s H Q) : PT X e u := ⟨fun pins s z H Q I q => h.run pins s z H Q I (k _ _ _ q)⟩
theorem pw_imp {X : Cx} {e : Expr} {t u : TT} (h : PW X e t) (k : ∀ s H Q, u s H Q → t s H Q) : PW X e u := ⟨fun wh pins s z H Q I q => h.run wh pins s z H Q I (k _ _ _ q)⟩
theorem pa_imp {X : Cx} {e : List Expr} {t u : TA} (h : PA X e t) (k : ∀ s H Q, u s H Q → t s H Q) : PA X e u := ⟨fun p pins s z H Q I q => h.run p pins s z H Q I (k _ _ _ q)⟩
theorem po_imp {X : Cx} {e : Option Expr} {t u : TO} (h : PO X e t) (k : ∀ s H Q, u s H Q → t s H Q) : PO X e u := ⟨fun pins s z H Q I q => h.run pins s z H Q I (k _ _ _ q)⟩
theorem pts_imp {X : Cx} {e : List Expr} {t u : TT} (h : PTs X e t) (k : ∀ s H Q, u s H Q → t s H Q) : PTs X e u := ⟨fun pins s z H Q I q => h.run pins s z H Q I (k _ _ _ q)⟩
theorem pi_imp {X : Cx} {tg e : Expr} {t u : TI} (h : PI X tg e t) (k : ∀ s H Q, u s H Q → t s H Q) : PI X tg e u := ⟨fun pins s z H Q I q => h.run pins s z H Q I (k _ _ _ q)⟩
theorem pg_imp {X : Cx} {e : Expr} {t u : TG} (h : PG X e t) (k : ∀ v s H Q, u v s H Q → t v s H Q) : PG X e u := ⟨fun pins s z H v w Q I r q => h.run pins s z H v w Q I r (k _ _ _ _ q)⟩
theorem pgs_imp {X : Cx} {e : List Expr} {t u : TGs} (h : PGs X e t) (k : ∀ v s H Q, u v s H Q → t v s H Q) : PGs X e u := ⟨fun pins s z H v w Q I r q => h.run pins s z H v w Q I r (k _ _ _ _ q)⟩
theorem ps_imp {X : Cx} {e : Stmt} {t u : TS} (h : PS X e t) (k : ∀ d s H, u d s H → t d s H) : PS X e u := ⟨fun pins s z H d I q => h.run pins s z H d I (k _ _ _ q)⟩
theorem pss_imp {X : Cx} {e : List Stmt} {t u : TS} (h : PSs X e t) (k : ∀ d s H, u d s H → t d s H) : PSs X e u := ⟨fun pins s z H d I q => h.run pins s z H d I (k _ _ _ q)⟩

section
variable {X : Cx} {B : BP} {C : Cl} {ES : XS} {a b c : Expr} {pos : Pos} {ia ib ic : IE}

theorem snd_var {i : Nat} {x : Str} (hN : X.N[i]? = some x) (hv : Vis X.env.scope x) (hd : (x == ("__debug__" : Str)) = false) (hcd : (x == ("__classdict__" : Str)) = false) : PE X (.Name x pos) (liftE B X.K (wpE C ES (.var i))) := by
  refine pe_imp (pe_var hN hv hd hcd) ?_
  rintro s H Q ⟨hs, z, st, R, sr, so, h, q⟩
  simp only [wpE, getP] at h
  split at h
  · rename_i d e
    obtain ⟨v, e1, r⟩ := sr.r.2 i d e
    exact ⟨v, e1, q d st v H h .refl r so⟩
  · exact h.elim
theorem snd_const {e : Expr} {ie : IE} {v : V} {d : D} (h0 : PE X e (tC v)) (hw : ∀ s st R, wpE C ES ie s st R → R d st) (hr : ∀ (hs : Addr → Prop) st H, Rep ⟨X.K, hs⟩ st H v d) : PE X e (liftE B X.K (wpE C ES ie)) := by
  refine pe_imp h0 ?_
  rintro s H Q ⟨hs, z, st, R, sr, so, h, q⟩
  exact q d st v H (hw _ _ _ h) .refl (hr _ _ _) so
/-- an operator by values -/
def OpOk (X : Cx) (P : D → D → Sto → (D → Sto → Prop) → Prop) (r : R2) : Prop :=
  ∀ (hs : Addr → Prop) x y st H Q R v u, P x y st R → StoOk ⟨X.K, hs⟩ st H → Rep ⟨X.K, hs⟩ st H v x → Rep ⟨X.K, hs⟩ st H u y → (∀ d st2 v H2, R d st2 → Step ⟨X.K, hs⟩ st H st2 H2 → Rep ⟨X.K, hs⟩ st2 H2 v d → StoOk ⟨X.K, hs⟩ st2 H2 → Q v H2) → r v u H Q
theorem snd_two {e : Expr} {ie : IE} {P : D → D → Sto → (D → Sto → Prop) → Prop} {r : R2} (h0 : PE X e (tOp r (liftE B X.K (wpE C ES ia)) (liftE B X.K (wpE C ES ib)))) (hr : OpOk X P r)
    (hw : ∀ s st R, wpE C ES ie s st R → wpE C ES ia s st fun x st1 => wpE C ES ib s st1 fun y st2 => P x y st2 R) : PE X e (liftE B X.K (wpE C ES ie)) := by
  refine pe_imp h0 ?_
  rintro s H Q ⟨hs, z, st, R, sr, so, h, q⟩
  refine ⟨hs, z, st, _, sr, so, hw _ _ _ h, fun d st1 v H1 h1 t1 r1 so1 => ⟨hs, z, st1, _, sr.mono t1, so1, h1, fun d2 st2 v2 H2 h2 t2 r2 so2 => ?_⟩⟩
  exact hr hs d d2 st2 H2 Q R v v2 h2 so2 (r1.mono t2) r2 fun d3 st3 v3 H3 h3 t3 => q d3 st3 v3 H3 h3 ((t1.trans t2).trans t3)
theorem snd_bin {o : BOp} {op : Operator} {r : R2} (ho : OpR X (binaryOp op) r) (hr : OpOk X (binP o) r)
    (ha : PE X a (liftE B X.K (wpE C ES ia))) (hb : PE X b (liftE B X.K (wpE C ES ib))) : PE X (.BinOp a op b pos) (liftE B X.K (wpE C ES (.bin o ia ib))) :=
  snd_two (pe_op ho ha hb) hr fun s st R h => by simpa only [wpE] using h
/-! operators on ints -/
theorem opok_int {P : D → D → Sto → (D → Sto → Prop) → Prop} {c : Int → Int → Prop} {g : Int → Int → Int} (h : ∀ x y st R, P x y st R → ∃ i j, x = .int i ∧ y = .int j ∧ c i j ∧ R (.int (g i j)) st) : OpOk X P (rI c fun i j => .int (g i j)) := by
  intro hs x y st H Q R v u hp so rx ry q
  obtain ⟨i, j, rfl, rfl, hc, hR⟩ := h x y st R hp
  cases rx
  cases ry
  exact ⟨i, j, rfl, rfl, hc, q _ st _ H hR .refl (.int _) so⟩
theorem opok_int0 {P : D → D → Sto → (D → Sto → Prop) → Prop} {g : Int → Int → Int} (h : ∀ x y st R, P x y st R → ∃ i j, x = .int i ∧ y = .int j ∧ R (.int (g i j)) st) : OpOk X P (rI0 fun i j => .int (g i j)) := by
  intro hs x y st H Q R v u hp so rx ry q
  obtain ⟨i, j, rfl, rfl, hR⟩ := h x y st R hp
  cases rx
  cases ry
  exact ⟨i, j, rfl, rfl, q _ st _ H hR .refl (.int _) so⟩
theorem opok_cmp {P : D → D → Sto → (D → Sto → Prop) → Prop} {g : Int → Int → Bool} (h : ∀ x y st R, P x y st R → ∃ i j, x = .int i ∧ y = .int j ∧ R (.bl (g i j)) st) : OpOk X P (rI0 fun i j => .bl (g i j)) := by
  intro hs x y st H Q R v u hp so rx ry q
  obtain ⟨i, j, rfl, rfl, hR⟩ := h x y st R hp
  cases rx
  cases ry
  exact ⟨i, j, rfl, rfl, q _ st _ H hR .refl (.bl _) so⟩
def bopOf : BOp → Operator
  | .add => .Add | .sub => .Sub | .mul => .Mult | .fdiv => .FloorDiv | .mod => .Mod | .pow => .Pow
theorem opI_of (o : BOp) : ∃ r, OpR X (binaryOp (bopOf o)) r ∧ OpOk X (binI o) r := by
  cases o with
  | add => exact ⟨_, op_add, opok_int0 fun x y st R h => by cases x <;> cases y <;> first | exact h.elim | exact ⟨_, _, rfl, rfl, h⟩⟩
  | sub => exact ⟨_, op_sub, opok_int0 fun x y st R h => by cases x <;> cases y <;> first | exact h.elim | exact ⟨_, _, rfl, rfl, h⟩⟩
  | mul => exact ⟨_, op_mul, opok_int fun x y st R h => by cases x <;> cases y <;> first | exact h.elim | exact ⟨_, _, rfl, rfl, h.1, h.2⟩⟩
  | fdiv => exact ⟨_, op_fdiv, opok_int fun x y st R h => by cases x <;> cases y <;> first | exact h.elim | exact ⟨_, _, rfl, rfl, h.1, h.2⟩⟩
  | mod => exact ⟨_, op_mod, opok_int fun x y st R h => by cases x <;> cases y <;> first | exact h.elim | exact ⟨_, _, rfl, rfl, h.1, h.2⟩⟩
  | pow => exact ⟨_, op_pow, opok_int fun x y st R h => by cases x <;> cases y <;> first | exact h.elim | exact ⟨_, _, rfl, rfl, h.1, h.2⟩⟩
theorem lst_ref {hs : Addr → Prop} {st : Sto} {H : Hp} {a : Addr} {ds : List D} (so : StoOk ⟨X.K, hs⟩ st H) (e : st a = some (.lst ds)) : ∃ xs, H a = some (.lst xs) ∧ Reps ⟨X.K, hs⟩ st H xs ds := by
  obtain ⟨_, xs, h, r⟩ := so.c a _ e
  exact ⟨xs, h, r⟩
theorem catL_ok {hs : Addr → Prop} {st : Sto} {H : Hp} {a b : Addr} {xs ys : List V} {x y : List D} {R : D → Sto → Prop} {Q : VK} (so : StoOk ⟨X.K, hs⟩ st H) (hx : H a = some (.lst xs)) (rx : Reps ⟨X.K, hs⟩ st H xs x) (hy : H b = some (.lst ys)) (ry : Reps ⟨X.K, hs⟩ st H ys y) (h : catL x y st R)
    (q : ∀ d st2 v H2, R d st2 → Step ⟨X.K, hs⟩ st H st2 H2 → Rep ⟨X.K, hs⟩ st2 H2 v d → StoOk ⟨X.K, hs⟩ st2 H2 → Q v H2) : rCat (.ref a) (.ref b) H Q := by
  refine ⟨a, b, xs, ys, rfl, rfl, hx, hy, by rw [rx.length, ry.length]; exact h.1, fun p hp => ?_⟩
  exact q _ st _ _ h.2 (.new hp) (.fl ⟨upd_same, so.free hp, so.nohs hp⟩ ((rx.append ry).mono (.new hp)) (by rw [List.length_append]; exact h.1)) (so.new hp)
theorem Reps.rep {K : KH} {st : Sto} {H : Hp} {xs : List V} {ds : List D} (r : Reps K st H xs ds) : ∀ n : Nat, Reps K st H (List.replicate n xs).flatten (List.replicate n ds).flatten
  | 0 => .nil
  | n + 1 => by
    rw [List.replicate_succ, List.replicate_succ, List.flatten_cons, List.flatten_cons]
    exact r.append (Reps.rep r n)
theorem rep_len {α : Type} (ds : List α) (n : Nat) : (List.replicate n ds).flatten.length = ds.length * n := by
  induction n with
  | zero => simp
  | succ n ih => rw [List.replicate_succ, List.flatten_cons, List.length_append, ih, Nat.mul_succ, Nat.add_comm]
theorem op_of (o : BOp) : ∃ r, OpR X (binaryOp (bopOf o)) r ∧ OpOk X (binP o) r := by
  obtain ⟨r, h1, h2⟩ := opI_of (X := X) o
  by_cases ho : o = .add
  · subst ho
    refine ⟨_, OpR.or h1 (OpR.or op_add_str (OpR.or op_catA op_cat)), fun hs x y st H Q R v u h so rx ry q => ?_⟩
    unfold binP at h
    split at h
    · cases rx
      cases ry
      exact .inr (.inl ⟨_, _, rfl, rfl, h.1, q _ st _ H h.2 .refl (.str _) so⟩)
    · cases rx with
      | tup hx rx zx =>
        cases ry with
        | tup hy ry zy =>
          refine .inr (.inr (.inl ⟨_, _, _, _, rfl, rfl, SqT.of hx, SqT.of hy, by rw [rx.length, ry.length]; exact h.1, fun e => ?_, fun _ e => ?_, fun _ _ p hp => ?_⟩))
          · subst e
            cases rx
            exact q _ st _ H h.2 .refl (.tup hy ry zy) so
          · subst e
            cases ry
            rw [List.append_nil] at h
            exact q _ st _ H h.2 .refl (.tup hx rx zx) so
          · exact q _ st _ _ h.2 (.new hp) (.tup upd_same ((rx.append ry).mono (.new hp)) (by rw [List.length_append]; exact h.1)) (so.new hp)
    · cases rx with
      | fl hx rx zx =>
        cases ry with
        | fl hy ry zy => exact .inr (.inr (.inr (catL_ok so hx.1 rx hy.1 ry h q)))
    · obtain ⟨b, e, h⟩ := h
      cases rx with
      | fl hx rx zx =>
        cases ry
        obtain ⟨ys, hy, ry⟩ := lst_ref so e
        exact .inr (.inr (.inr (catL_ok so hx.1 rx hy ry h q)))
    · obtain ⟨b, e, h⟩ := h
      cases ry with
      | fl hy ry zy =>
        cases rx
        obtain ⟨xs, hx, rx⟩ := lst_ref so e
        exact .inr (.inr (.inr (catL_ok so hx rx hy.1 ry h q)))
    · obtain ⟨a, b, e1, e2, h⟩ := h
      cases rx
      cases ry
      obtain ⟨xs, hx, rx⟩ := lst_ref so e1
      obtain ⟨ys, hy, ry⟩ := lst_ref so e2
      exact .inr (.inr (.inr (catL_ok so hx rx hy ry h q)))
    · cases ‹BOp.add = BOp.mul›
    · cases ‹BOp.add = BOp.mul›
    · cases ‹BOp.add = BOp.mul›
    · exact .inl (h2 hs _ _ st H Q R v u h so rx ry q)
  · by_cases hm : o = .mul
    · subst hm
      refine ⟨_, OpR.or h1 (OpR.or op_rep (OpR.or op_repT (OpR.or op_repU op_repX))), fun hs x y st H Q R v u h so rx ry q => ?_⟩
      unfold binP at h
      split at h <;> first | (cases ‹BOp.mul = BOp.add›; done) | skip
      all_goals first | (exact .inl (h2 hs _ _ st H Q R v u h so rx ry q)) | skip
      · rename_i a k _
        cases ry
        cases rx with
        | fl hx rx zx =>
          obtain ⟨⟨k1, k2, k3⟩, h⟩ := h
          refine .inr (.inl ⟨_, k, _, rfl, rfl, hx.1, by omega, by omega, by rw [rx.length]; exact k3, fun p hp => ?_⟩)
          exact q _ st _ _ h (.new hp) (.fl ⟨upd_same, so.free hp, so.nohs hp⟩ ((Reps.rep rx k.toNat).mono (.new hp)) (by rw [rep_len]; exact k3)) (so.new hp)
      · rename_i a k _
        cases ry
        cases rx with
        | tup hx rx zx =>
          obtain ⟨⟨k0, k1, k2, k3⟩, h⟩ := h
          have sl : 1000000 ≤ sizeLine := by decide
          have hz : a.length * k.toNat ≤ sizeLine := Nat.le_trans (Nat.mul_le_mul k3 (by omega : k.toNat ≤ 1000)) (by omega)
          by_cases k9 : k ≤ 1
          · refine .inr (.inr (.inr (.inl ⟨_, k, _, rfl, rfl, SqT.of hx, fun z => k0 (by subst z; cases rx; rfl), k1, k9, fun e => ?_, fun e p hp => ?_⟩)))
            · subst e
              have e2 : (List.replicate (1 : Int).toNat a).flatten = a := by simp
              rw [e2] at h
              exact q _ st _ H h .refl (.tup hx rx zx) so
            · have e2 : (List.replicate k.toNat a).flatten = [] := by
                rw [Int.toNat_of_nonpos e]
                rfl
              rw [e2] at h
              exact q _ st _ _ h (.new hp) (.tup upd_same .nil (Nat.zero_le _)) (so.new hp)
          refine .inr (.inr (.inl ⟨_, k, _, rfl, rfl, SqT.of hx, fun z => k0 (by subst z; cases rx; rfl), by omega, k2, by rw [rx.length]; exact k3, fun p hp => ?_⟩))
          exact q _ st _ _ h (.new hp) (.tup upd_same ((Reps.rep rx k.toNat).mono (.new hp)) (by rw [rep_len]; exact hz)) (so.new hp)
      · rename_i a k _
        cases rx
        cases ry
        exact .inr (.inr (.inr (.inr ⟨_, _, rfl, rfl, h.1.1, h.1.2.1, h.1.2.2.1, h.1.2.2.2, q _ st _ H h.2 .refl (.str _) so⟩)))
    · refine ⟨r, h1, fun hs x y st H Q R v u h so rx ry q => h2 hs x y st H Q R v u ?_ so rx ry q⟩
      unfold binP at h
      split at h <;> first | exact absurd rfl ho | exact absurd rfl hm | exact h
/-! comparisons -/
mutual
theorem Py.dp {K : KH} {st : Sto} {H : Hp} (so : StoOk K st H) : ∀ {v : V} {d : D} {p : PyData}, Py st d p → Rep K st H v d → Dp K.K H v p
  | _, _, _, .non, r => by cases r; exact .non
  | _, _, _, .bl _, r => by cases r; exact .bl _
  | _, _, _, .int _, r => by cases r; exact .int _
  | _, _, _, .str _, r => by cases r; exact .str _
  | _, _, _, .tup p, r => by
    cases r with
    | tup h r _ => exact .tup (SqT.of h) (Pys.dp so p r)
  | _, _, _, .tix p, r => by
    cases r with
    | tix h _ _ r _ => exact .tup (sqT_fz h) (Pys.dp so p r)
  | _, _, _, .fl p, r => by
    cases r with
    | fl h r _ => exact .lst h.sq (Pys.dp so p r)
  | _, _, _, .ref e p, r => by
    cases r with
    | ref =>
      obtain ⟨_, xs, h, r⟩ := so.c _ _ e
      exact .lst (SqL.of h) (Pys.dp so p r)
theorem Pys.dp {K : KH} {st : Sto} {H : Hp} (so : StoOk K st H) : ∀ {v : List V} {d : List D} {p : List PyData}, Pys st d p → Reps K st H v d → DpAll K.K H v p
  | _, _, _, .nil, r => by cases r; exact .nil
  | _, _, _, .cons p q, r => by
    cases r with
    | cons r s => exact .cons (Py.dp so p r) (Pys.dp so q s)
end
theorem eq_ok {hs : Addr → Prop} {st : Sto} {H : Hp} {x y : D} {v u : V} {k : Bool → Prop} (so : StoOk ⟨X.K, hs⟩ st H) (rx : Rep ⟨X.K, hs⟩ st H v x) (ry : Rep ⟨X.K, hs⟩ st H u y) (h : eqP x y st k) :
    (∃ b, scal v u = true ∧ b = decide (v = u) ∧ k b) ∨ ∃ d e, Dp X.K H v d ∧ Dp X.K H u e ∧ SeqAt.shaped d = true ∧ SeqAt.shaped e = true ∧ k (PyData.eqv d e) := by
  unfold eqP at h
  split at h
  · cases rx; cases ry
    exact .inl ⟨_, rfl, by simp, h⟩
  · cases rx; cases ry
    exact .inl ⟨_, rfl, by simp, h⟩
  · cases rx; cases ry
    exact .inl ⟨_, rfl, by simp, h⟩
  · obtain ⟨p, q, hp, hq, s1, s2, hk⟩ := h
    exact .inr ⟨p, q, Py.dp so hp rx, Py.dp so hq ry, s1, s2, hk⟩
theorem Rep.isNon {K : KH} {st : Sto} {H : Hp} {v : V} {d : D} (r : Rep K st H v d) : decide (v = .non) = d.isNon := by
  cases r <;> first | rfl | exact decide_eq_false (fun z => by cases z)
theorem Rep.flat {K : KH} {st : Sto} {H : Hp} {v : V} {d : D} (r : Rep K st H v d) (h : flatD d = true) : flatV v = true := by
  cases r <;> first | rfl | cases h
theorem Reps.flat {K : KH} {st : Sto} {H : Hp} : ∀ {vs : List V} {ds : List D}, Reps K st H vs ds → ds.all flatD = true → vs.all flatV = true
  | _, _, .nil, _ => rfl
  | _, _, .cons r s, h => by
    rw [List.all_cons, Bool.and_eq_true] at h ⊢
    exact ⟨r.flat h.1, Reps.flat s h.2⟩
theorem Rep.eqF {K : KH} {st : Sto} {H : Hp} {v u : V} {d e : D} (r : Rep K st H v d) (q : Rep K st H u e) (h : flatD d = true) (k : flatD e = true) : eqV v u = Fy.eqF d e := by
  cases r <;> cases q <;> first | rfl | (cases h; done) | (cases k; done)
theorem Reps.inV {K : KH} {st : Sto} {H : Hp} {v : V} {d : D} (r : Rep K st H v d) (h : flatD d = true) : ∀ {vs : List V} {ds : List D}, Reps K st H vs ds → ds.all flatD = true → L2.inV v vs = ds.any fun y => Fy.eqF y d
  | _, _, .nil, _ => rfl
  | _, _, .cons q s, k => by
    rw [List.all_cons, Bool.and_eq_true] at k
    have ih := Reps.inV r h s k.2
    unfold L2.inV at ih ⊢
    rw [List.any_cons, List.any_cons, ih, q.eqF r k.1 h]
def rInAny (X : Cx) (f : Bool → Bool) : R2 := fun x y H Q => (∃ p xs, y = .ref p ∧ (SqL X.K H p xs ∨ SqT X.K H p xs) ∧ flatV x = true ∧ xs.all flatV = true ∧ Q (.bl (f (L2.inV x xs))) H) ∨
  (∃ (c : Nat) (z : Str), x = .str ⟨#[c]⟩ ∧ y = .str z ∧ Q (.bl (f (decide (c ∈ z.cps.toList)))) H) ∨ (∃ d ds, Dp X.K H x d ∧ Dp X.K H y (.list ds) ∧ SeqAt.shaped d = true ∧ SeqAt.shaped (.list ds) = true ∧ Q (.bl (f (ds.any fun z => PyData.eqv z d))) H)
theorem inL_ok {hs : Addr → Prop} {st : Sto} {H : Hp} {x : D} {v u : V} {ds : List D} {p : Addr} {xs : List V} {R : D → Sto → Prop} {Q : VK} {f : Bool → Bool} (so : StoOk ⟨X.K, hs⟩ st H) (rx : Rep ⟨X.K, hs⟩ st H v x) (hq : SqL X.K H p xs) (r : Reps ⟨X.K, hs⟩ st H xs ds)
    (h : inL x ds st fun b => R (.bl (f b)) st) (q : ∀ d st2 v H2, R d st2 → Step ⟨X.K, hs⟩ st H st2 H2 → Rep ⟨X.K, hs⟩ st2 H2 v d → StoOk ⟨X.K, hs⟩ st2 H2 → Q v H2) : rInAny X f v (.ref p) H Q := by
  rcases h with ⟨h1, h2, h3⟩ | ⟨pd, ps, h1, h2, h3, h4, h5⟩
  · refine .inl ⟨p, xs, rfl, .inl hq, rx.flat h1, r.flat h2, ?_⟩
    rw [Reps.inV rx h1 r h2]
    exact q _ st _ H h3 .refl (.bl _) so
  · exact .inr (.inr ⟨pd, ps, Py.dp so h1 rx, .lst hq (Pys.dp so h2 r), h3, h4, q _ st _ H h5 .refl (.bl _) so⟩)
theorem in_ok {hs : Addr → Prop} {st : Sto} {H : Hp} {x y : D} {v u : V} {R : D → Sto → Prop} {Q : VK} {f : Bool → Bool} (so : StoOk ⟨X.K, hs⟩ st H) (rx : Rep ⟨X.K, hs⟩ st H v x) (ry : Rep ⟨X.K, hs⟩ st H u y)
    (h : inP x y st fun b => R (.bl (f b)) st) (q : ∀ d st2 v H2, R d st2 → Step ⟨X.K, hs⟩ st H st2 H2 → Rep ⟨X.K, hs⟩ st2 H2 v d → StoOk ⟨X.K, hs⟩ st2 H2 → Q v H2) : rInAny X f v u H Q := by
  unfold inP at h
  split at h
  · obtain ⟨c, rfl, h⟩ := h
    cases rx
    cases ry
    exact .inr (.inl ⟨_, _, rfl, rfl, q _ st _ H h .refl (.bl _) so⟩)
  · obtain ⟨h1, h2, h3⟩ := h
    cases ry with
    | tup hq r hz =>
      refine .inl ⟨_, _, rfl, .inr (SqT.of hq), rx.flat h1, r.flat h2, ?_⟩
      rw [Reps.inV rx h1 r h2]
      exact q _ st _ H h3 .refl (.bl _) so
  · obtain ⟨h1, h2, h3⟩ := h
    cases ry with
    | tix hq _ _ r hz =>
      refine .inl ⟨_, _, rfl, .inr (sqT_fz hq), rx.flat h1, r.flat h2, ?_⟩
      rw [Reps.inV rx h1 r h2]
      exact q _ st _ H h3 .refl (.bl _) so
  · cases ry with
    | fl hq r hz => exact inL_ok (u := .non) so rx hq.sq r h q
  · obtain ⟨ds, e, h⟩ := h
    cases ry
    obtain ⟨_, xs, hx, r⟩ := so.c _ _ e
    exact inL_ok (u := .non) so rx (SqL.of hx) r h q
  · exact h.elim
theorem op_inAny (hu : X.A.units + 65 < cLine) : OpR X (compareOp .In) (rInAny X fun b => b) := fun pins s σ H x y v u Q I rx ry h => by
  rcases h with h | h | h
  · exact op_in_seq pins s σ H x y v u Q I rx ry (by simpa only [rIn, Bool.false_eq_true, if_false] using h)
  · exact op_in_sign pins s σ H x y v u Q I rx ry h
  · exact op_inD hu pins s σ H x y v u Q I rx ry h
theorem op_notinAny (hu : X.A.units + 65 < cLine) : OpR X (compareOp .NotIn) (rInAny X fun b => !b) := fun pins s σ H x y v u Q I rx ry h => by
  rcases h with h | h | h
  · exact op_notIn_seq pins s σ H x y v u Q I rx ry (by simpa only [rIn, if_true] using h)
  · exact op_notIn_sign pins s σ H x y v u Q I rx ry h
  · exact op_notInD hu pins s σ H x y v u Q I rx ry h
def copOf : COp → CmpOp
  | .eq => .Eq | .ne => .NotEq | .lt => .Lt | .le => .LtE | .gt => .Gt | .ge => .GtE | .is => .Is | .isnot => .IsNot | .isin => .In | .notin => .NotIn
def rNotIB : R2 := fun x y H Q => ∃ (a : Int) (b : Bool), x = .int a ∧ y = .bl b ∧ Q (.bl true) H
theorem op_notIB : OpR X (compareOp .IsNot) rNotIB := by
  intro pins s σ H x y v u Q I rx ry h
  obtain ⟨a, b, rfl, rfl, q⟩ := h
  obtain ⟨t, rfl⟩ := rx
  cases (show u = Value.bool b from ry)
  exact wpAny_isNot_other rfl (fun z => by cases z) ⟨.bl true, H, I, rfl, q⟩
theorem cop_of (hu : X.A.units + 65 < cLine) (o : COp) : ∃ r, OpR X (compareOp (copOf o)) r ∧ OpOk X (cmpP o) r := by
  cases o with
  | lt => exact ⟨_, op_lt, opok_cmp fun x y st R h => by cases x <;> cases y <;> first | exact h.elim | exact ⟨_, _, rfl, rfl, h⟩⟩
  | le => exact ⟨_, op_le, opok_cmp fun x y st R h => by cases x <;> cases y <;> first | exact h.elim | exact ⟨_, _, rfl, rfl, h⟩⟩
  | gt => exact ⟨_, op_gt, opok_cmp fun x y st R h => by cases x <;> cases y <;> first | exact h.elim | exact ⟨_, _, rfl, rfl, h⟩⟩
  | ge => exact ⟨_, op_ge, opok_cmp fun x y st R h => by cases x <;> cases y <;> first | exact h.elim | exact ⟨_, _, rfl, rfl, h⟩⟩
  | is =>
    refine ⟨_, OpR.or op_isN op_isBl, fun hs x y st H Q R v u h so rx ry q => ?_⟩
    cases y <;> first | (cases x <;> exact h.elim) | skip
    · cases ry
      refine .inl ⟨rfl, ?_⟩
      rw [rx.isNon]
      exact q _ st _ H (by cases x <;> exact h) .refl (.bl _) so
    · cases x <;> first | exact h.elim | skip
      cases rx
      cases ry
      exact .inr ⟨_, _, rfl, rfl, q _ st _ H h .refl (.bl _) so⟩
  | isnot =>
    refine ⟨_, OpR.or op_notN (OpR.or op_notBl op_notIB), fun hs x y st H Q R v u h so rx ry q => ?_⟩
    cases y <;> first | (cases x <;> exact h.elim) | skip
    · cases ry
      refine .inl ⟨rfl, ?_⟩
      rw [rx.isNon]
      exact q _ st _ H (by cases x <;> exact h) .refl (.bl _) so
    · cases x <;> first | exact h.elim | skip
      · cases rx
        cases ry
        exact .inr (.inl ⟨_, _, rfl, rfl, q _ st _ H h .refl (.bl _) so⟩)
      · cases rx
        cases ry
        exact .inr (.inr ⟨_, _, rfl, rfl, q _ st _ H h .refl (.bl _) so⟩)
  | isin =>
    refine ⟨_, op_inAny hu, fun hs x y st H Q R v u h so rx ry q => ?_⟩
    exact in_ok so rx ry (f := fun b => b) (by simpa only [cmpP] using h) q
  | notin =>
    refine ⟨_, op_notinAny hu, fun hs x y st H Q R v u h so rx ry q => ?_⟩
    exact in_ok so rx ry (f := fun b => !b) (by simpa only [cmpP] using h) q
  | eq =>
    refine ⟨_, OpR.or op_eq (op_eqD (by omega)), fun hs x y st H Q R v u h so rx ry q => ?_⟩
    have h' : eqP x y st fun b => R (.bl b) st := by simpa only [cmpP] using h
    rcases eq_ok so rx ry h' with ⟨b, h1, rfl, hk⟩ | ⟨d, e, h1, h2, h3, h4, hk⟩
    · exact .inl ⟨h1, q _ st _ H hk .refl (.bl _) so⟩
    · exact .inr ⟨d, e, h1, h2, h3, h4, q _ st _ H hk .refl (.bl _) so⟩
  | ne =>
    refine ⟨_, OpR.or op_ne (op_neD (by omega)), fun hs x y st H Q R v u h so rx ry q => ?_⟩
    have h' : eqP x y st fun b => R (.bl (!b)) st := by simpa only [cmpP] using h
    rcases eq_ok so rx ry h' with ⟨b, h1, rfl, hk⟩ | ⟨d, e, h1, h2, h3, h4, hk⟩
    · exact .inl ⟨h1, q _ st _ H hk .refl (.bl _) so⟩
    · exact .inr ⟨d, e, h1, h2, h3, h4, q _ st _ H hk .refl (.bl _) so⟩
end
end Fy

namespace Fy
open PySem PySem.Spec PyProof.Rows L2
variable [LamT]
section
variable {X : Cx} {B : BP} {C : Cl} {ES : XS} {a b c : Expr} {pos : Pos} {ia ib ic : IE}
theorem snd_neg (ha : PE X a (liftE B X.K (wpE C ES ia))) : PE X (.UnaryOp .USub a pos) (liftE B X.K (wpE C ES (.neg ia))) := by
  refine pe_imp (pe_un un_neg ha) ?_
  rintro s H Q ⟨hs, z, st, R, sr, so, h, q⟩
  simp only [wpE] at h
  refine ⟨hs, z, st, _, sr, so, h, fun d st1 v H1 h1 t1 r1 so1 => ?_⟩
  cases d <;> first | exact h1.elim | skip
  cases r1
  exact ⟨_, rfl, q _ st1 _ H1 h1 t1 (.int _) so1⟩
theorem snd_cmp {o : COp} {r : R2} (ho : OpR X (compareOp (copOf o)) r) (hr : OpOk X (cmpP o) r) (hm : behindInMarks (copOf o) b = false)
    (ha : PE X a (liftE B X.K (wpE C ES ia))) (hb : PE X b (liftE B X.K (wpE C ES ib))) : PE X (.Compare a [copOf o] [b] pos) (liftE B X.K (wpE C ES (.cmp o ia ib))) :=
  snd_two (pe_cmpR ho ha hb hm) hr fun s st R h => by simpa only [wpE] using h
/-- a test of two parts -/
theorem snd_cmpT {o : COp} {r : R2} (ho : OpR X (compareOp (copOf o)) r) (hr : OpOk X (cmpP o) r) (hm : behindInMarks (copOf o) b = false)
    (ha : PE X a (liftE B X.K (wpE C ES ia))) (hb : PE X b (liftE B X.K (wpE C ES ib))) : PT X (.Compare a [copOf o] [b] pos) (liftT B X.K (wpT C ES (.cmp o ia ib))) := by
  refine pt_imp (pt_cmpR ho ha hb hm) ?_
  rintro s H Q ⟨hs, z, st, R, sr, so, h, q⟩
  simp only [wpT, wpE] at h
  refine ⟨hs, z, st, _, sr, so, h, fun d st1 v H1 h1 t1 r1 so1 => ⟨hs, z, st1, _, sr.mono t1, so1, h1, fun d2 st2 v2 H2 h2 t2 r2 so2 => ?_⟩⟩
  refine hr hs d d2 st2 H2 _ _ v v2 h2 so2 (r1.mono t2) r2 fun d3 st3 v3 H3 h3 t3 r3 so3 => ?_
  cases d3 <;> first | exact h3.elim | skip
  cases r3
  exact ⟨_, rfl, q _ st3 H3 h3 ((t1.trans t2).trans t3) so3⟩
theorem snd_cmp2 {o o2 : COp} {r r2 : R2} (ho : OpR X (compareOp (copOf o)) r) (hr : OpOk X (cmpP o) r) (ho2 : OpR X (compareOp (copOf o2)) r2) (hr2 : OpOk X (cmpP o2) r2) (hm : lastMarks [copOf o, copOf o2] [b, c] = false)
    (ha : PE X a (liftE B X.K (wpE C ES ia))) (hb : PE X b (liftE B X.K (wpE C ES ib))) (hc : PE X c (liftE B X.K (wpE C ES ic))) : PE X (.Compare a [copOf o, copOf o2] [b, c] pos) (liftE B X.K (wpE C ES (.cmp2 o o2 ia ib ic))) := by
  refine pe_imp (pe_chain ho ho2 ha hb hc hm) ?_
  rintro s H Q ⟨hs, z, st, R, sr, so, h, q⟩
  simp only [wpE] at h
  refine ⟨hs, z, st, _, sr, so, h, fun d st1 v H1 h1 t1 r1 so1 => ⟨hs, z, st1, _, sr.mono t1, so1, h1, fun d2 st2 v2 H2 h2 t2 r2 so2 => ?_⟩⟩
  refine hr hs d d2 st2 H2 _ _ v v2 h2 so2 (r1.mono t2) r2 fun d3 st3 v3 H3 h3 t3 r3 so3 => ?_
  have t13 := (t1.trans t2).trans t3
  cases d3 <;> first | exact h3.elim | skip
  rename_i k
  cases r3
  cases k with
  | false => exact ⟨false, rfl, iteF (q _ st3 _ H3 h3 t13 (.bl _) so3)⟩
  | true =>
    refine ⟨true, rfl, iteT ⟨hs, z, st3, _, sr.mono t13, so3, h3, fun d4 st4 v4 H4 h4 t4 r4 so4 => ?_⟩⟩
    exact hr2 hs d2 d4 st4 H4 _ _ v2 v4 h4 so4 (r2.mono (t3.trans t4)) r4 fun d5 st5 v5 H5 h5 t5 => q d5 st5 v5 H5 h5 ((t13.trans t4).trans t5)
theorem snd_cmp2T {o o2 : COp} {r r2 : R2} (ho : OpR X (compareOp (copOf o)) r) (hr : OpOk X (cmpP o) r) (ho2 : OpR X (compareOp (copOf o2)) r2) (hr2 : OpOk X (cmpP o2) r2) (hm : lastMarks [copOf o, copOf o2] [b, c] = false)
    (ha : PE X a (liftE B X.K (wpE C ES ia))) (hb : PE X b (liftE B X.K (wpE C ES ib))) (hc : PE X c (liftE B X.K (wpE C ES ic))) : PT X (.Compare a [copOf o, copOf o2] [b, c] pos) (liftT B X.K (wpT C ES (.cmp2 o o2 ia ib ic))) := by
  refine pt_imp (pt_chain ho ho2 ha hb hc hm) ?_
  rintro s H Q ⟨hs, z, st, R, sr, so, h, q⟩
  simp only [wpT, wpE] at h
  refine ⟨hs, z, st, _, sr, so, h, fun d st1 v H1 h1 t1 r1 so1 => ⟨hs, z, st1, _, sr.mono t1, so1, h1, fun d2 st2 v2 H2 h2 t2 r2 so2 => ?_⟩⟩
  refine hr hs d d2 st2 H2 _ _ v v2 h2 so2 (r1.mono t2) r2 fun d3 st3 v3 H3 h3 t3 r3 so3 => ?_
  have t13 := (t1.trans t2).trans t3
  cases d3 <;> first | exact h3.elim | skip
  rename_i k
  cases r3
  cases k with
  | false => exact ⟨false, rfl, iteF ⟨_, rfl, q _ st3 H3 h3 t13 so3⟩⟩
  | true =>
    refine ⟨true, rfl, iteT ⟨hs, z, st3, _, sr.mono t13, so3, h3, fun d4 st4 v4 H4 h4 t4 r4 so4 => ?_⟩⟩
    refine hr2 hs d2 d4 st4 H4 _ _ v2 v4 h4 so4 (r2.mono (t3.trans t4)) r4 fun d5 st5 v5 H5 h5 t5 r5 so5 => ?_
    cases d5 <;> first | exact h5.elim | skip
    cases r5
    exact ⟨_, rfl, q _ st5 H5 h5 ((t13.trans t4).trans t5) so5⟩
/-- what gives a bool, as a test -/
theorem snd_T {ie : IE} (ha : PE X a (liftE B X.K (wpE C ES ie))) (he : ∀ whole, isTrue a X.env whole = (do let v ← whole; standAt a.pos; holding [v] (truthy v))) : PT X a (liftT B X.K (wpT C ES ie)) := by
  refine pt_imp (pt_val ha he) ?_
  rintro s H Q ⟨hs, z, st, R, sr, so, h, q⟩
  refine ⟨hs, z, st, _, sr, so, h, fun d st1 v H1 h1 t1 r1 so1 => ?_⟩
  cases d <;> first | exact h1.elim | skip
  cases r1
  exact ⟨_, rfl, q _ st1 H1 h1 t1 so1⟩
/-! and, or, not -/
theorem snd_and {rest : List Expr} (ha : PE X a (liftE B X.K (wpE C ES ia))) (hb : PE X (.BoolOp .And (b :: rest) pos) (liftE B X.K (wpE C ES ib))) : PE X (.BoolOp .And (a :: b :: rest) pos) (liftE B X.K (wpE C ES (.and ia ib))) := by
  refine pe_imp (pe_and ha hb) ?_
  rintro s H Q ⟨hs, z, st, R, sr, so, h, q⟩
  simp only [wpE] at h
  refine ⟨hs, z, st, _, sr, so, h, fun d st1 v H1 h1 t1 r1 so1 => ?_⟩
  cases d <;> first | exact h1.elim | skip
  rename_i k
  cases r1
  cases k with
  | false => exact ⟨false, rfl, iteF (q _ st1 _ H1 h1 t1 (.bl _) so1)⟩
  | true => exact ⟨true, rfl, iteT ⟨hs, z, st1, _, sr.mono t1, so1, h1, fun d4 st4 v4 H4 h4 t4 => q d4 st4 v4 H4 h4 (t1.trans t4)⟩⟩
theorem snd_or {rest : List Expr} (ha : PE X a (liftE B X.K (wpE C ES ia))) (hb : PE X (.BoolOp .Or (b :: rest) pos) (liftE B X.K (wpE C ES ib))) : PE X (.BoolOp .Or (a :: b :: rest) pos) (liftE B X.K (wpE C ES (.or ia ib))) := by
  refine pe_imp (pe_or ha hb) ?_
  rintro s H Q ⟨hs, z, st, R, sr, so, h, q⟩
  simp only [wpE] at h
  refine ⟨hs, z, st, _, sr, so, h, fun d st1 v H1 h1 t1 r1 so1 => ?_⟩
  cases d <;> first | exact h1.elim | skip
  rename_i k
  cases r1
  cases k with
  | true => exact ⟨true, rfl, iteT (q _ st1 _ H1 h1 t1 (.bl _) so1)⟩
  | false => exact ⟨false, rfl, iteF ⟨hs, z, st1, _, sr.mono t1, so1, h1, fun d4 st4 v4 H4 h4 t4 => q d4 st4 v4 H4 h4 (t1.trans t4)⟩⟩
theorem snd_andT {rest : List Expr} (ha : PT X a (liftT B X.K (wpT C ES ia))) (hb : PW X (.BoolOp .And (b :: rest) pos) (liftT B X.K (wpT C ES ib))) : PW X (.BoolOp .And (a :: b :: rest) pos) (liftT B X.K (wpT C ES (.and ia ib))) := by
  refine pw_imp (pw_and ha hb) ?_
  rintro s H Q ⟨hs, z, st, R, sr, so, h, q⟩
  simp only [wpT, wpE] at h
  have h' : wpT C ES ia z st fun k st1 => if k = true then wpT C ES ib z st1 R else R false st1 := by
    refine (congrArg (wpE C ES ia z st) ?_).mp h
    funext x st1
    cases x <;> first | rfl | skip
    rename_i k
    cases k <;> simp [truP, wpT]
  refine ⟨hs, z, st, _, sr, so, h', fun k st1 H1 h1 t1 so1 => ?_⟩
  cases k with
  | false => exact iteF (q _ st1 H1 (by simpa using h1) t1 so1)
  | true => exact iteT ⟨hs, z, st1, _, sr.mono t1, so1, (by simpa using h1), fun d4 st4 H4 h4 t4 => q d4 st4 H4 h4 (t1.trans t4)⟩
theorem snd_orT {rest : List Expr} (ha : PT X a (liftT B X.K (wpT C ES ia))) (hb : PW X (.BoolOp .Or (b :: rest) pos) (liftT B X.K (wpT C ES ib))) : PW X (.BoolOp .Or (a :: b :: rest) pos) (liftT B X.K (wpT C ES (.or ia ib))) := by
  refine pw_imp (pw_or ha hb) ?_
  rintro s H Q ⟨hs, z, st, R, sr, so, h, q⟩
  simp only [wpT, wpE] at h
  have h' : wpT C ES ia z st fun k st1 => if k = true then R true st1 else wpT C ES ib z st1 R := by
    refine (congrArg (wpE C ES ia z st) ?_).mp h
    funext x st1
    cases x <;> first | rfl | skip
    rename_i k
    cases k <;> simp [truP, wpT]
  refine ⟨hs, z, st, _, sr, so, h', fun k st1 H1 h1 t1 so1 => ?_⟩
  cases k with
  | true => exact iteT (q _ st1 H1 (by simpa using h1) t1 so1)
  | false => exact iteF ⟨hs, z, st1, _, sr.mono t1, so1, (by simpa using h1), fun d4 st4 H4 h4 t4 => q d4 st4 H4 h4 (t1.trans t4)⟩
theorem snd_not (ha : PE X a (liftE B X.K (wpE C ES ia))) : PE X (.UnaryOp .Not a pos) (liftE B X.K (wpE C ES (.not ia))) := by
  refine pe_imp (pe_not ha) ?_
  rintro s H Q ⟨hs, z, st, R, sr, so, h, q⟩
  simp only [wpE] at h
  refine ⟨hs, z, st, _, sr, so, h, fun d st1 v H1 h1 t1 r1 so1 => ?_⟩
  cases d <;> first | exact h1.elim | skip
  cases r1
  exact ⟨_, rfl, q _ st1 _ H1 h1 t1 (.bl _) so1⟩
theorem snd_notT (ha : PT X a (liftT B X.K (wpT C ES ia))) : PT X (.UnaryOp .Not a pos) (liftT B X.K (wpT C ES (.not ia))) := by
  refine pt_imp (pt_not ha) ?_
  rintro s H Q ⟨hs, z, st, R, sr, so, h, q⟩
  simp only [wpT, wpE] at h
  have h' : wpT C ES ia z st fun k st1 => R (!k) st1 := by
    refine (congrArg (wpE C ES ia z st) ?_).mp h
    funext x st1
    cases x <;> rfl
  exact ⟨hs, z, st, _, sr, so, h', fun k st1 H1 h1 t1 so1 => q _ st1 H1 h1 t1 so1⟩
theorem snd_ife (hc : PT X c (liftT B X.K (wpT C ES ic))) (ha : PE X a (liftE B X.K (wpE C ES ia))) (hb : PE X b (liftE B X.K (wpE C ES ib))) : PE X (.IfExp c a b pos) (liftE B X.K (wpE C ES (.ife ic ia ib))) := by
  refine pe_imp (pe_ifExp hc ha hb) ?_
  rintro s H Q ⟨hs, z, st, R, sr, so, h, q⟩
  simp only [wpE] at h
  refine ⟨hs, z, st, _, sr, so, h, fun k st1 H1 h1 t1 so1 => ?_⟩
  cases k with
  | true => exact iteT ⟨hs, z, st1, _, sr.mono t1, so1, (by simpa using h1), fun d4 st4 v4 H4 h4 t4 => q d4 st4 v4 H4 h4 (t1.trans t4)⟩
  | false => exact iteF ⟨hs, z, st1, _, sr.mono t1, so1, (by simpa using h1), fun d4 st4 v4 H4 h4 t4 => q d4 st4 v4 H4 h4 (t1.trans t4)⟩
/-! arguments -/
def noStar : Expr → Bool
  | .Starred _ _ => false
  | _ => true
theorem star_cons {e : Expr} {es : List Expr} {env : Env} (h : noStar e = true) : starEach (e :: es) env = (false, eval e env) :: starEach es env := by
  cases e <;> first | rfl | cases h
theorem any_back {env : Env} : ∀ {es : List Expr}, es.all noStar = true → (backTo pos (starEach es env)).any (·.1) = false
  | [], _ => rfl
  | e :: es, h => by
    rw [List.all_cons, Bool.and_eq_true] at h
    rw [star_cons h.1]
    show ((false : Bool) || (backTo pos (starEach es env)).any (·.1)) = false
    rw [any_back h.2]
    rfl
theorem snd_nil : PA X [] (liftA B X.K 0 (wpEs C ES .nil)) := by
  refine pa_imp pa_nil ?_
  rintro s H Q ⟨hs, z, st, R, sr, so, h, q⟩
  exact q _ st _ H (by simpa only [wpEs] using h) rfl .refl .nil so
theorem snd_cons {e : Expr} {es : List Expr} {ie : IE} {ies : IEs} {n : Nat} (hn : noStar e = true) (ha : PE X e (liftE B X.K (wpE C ES ie))) (hb : PA X es (liftA B X.K n (wpEs C ES ies))) : PA X (e :: es) (liftA B X.K (n + 1) (wpEs C ES (.cons ie ies))) := by
  refine pa_imp (pa_cons ha hb (star_cons hn)) ?_
  rintro s H Q ⟨hs, z, st, R, sr, so, h, q⟩
  simp only [wpEs] at h
  refine ⟨hs, z, st, _, sr, so, h, fun d st1 v H1 h1 t1 r1 so1 => ⟨hs, z, st1, _, sr.mono t1, so1, h1, fun ds st2 vs H2 h2 n2 t2 r2 so2 => ?_⟩⟩
  exact q _ st2 _ H2 h2 (by rw [List.length_cons, n2]) (t1.trans t2) (.cons (r1.mono t2) r2) so2
abbrev QOk (K : KH) (st : Sto) (H : Hp) (R : D → Sto → Prop) (Q : VK) : Prop := ∀ d st2 v H2, R d st2 → Step K st H st2 H2 → Rep K st2 H2 v d → StoOk K st2 H2 → Q v H2
theorem QOk.step {K : KH} {st st1 : Sto} {H H1 : Hp} {R : D → Sto → Prop} {Q : VK} (q : QOk K st H R Q) (t : Step K st H st1 H1) : QOk K st1 H1 R Q := fun d st2 v H2 h t2 => q d st2 v H2 h (t.trans t2)
theorem newL_ok {K : KH} {z : Bool} {ds : List D} {st : Sto} {H : Hp} {R : D → Sto → Prop} {Q : VK} {xs : List V} (h : newL z ds st R) (so : StoOk K st H) (r : Reps K st H xs ds) (hz : ds.length ≤ sizeLine) (q : QOk K st H R Q) :
    ∀ p, H p = none → Q (.ref p) (upd H p (.lst xs)) := by
  intro p hp
  cases z with
  | true => exact q _ st _ _ h (.new hp) (.fl ⟨upd_same, so.free hp, so.nohs hp⟩ (r.mono (.new hp)) hz) (so.new hp)
  | false => exact q _ _ _ _ (h p (so.free hp)) (.newPut hp) (.ref p) (so.newLst hp r hz)
theorem snd_rp {a b : Expr} {ia ib : IE} (ha : PE X a (liftE B X.K (wpE C ES ia))) (hb : PE X b (liftE B X.K (wpE C ES ib))) : PE X (.BinOp a .Mult b pos) (liftE B X.K (wpE C ES (.rp ia ib))) := by
  refine pe_imp (pe_op op_rep ha hb) ?_
  rintro s H Q ⟨hs, z, st, R, sr, so, h, q⟩
  simp only [wpE] at h
  refine ⟨hs, z, st, _, sr, so, h, fun d st1 v H1 h1 t1 r1 so1 => ⟨hs, z, st1, _, sr.mono t1, so1, h1, fun d2 st2 v2 H2 h2 t2 r2 so2 => ?_⟩⟩
  have r1 := r1.mono t2
  cases d <;> cases d2 <;> first | exact h2.elim | skip
  cases r2
  cases r1 with
  | fl hx rx zx =>
    obtain ⟨⟨k1, k2, k3⟩, h⟩ := h2
    exact ⟨_, _, _, rfl, rfl, hx.1, by omega, by omega, by rw [rx.length]; exact k3, newL_ok h so2 (Reps.rep rx _) (by rw [rep_len]; exact k3) (QOk.step q (t1.trans t2))⟩
theorem snd_tup {es : List Expr} {ies : IEs} {n k : Nat} (hn : n ≤ sizeLine) (h : PA X es (liftA B X.K n (wpEs C ES ies))) : PE X (.Tuple es k pos) (liftE B X.K (wpE C ES (.tup ies))) := by
  refine pe_imp (pe_tup h) ?_
  rintro s H Q ⟨hs, z, st, R, sr, so, h, q⟩
  simp only [wpE] at h
  refine ⟨hs, z, st, _, sr, so, h, fun ds st1 vs H1 h1 n1 t1 r1 so1 => ⟨by rw [r1.length, n1]; exact hn, fun p hp => ?_⟩⟩
  exact q _ st1 _ _ h1 (t1.trans (.new hp)) (.tup upd_same (r1.mono (.new hp)) (by rw [n1]; exact hn)) (so1.new hp)
theorem snd_lst {es : List Expr} {ies : IEs} {n : Nat} {y : Bool} (hn : n ≤ sizeLine) (h : PA X es (liftA B X.K n (wpEs C ES ies))) : PE X (.List es pos) (liftE B X.K (wpE C ES (.lst y ies))) := by
  refine pe_imp (pe_lst h) ?_
  rintro s H Q ⟨hs, z, st, R, sr, so, h, q⟩
  simp only [wpE] at h
  refine ⟨hs, z, st, _, sr, so, h, fun ds st1 vs H1 h1 n1 t1 r1 so1 => ⟨by rw [r1.length, n1]; exact hn, ?_⟩⟩
  exact newL_ok h1 so1 r1 (by rw [n1]; exact hn) (QOk.step q t1)
theorem snd_frz {ie : IE} (ha : PE X a (liftE B X.K (wpE C ES ie))) : PE X a (liftE B X.K (wpE C ES (.frz ie))) := by
  refine pe_imp ha ?_
  rintro s H Q ⟨hs, z, st, R, sr, so, h, q⟩
  simp only [wpE] at h
  refine ⟨hs, z, st, _, sr, so, h, fun d st1 v H1 h1 t1 r1 so1 => ?_⟩
  cases d <;> first | exact h1.elim | skip
  rename_i p
  obtain ⟨ds, e, h1⟩ := h1
  cases r1
  obtain ⟨hz, xs, hx, r⟩ := so1.c p _ e
  have t2 : Step ⟨X.K, hs⟩ st1 H1 (del st1 p) H1 := .sub Sub.del
  exact q _ _ _ _ h1 (t1.trans t2) (.fl ⟨hx, del_same, so1.nohs2 e⟩ (r.mono t2) hz) (so1.sub Sub.del)
theorem snd_bi {x : Str} {es : List Expr} {ies : IEs} {f : Bi} {p : Pos} {n : Nat} {t : List V → Hp → VK → Prop} (h0 : PE X a (tCB t (liftA B X.K n (wpEs C ES ies))))
    (hr : ∀ (hs : Addr → Prop) ds st H Q R vs, biP f ds st R → StoOk ⟨X.K, hs⟩ st H → Reps ⟨X.K, hs⟩ st H vs ds → QOk ⟨X.K, hs⟩ st H R Q → t vs H Q) : PE X a (liftE B X.K (wpE C ES (.bi f ies))) := by
  refine pe_imp h0 ?_
  rintro s H Q ⟨hs, z, st, R, sr, so, h, q⟩
  simp only [wpE] at h
  exact ⟨hs, z, st, _, sr, so, h, fun ds st1 vs H1 h1 n1 t1 r1 so1 => hr hs ds st1 H1 Q R vs h1 so1 r1 (QOk.step q t1)⟩
/-! subscripts -/
theorem Reps.at {K : KH} {st : Sto} {H : Hp} {xs : List V} {ds : List D} {i : Int} {d : D} (r : Reps K st H xs ds) (e : atI ds i = some d) : ∃ v, atI xs i = some v ∧ Rep K st H v d := by
  unfold atI at e ⊢
  rw [r.length]
  cases q : ixN ds.length i with
  | none => rw [q] at e; cases e
  | some j =>
    rw [q] at e
    exact r.get e
theorem ix_ok : OpOk X ixP (fun x y H Q => (rIxL X.K x y H Q ∨ rIxT X.K x y H Q) ∨ rIxS x y H Q) := by
  intro hs x y st H Q R v u h so rx ry q
  unfold ixP at h
  split at h
  · obtain ⟨d, e, h⟩ := h
    cases ry
    cases rx with
    | tup hq r hz =>
      obtain ⟨w, e1, r1⟩ := r.at e
      exact .inl (.inr ⟨_, _, _, w, rfl, rfl, SqT.of hq, e1, q _ st _ H h .refl r1 so⟩)
  · obtain ⟨d, e, h⟩ := h
    cases ry
    cases rx with
    | tix hq _ _ r hz =>
      obtain ⟨w, e1, r1⟩ := r.at e
      exact .inl (.inr ⟨_, _, _, w, rfl, rfl, sqT_fz hq, e1, q _ st _ H h .refl r1 so⟩)
  · obtain ⟨d, e, h⟩ := h
    cases ry
    cases rx with
    | fl hq r hz =>
      obtain ⟨w, e1, r1⟩ := r.at e
      exact .inl (.inl ⟨_, _, _, w, rfl, rfl, hq.sq, e1, q _ st _ H h .refl r1 so⟩)
  · obtain ⟨ds, d, e0, e, h⟩ := h
    cases ry
    cases rx
    obtain ⟨_, xs, hx, r⟩ := so.c _ _ e0
    obtain ⟨w, e1, r1⟩ := r.at e
    exact .inl (.inl ⟨_, _, _, w, rfl, rfl, SqL.of hx, e1, q _ st _ H h .refl r1 so⟩)
  · obtain ⟨hz, c, e, h⟩ := h
    cases ry
    cases rx
    exact .inr ⟨_, _, c, rfl, rfl, hz, e, q _ st _ H h .refl (.str _) so⟩
  · exact h.elim
theorem snd_ix (ha : PE X a (liftE B X.K (wpE C ES ia))) (hb : PE X b (liftE B X.K (wpE C ES ib))) (hs : PlainIx b) : PE X (.Subscript a b pos) (liftE B X.K (wpE C ES (.ix ia ib))) :=
  snd_two (pe_ix (IxR.or (IxR.or ix_list ix_tup) ix_str) ha hb hs) ix_ok fun s st R h => by simpa only [wpE] using h
theorem snd_oN : PO X none (liftO B X.K (wpO C ES .nil)) := by
  refine po_imp po_none ?_
  rintro s H Q ⟨hs, z, st, R, sr, so, h, q⟩
  exact q _ st H (by simpa only [wpO] using h) .refl so
theorem snd_oS {ie : IE} (ha : PE X a (liftE B X.K (wpE C ES ie))) : PO X (some a) (liftO B X.K (wpO C ES (.cons ie .nil))) := by
  refine po_imp (po_some ha) ?_
  rintro s H Q ⟨hs, z, st, R, sr, so, h, q⟩
  simp only [wpO] at h
  refine ⟨hs, z, st, _, sr, so, h, fun d st1 v H1 h1 t1 r1 so1 => ?_⟩
  cases d <;> first | exact h1.elim | skip
  cases r1
  exact ⟨_, rfl, q _ st1 H1 h1 t1 so1⟩
theorem Reps.cut {K : KH} {st : Sto} {H : Hp} {xs : List V} {ds : List D} (r : Reps K st H xs ds) (lo hi : Option Int) : Reps K st H (cutV xs lo hi) (cutD ds lo hi) := by
  unfold cutV cutD
  rw [r.length]
  exact (r.drop _).take _
theorem cutD_len (ds : List D) (lo hi : Option Int) : (cutD ds lo hi).length ≤ ds.length := by
  unfold cutD
  rw [List.length_take, List.length_drop]
  omega
theorem cutD_all {ds : List D} {lo hi : Option Int} (w : HT.sIx ds.length 0 lo = 0 ∧ HT.sIx ds.length ds.length hi = ds.length) : cutD ds lo hi = ds := by
  unfold cutD
  rw [w.1, w.2]
  simp
theorem snd_sl {lo hi : Option Expr} {ilo ihi : IEs} {y : Bool} {p2 : Pos} (ha : PE X a (liftE B X.K (wpE C ES ia))) (hl : PO X lo (liftO B X.K (wpO C ES ilo))) (hh : PO X hi (liftO B X.K (wpO C ES ihi))) :
    PE X (.Subscript a (.Slice lo hi none p2) pos) (liftE B X.K (wpE C ES (.sl y ia ilo ihi))) := by
  refine pe_imp (pe_slice (SlR.or sl_list (SlR.or sl_tupA sl_str)) ha hl hh) ?_
  rintro s H Q ⟨hs, z, st, R, sr, so, h, q⟩
  simp only [wpE] at h
  refine ⟨hs, z, st, _, sr, so, h, fun d st1 v H1 h1 t1 r1 so1 => ⟨hs, z, st1, _, sr.mono t1, so1, h1, fun i st2 H2 h2 t2 so2 => ⟨hs, z, st2, _, (sr.mono t1).mono t2, so2, h2, fun j st3 H3 h3 t3 so3 => ?_⟩⟩⟩
  have t13 := (t1.trans t2).trans t3
  unfold slP at h3
  split at h3
  · cases r1 with
    | tup hq r hz =>
      have r3 := r.mono (t2.trans t3)
      refine .inr (.inl ⟨_, _, rfl, SqT.of ((t2.trans t3).tup _ _ hq), fun w => ?_, fun _ p hp => ?_⟩)
      · rw [r.length] at w
        rw [cutD_all w] at h3
        exact q _ st3 _ _ h3 t13 (.tup ((t2.trans t3).tup _ _ hq) r3 hz) so3
      exact q _ st3 _ _ h3 (t13.trans (.new hp)) (.tup upd_same ((r3.cut i j).mono (.new hp)) (Nat.le_trans (cutD_len _ _ _) hz)) (so3.new hp)
  · cases r1
    exact .inr (.inr ⟨_, rfl, h3.1, q _ st3 _ _ h3.2 t13 (.str _) so3⟩)
  · cases r1 with
    | fl hq r hz =>
      have r3 := r.mono (t2.trans t3)
      exact .inl ⟨_, _, rfl, FlL.sq (K := ⟨X.K, hs⟩) ((t2.trans t3).rst.fz _ _ hq.1 hq.2.1 hq.2.2), newL_ok h3 so3 (r3.cut i j) (Nat.le_trans (cutD_len _ _ _) hz) (QOk.step q t13)⟩
  · cases r1 with
    | scr hq r hz =>
      have r3 := r.mono (t2.trans t3)
      exact .inl ⟨_, _, rfl, ((t2.trans t3).fzL hq).sq, newL_ok h3 so3 (r3.cut i j) (Nat.le_trans (cutD_len _ _ _) hz) (QOk.step q t13)⟩
  · obtain ⟨ds, e, h3⟩ := h3
    cases r1
    obtain ⟨hz, xs, hx, r⟩ := so3.c _ _ e
    exact .inl ⟨_, _, rfl, SqL.of hx, newL_ok h3 so3 (r.cut i j) (Nat.le_trans (cutD_len _ _ _) hz) (QOk.step q t13)⟩
  · exact h3.elim
end
end Fy

namespace Fy
open PySem PySem.Spec PyProof.Rows L2
variable [LamT]
section
variable {X : Cx} {B : BP} {C : Cl} {ES : XS} {a b c tg : Expr} {pos : Pos} {ia ib ic : IE}
/-! what is walked -/
/-- a list or a tuple, whichever comes -/
theorem pi_seq {l : Expr} {tl : TE} (hl : PE X l tl) :
    PI X tg l (fun s H R => tl s H fun x H1 => (∃ y, x = .str y ∧ R (Its y) H1) ∨ ∃ p, x = .ref p ∧ (((∃ xs, SqL X.K H1 p xs) ∧ R (Itl X.K p) H1) ∨ ((∃ xs, SqT X.K H1 p xs) ∧ R (Itt X.K p) H1) ∨ ∃ o, (∃ kvs, H1 p = some (.frz o (.dK kvs)) ∧ R (Itk p o kvs) H1) ∨ ∃ kvs, H1 p = some (.frz o (.dT kvs)) ∧ R (Itkt p o kvs) H1)) := by
  constructor
  intro pins s z H R I h
  refine thn (hl.run pins s z H _ I h) ?_
  rintro v s1 ⟨x, H1, I1, r1, ⟨y, rfl, q⟩ | ⟨p, rfl, hp⟩⟩
  · obtain ⟨t, rfl⟩ := r1
    cases ha : y.cps.all (· < 128)
    · exact wpAny_pyIter_wide ha (pi_one (tk := s1.toks) I1 _ (turn_str _ y t "str_iterator" (.inr rfl)) ⟨_, Heap.get?_push_size _ rfl, rfl, rfl⟩ q)
    · exact wpAny_pyIter_ascii ha (pi_one (tk := s1.toks) I1 _ (turn_str _ y t "str_ascii_iterator" (.inl rfl)) ⟨_, Heap.get?_push_size _ rfl, rfl, rfl⟩ q)
  cases r1
  have kp : ∀ o, Inv X pins z H1 { s1 with heap := s1.heap.push o } := fun o => I1.kept (t' := s1.toks) fun b u e => Heap.get?_push_of_some _ e
  have fp : ∀ b ∈ [s1.heap.objs.size], FpOk X pins H1 b := fun b hb => by
    rw [List.mem_singleton] at hb
    rw [hb]
    exact I1.fpOk (Nat.le_refl _) (I1.hok.fresh (Nat.le_refl _))
  rcases hp with ⟨⟨xs, hx⟩, q⟩ | ⟨⟨xs, hx⟩, q⟩ | ⟨o, ⟨kvs, hd, q⟩ | ⟨kvs, hd, q⟩⟩
  · obtain ⟨its, _, pl, _⟩ := I1.list hx
    exact wpAny_pyIter_list pl.isList ⟨_, _, _, _, H1, rfl, kp _, turn_list p _, ⟨_, Heap.get?_push_size _ rfl, rfl, rfl⟩, fp, q⟩
  · obtain ⟨its, _, pl, _⟩ := I1.tuple hx
    exact wpAny_pyIter_tuple (show s1.heap.IsTuple p its.toArray from pl) ⟨_, _, _, _, H1, rfl, kp _, turn_tuple p _, ⟨_, Heap.get?_push_size _ rfl, rfl, rfl⟩, fp, q⟩
  · obtain ⟨hs, hgd, hx, es, ep, vs, hdt, hsz, kv, hm⟩ := I1.frzK hd
    refine iter_keys hs hgd hx hdt (pi_one (tk := s1.toks) I1 _ (turn_keys _ hdt) ⟨_, Heap.get?_push_size _ rfl, rfl, ?_⟩ q)
    rw [hsz] <;> rfl
  · obtain ⟨hs, hgd, hx, es, ep, hdt, hsz, ent⟩ := I1.frzT hd
    refine iter_keys hs hgd hx hdt (pi_one (tk := s1.toks) I1 _ (turn_keysT _ hdt) ⟨_, Heap.get?_push_size _ rfl, rfl, ?_⟩ q)
    rw [hsz] <;> rfl
theorem itl_ok {K : PySem.W.Frag} {p : Addr} {src : Src} {L : (Addr → Prop) → Sto → Hp → Prop} (h : ∀ hs st H, L hs st H → ∃ xs, SqL K H p xs ∧ Reps ⟨K, hs⟩ st H xs src.items)
    (hst : ∀ hs hs2 st H st2 H2, L hs st H → RSt ⟨K, hs⟩ ⟨K, hs2⟩ st H st2 H2 → StoOk ⟨K, hs2⟩ st2 H2 → src.ok st2 → L hs2 st2 H2) : ItOk K (Itl K p) src L where
  step := hst
  go := fun hs i st H l hi => by
    obtain ⟨xs, hx, r⟩ := h hs st H l
    exact ⟨xs, xs[i]'(by rw [r.length]; exact hi), hx, List.getElem?_eq_getElem _⟩
  yld := fun hs i st H x H2 l so hi y => by
    obtain ⟨xs, hx, r⟩ := h hs st H l
    obtain ⟨e, y⟩ := y
    subst e
    exact ⟨.refl, so, r.get' (y xs hx)⟩
  stop := fun hs i st H l hi => by
    obtain ⟨xs, hx, r⟩ := h hs st H l
    exact ⟨xs, hx, by rw [r.length]; exact hi⟩
theorem itt_ok {K : PySem.W.Frag} {p : Addr} {src : Src} {L : (Addr → Prop) → Sto → Hp → Prop} (h : ∀ hs st H, L hs st H → ∃ xs, SqT K H p xs ∧ Reps ⟨K, hs⟩ st H xs src.items)
    (hst : ∀ hs hs2 st H st2 H2, L hs st H → RSt ⟨K, hs⟩ ⟨K, hs2⟩ st H st2 H2 → StoOk ⟨K, hs2⟩ st2 H2 → src.ok st2 → L hs2 st2 H2) : ItOk K (Itt K p) src L where
  step := hst
  go := fun hs i st H l hi => by
    obtain ⟨xs, hx, r⟩ := h hs st H l
    exact ⟨xs, xs[i]'(by rw [r.length]; exact hi), hx, List.getElem?_eq_getElem _⟩
  yld := fun hs i st H x H2 l so hi y => by
    obtain ⟨xs, hx, r⟩ := h hs st H l
    obtain ⟨e, y⟩ := y
    subst e
    exact ⟨.refl, so, r.get' (y xs hx)⟩
  stop := fun hs i st H l hi => by
    obtain ⟨xs, hx, r⟩ := h hs st H l
    exact ⟨xs, hx, by rw [r.length]; exact hi⟩
theorem its_ok {K : PySem.W.Frag} (x : Str) : ItOk K (Its x) ⟨x.cps.toList.map fun c => .str ⟨#[c]⟩, none⟩ (fun _ _ _ => True) where
  step := fun _ _ _ _ _ _ _ _ _ _ => trivial
  go := fun hs i st H _ hi => by
    show i < x.cps.size
    simpa using hi
  yld := fun hs i st H v H2 _ so hi y => by
    obtain ⟨rfl, c, hc, rfl⟩ := y
    refine ⟨.refl, so, .str ⟨#[c]⟩, ?_, .str _⟩
    simp [hc]
  stop := fun hs i st H _ hi => by
    show x.cps.size ≤ i
    simpa using hi
theorem rep_key {K : KH} {st : Sto} {H : Hp} (q : Key) : Rep K st H (kV q) (kD q) := by
  cases q with
  | inl i => exact .int i
  | inr x => exact .str x
theorem rep_keys {K : KH} {st : Sto} {H : Hp} : ∀ k : List Key, Reps K st H (k.map kV) (k.map kD)
  | [] => .nil
  | q :: k => .cons (rep_key q) (rep_keys k)
/-- the keys of a dict that no one changes -/
theorem itk_ok {K : PySem.W.Frag} {p : Addr} {o : Obj} {kvs : List (List Key × D)} {xs : List V} (hl : xs.length = kvs.length) : ItOk K (Itk p o (((kvs.map (·.1)).map k1).zip xs)) ⟨keysD false kvs, none⟩ (fun _ _ H => H p = some (.frz o (.dK (((kvs.map (·.1)).map k1).zip xs)))) where
  step := fun hs hs2 st H st2 H2 l t _ _ => t.frz _ _ _ l
  go := fun hs i st H l hi => ⟨l, by rw [List.length_zip, List.length_map, List.length_map, hl, Nat.min_self]; simpa [keysD] using hi⟩
  yld := fun hs i st H x H2 l so hi y => by
    obtain ⟨rfl, k, v, e, rfl⟩ := y
    refine ⟨.refl, so, kD k, ?_, rep_key k⟩
    rw [List.getElem?_zip_eq_some] at e
    obtain ⟨e, _⟩ := e
    simp only [List.getElem?_map] at e
    simp only [keysD, List.getElem?_map, keyD]
    cases h : kvs[i]? with
    | none => rw [h] at e; cases e
    | some q =>
      rw [h] at e
      have e : some (k1 q.1) = some k := e
      cases e
      rfl
  stop := fun hs i st H l hi => ⟨l, by rw [List.length_zip, List.length_map, List.length_map, hl, Nat.min_self]; simpa [keysD] using hi⟩
theorem itkt_ok {K : PySem.W.Frag} {p : Addr} {o : Obj} {kvs : List (List Key × D)} {xs : List V} (hz : ∀ q ∈ kvs, q.1.length ≤ sizeLine) (hl : xs.length = kvs.length) : ItOk K (Itkt p o ((kvs.map (·.1)).zip xs)) ⟨keysD true kvs, none⟩ (fun _ _ H => H p = some (.frz o (.dT ((kvs.map (·.1)).zip xs)))) where
  step := fun hs hs2 st H st2 H2 l t _ _ => t.frz _ _ _ l
  go := fun hs i st H l hi => ⟨l, by rw [List.length_zip, List.length_map, hl, Nat.min_self]; simpa [keysD] using hi⟩
  yld := fun hs i st H x H2 l so hi y => by
    obtain ⟨rfl, k, v, q, e, rfl, hq⟩ := y
    rw [List.getElem?_zip_eq_some] at e
    obtain ⟨e, _⟩ := e
    simp only [List.getElem?_map] at e
    cases h : kvs[i]? with
    | none => rw [h] at e; cases e
    | some r =>
      rw [h] at e
      have e : some r.1 = some k := e
      cases e
      refine ⟨.refl, so, .tup (r.1.map kD), ?_, .tup hq (rep_keys _) (by rw [List.length_map]; exact hz r (List.mem_of_getElem? h))⟩
      simp only [keysD, List.getElem?_map, keyD, h]
      rfl
  stop := fun hs i st H l hi => ⟨l, by rw [List.length_zip, List.length_map, hl, Nat.min_self]; simpa [keysD] using hi⟩
theorem snd_val (ha : PE X a (liftE B X.K (wpE C ES ia))) : PI X tg a (liftI B X.K (wpI C ES (.val ia))) := by
  refine pi_imp (pi_seq ha) ?_
  rintro s H Q ⟨hs, z, st, R, sr, so, h, q⟩
  simp only [wpI] at h
  refine ⟨hs, z, st, _, sr, so, h, fun d st1 v H1 h1 t1 r1 so1 => ?_⟩
  unfold iterP at h1
  split at h1
  · rename_i t kvs
    cases r1 with
    | fd hd hk r hz =>
      have hl := r.length
      rw [List.length_map] at hl
      cases t with
      | false => exact .inr ⟨_, rfl, .inr (.inr ⟨_, .inl ⟨_, hd, q _ st1 H1 _ _ h1 t1 so1 (itk_ok hl) hd (by simpa [keysD] using hz)⟩⟩)⟩
      | true => exact .inr ⟨_, rfl, .inr (.inr ⟨_, .inr ⟨_, hd, q _ st1 H1 _ _ h1 t1 so1 (itkt_ok (fun q hq => (hk q hq).1) hl) hd (by simpa [keysD] using hz)⟩⟩)⟩
  · cases r1
    exact .inl ⟨_, rfl, q _ st1 H1 _ _ h1.2 t1 so1 (its_ok _) trivial (by simpa using h1.1)⟩
  · cases r1 with
    | tup hq r hz =>
      have hq := SqT.of (K := X.K) hq
      refine .inr ⟨_, rfl, .inr (.inl ⟨⟨_, hq⟩, q _ st1 H1 _ (fun hs st H => ∃ xs, SqT X.K H _ xs ∧ Reps ⟨X.K, hs⟩ st H xs _) h1 t1 so1 (itt_ok (fun _ _ _ l => l) ?_) ⟨_, hq, r⟩ hz⟩)⟩
      rintro hs hs2 st H st2 H2 ⟨xs, hx, r⟩ t so2 _
      exact ⟨xs, t.sqT hx, r.mon t⟩
  · cases r1 with
    | tix hq _ _ r hz =>
      have hq := sqT_fz (K := X.K) hq
      refine .inr ⟨_, rfl, .inr (.inl ⟨⟨_, hq⟩, q _ st1 H1 _ (fun hs st H => ∃ xs, SqT X.K H _ xs ∧ Reps ⟨X.K, hs⟩ st H xs _) h1 t1 so1 (itt_ok (fun _ _ _ l => l) ?_) ⟨_, hq, r⟩ hz⟩)⟩
      rintro hs hs2 st H st2 H2 ⟨xs, hx, r⟩ t so2 _
      exact ⟨xs, t.sqT hx, r.mon t⟩
  · cases r1 with
    | fl hq r hz =>
      refine .inr ⟨_, rfl, .inl ⟨⟨_, hq.sq⟩, q _ st1 H1 _ (fun hs st H => ∃ xs, FlL ⟨X.K, hs⟩ st H _ xs ∧ Reps ⟨X.K, hs⟩ st H xs _) h1 t1 so1 (itl_ok (fun _ _ _ ⟨xs, hx, r⟩ => ⟨xs, hx.sq, r⟩) ?_) ⟨_, hq, r⟩ hz⟩⟩
      rintro hs hs2 st H st2 H2 ⟨xs, hx, r⟩ t so2 _
      exact ⟨xs, t.fz _ _ hx.1 hx.2.1 hx.2.2, r.mon t⟩
  · rename_i p
    obtain ⟨ds, e, h1⟩ := h1
    cases r1
    obtain ⟨hz, xs, hx, r⟩ := so1.c p _ e
    refine .inr ⟨_, rfl, .inl ⟨⟨_, SqL.of hx⟩, q _ st1 H1 _ (fun hs st H => ∃ xs, H p = some (.lst xs) ∧ Reps ⟨X.K, hs⟩ st H xs ds) h1 t1 so1 (itl_ok (fun _ _ _ ⟨xs, hx, r⟩ => ⟨xs, SqL.of hx, r⟩) ?_) ⟨_, hx, r⟩ hz⟩⟩
    rintro hs hs2 st H st2 H2 _ t so2 ok
    obtain ⟨_, xs, hx, r⟩ := so2.c p _ ok
    exact ⟨xs, hx, r⟩
  · exact h1.elim
/-! enumerate, zip -/
theorem enum_get {ds : List D} {i : Nat} {d : D} (h : ds[i]? = some d) : (enumD ds)[i]? = some (.tup [.int (i : Nat), d]) := by
  unfold enumD
  rw [List.getElem?_map, List.getElem?_zipIdx, h]
  simp
theorem enum_len (ds : List D) : (enumD ds).length = ds.length := by simp [enumD]
/-- a pair of the run -/
theorem pair_new {K : KH} {st : Sto} {H : Hp} {T : Addr} {x y : V} {d e : D} (so : StoOk K st H) (hT : H T = none) (r1 : Rep K st H x d) (r2 : Rep K st H y e) : Step K st H st (upd H T (.tup [x, y])) ∧ StoOk K st (upd H T (.tup [x, y])) ∧ Rep K st (upd H T (.tup [x, y])) (.ref T) (.tup [d, e]) :=
  ⟨.new hT, so.new hT, .tup upd_same (.cons (r1.mono (.new hT)) (.cons (r2.mono (.new hT)) .nil)) (by show 2 ≤ sizeLine; decide)⟩
theorem ite_ok {K : PySem.W.Frag} {p : Addr} {ds : List D} {own : Option (Addr × List D)} {L : (Addr → Prop) → Sto → Hp → Prop} (h : ∀ hs st H, L hs st H → ∃ xs, SqL K H p xs ∧ Reps ⟨K, hs⟩ st H xs ds)
    (hst : ∀ hs hs2 st H st2 H2, L hs st H → RSt ⟨K, hs⟩ ⟨K, hs2⟩ st H st2 H2 → StoOk ⟨K, hs2⟩ st2 H2 → (⟨enumD ds, own⟩ : Src).ok st2 → L hs2 st2 H2) : ItOk K (Ite K p) ⟨enumD ds, own⟩ L where
  step := hst
  go := fun hs i st H l hi => by
    obtain ⟨xs, hx, r⟩ := h hs st H l
    have hi : i < ds.length := by simpa [enum_len] using hi
    exact ⟨xs, xs[i]'(by rw [r.length]; exact hi), hx, List.getElem?_eq_getElem _⟩
  yld := fun hs i st H x H2 l so hi y => by
    obtain ⟨xs, hx, r⟩ := h hs st H l
    obtain ⟨T, v, rfl, hT, rfl, y⟩ := y
    obtain ⟨d, e1, r1⟩ := r.get' (y xs hx)
    obtain ⟨q1, q2, q3⟩ := pair_new so hT (.int (i : Nat)) r1
    exact ⟨q1, q2, _, enum_get e1, q3⟩
  stop := fun hs i st H l hi => by
    obtain ⟨xs, hx, r⟩ := h hs st H l
    have hi : ds.length ≤ i := by simpa [enum_len] using hi
    exact ⟨xs, hx, by rw [r.length]; exact hi⟩
theorem itet_ok {K : PySem.W.Frag} {p : Addr} {ds : List D} {L : (Addr → Prop) → Sto → Hp → Prop} (h : ∀ hs st H, L hs st H → ∃ xs, SqT K H p xs ∧ Reps ⟨K, hs⟩ st H xs ds)
    (hst : ∀ hs hs2 st H st2 H2, L hs st H → RSt ⟨K, hs⟩ ⟨K, hs2⟩ st H st2 H2 → L hs2 st2 H2) : ItOk K (IteT K p) ⟨enumD ds, none⟩ L where
  step := fun hs hs2 st H st2 H2 l t _ _ => hst hs hs2 st H st2 H2 l t
  go := fun hs i st H l hi => by
    obtain ⟨xs, hx, r⟩ := h hs st H l
    have hi : i < ds.length := by simpa [enum_len] using hi
    exact ⟨xs, xs[i]'(by rw [r.length]; exact hi), hx, List.getElem?_eq_getElem _⟩
  yld := fun hs i st H x H2 l so hi y => by
    obtain ⟨xs, hx, r⟩ := h hs st H l
    obtain ⟨T, v, rfl, hT, rfl, y⟩ := y
    obtain ⟨d, e1, r1⟩ := r.get' (y xs hx)
    obtain ⟨q1, q2, q3⟩ := pair_new so hT (.int (i : Nat)) r1
    exact ⟨q1, q2, _, enum_get e1, q3⟩
  stop := fun hs i st H l hi => by
    obtain ⟨xs, hx, r⟩ := h hs st H l
    have hi : ds.length ≤ i := by simpa [enum_len] using hi
    exact ⟨xs, hx, by rw [r.length]; exact hi⟩
theorem one_arg {s : L2.St} {H : Hp} {hs : Addr → Prop} {z : DSt} {st : Sto} {R : D → Sto → Prop} {f : List V → Hp → Prop} (sr : SR B ⟨X.K, hs⟩ st H s z) (so : StoOk ⟨X.K, hs⟩ st H) (h : wpE C ES ia z st R) (hf : ∀ d st1 v H1, R d st1 → Step ⟨X.K, hs⟩ st H st1 H1 → Rep ⟨X.K, hs⟩ st1 H1 v d → StoOk ⟨X.K, hs⟩ st1 H1 → f [v] H1) : liftA B X.K 1 (wpEs C ES (.cons ia .nil)) s H f := by
  refine ⟨hs, z, st, fun ds st1 => ∃ d, ds = [d] ∧ R d st1, sr, so, ?_, fun ds st1 vs H1 h1 n1 t1 r1 so1 => ?_⟩
  · simp only [wpEs]
    refine (congrArg (wpE C ES ia z st) ?_).mp h
    funext x st1
    exact propext ⟨fun q => ⟨x, rfl, q⟩, fun ⟨d, e, q⟩ => by cases e; exact q⟩
  · obtain ⟨d, rfl, h1⟩ := h1
    cases r1 with
    | cons r rr =>
      cases rr
      exact hf d st1 _ H1 h1 t1 r so1
theorem two_args {s : L2.St} {H : Hp} {hs : Addr → Prop} {z : DSt} {st : Sto} {R : D → D → Sto → Prop} {f : List V → Hp → Prop} (sr : SR B ⟨X.K, hs⟩ st H s z) (so : StoOk ⟨X.K, hs⟩ st H) (h : wpE C ES ia z st fun x st1 => wpE C ES ib z st1 fun y st2 => R x y st2)
    (hf : ∀ d e st1 v u H1, R d e st1 → Step ⟨X.K, hs⟩ st H st1 H1 → Rep ⟨X.K, hs⟩ st1 H1 v d → Rep ⟨X.K, hs⟩ st1 H1 u e → StoOk ⟨X.K, hs⟩ st1 H1 → f [v, u] H1) : liftA B X.K 2 (wpEs C ES (.cons ia (.cons ib .nil))) s H f := by
  refine ⟨hs, z, st, fun ds st1 => ∃ d e, ds = [d, e] ∧ R d e st1, sr, so, ?_, fun ds st1 vs H1 h1 n1 t1 r1 so1 => ?_⟩
  · simp only [wpEs]
    refine (congrArg (wpE C ES ia z st) ?_).mp h
    funext x st1
    refine congrArg (wpE C ES ib z st1) ?_
    funext y st2
    exact propext ⟨fun q => ⟨x, y, rfl, q⟩, fun ⟨d, e, q1, q⟩ => by cases q1; exact q⟩
  · obtain ⟨d, e, rfl, h1⟩ := h1
    cases r1 with
    | cons r rr =>
      cases rr with
      | cons r2 rr =>
        cases rr
        exact hf d e st1 _ _ H1 h1 t1 r r2 so1
theorem snd_enm {p tpos : Pos} {elts : List Expr} {kk : Nat} (hg : Gl X "enumerate") (hm : X.mg "enumerate" = none) (hn : noStar a = true) (ha : PE X a (liftE B X.K (wpE C ES ia))) : PI X (.Tuple elts kk tpos) (.Call (.Name "enumerate" p) [a] [] pos) (liftI B X.K (wpI C ES (.enm ia))) := by
  refine pi_imp (pi_enumA hg hm (snd_cons hn ha snd_nil) (star_cons hn)) ?_
  rintro s H Q ⟨hs, z, st, R, sr, so, h, q⟩
  simp only [wpI] at h
  refine one_arg sr so h fun d st1 v H1 h1 t1 r1 so1 => ?_
  unfold enmP at h1
  split at h1
  · cases r1 with
    | tup hq r hz =>
      have hq := SqT.of (K := X.K) hq
      exact ⟨_, _, rfl, .inr ⟨hq, q _ st1 H1 _ (fun hs st H => ∃ xs, SqT X.K H _ xs ∧ Reps ⟨X.K, hs⟩ st H xs _) h1 t1 so1 (itet_ok (fun _ _ _ l => l) fun hs hs2 st H st2 H2 ⟨xs, hx, r⟩ t => ⟨xs, t.sqT hx, r.mon t⟩) ⟨_, hq, r⟩ (by rw [enum_len]; exact hz)⟩⟩
  · cases r1 with
    | fl hq r hz =>
      exact ⟨_, _, rfl, .inl ⟨hq.sq, q _ st1 H1 _ (fun hs st H => ∃ xs, FlL ⟨X.K, hs⟩ st H _ xs ∧ Reps ⟨X.K, hs⟩ st H xs _) h1 t1 so1 (ite_ok (fun _ _ _ ⟨xs, hx, r⟩ => ⟨xs, hx.sq, r⟩) fun hs hs2 st H st2 H2 ⟨xs, hx, r⟩ t so2 _ => ⟨xs, t.fz _ _ hx.1 hx.2.1 hx.2.2, r.mon t⟩) ⟨_, hq, r⟩ (by rw [enum_len]; exact hz)⟩⟩
  · rename_i p
    obtain ⟨ds, e, h1⟩ := h1
    cases r1
    obtain ⟨hz, xs, hx, r⟩ := so1.c p _ e
    refine ⟨_, _, rfl, .inl ⟨SqL.of hx, q _ st1 H1 _ (fun hs st H => ∃ xs, H p = some (.lst xs) ∧ Reps ⟨X.K, hs⟩ st H xs ds) h1 t1 so1 (ite_ok (fun _ _ _ ⟨xs, hx, r⟩ => ⟨xs, SqL.of hx, r⟩) ?_) ⟨_, hx, r⟩ (by rw [enum_len]; exact hz)⟩⟩
    rintro hs hs2 st H st2 H2 _ t so2 ok
    obtain ⟨_, xs, hx, r⟩ := so2.c p _ ok
    exact ⟨xs, hx, r⟩
  · exact h1.elim
theorem zip_get {as bs : List D} {i : Nat} {d e : D} (h : as[i]? = some d) (h2 : bs[i]? = some e) : (zipD as bs)[i]? = some (.tup [d, e]) := by
  unfold zipD
  rw [List.getElem?_map, (List.getElem?_zip_eq_some (z := (d, e))).mpr ⟨h, h2⟩]
  rfl
theorem zip_len (as bs : List D) : (zipD as bs).length = min as.length bs.length := by simp [zipD]
theorem itz_ok {K : PySem.W.Frag} {p q : Addr} {ds es : List D} {L : (Addr → Prop) → Sto → Hp → Prop} (h : ∀ hs st H, L hs st H → ∃ xs ys, (SqL K H p xs ∧ SqL K H q ys) ∧ Reps ⟨K, hs⟩ st H xs ds ∧ Reps ⟨K, hs⟩ st H ys es)
    (hst : ∀ hs hs2 st H st2 H2, L hs st H → RSt ⟨K, hs⟩ ⟨K, hs2⟩ st H st2 H2 → L hs2 st2 H2) : ItOk K (Itz K p q) ⟨zipD ds es, none⟩ L where
  step := fun hs hs2 st H st2 H2 l t _ _ => hst hs hs2 st H st2 H2 l t
  go := fun hs i st H l hi => by
    obtain ⟨xs, ys, ⟨hx, hy⟩, r1, r2⟩ := h hs st H l
    have hi : i < min ds.length es.length := by simpa [zip_len] using hi
    exact ⟨xs, ys, xs[i]'(by rw [r1.length]; omega), ys[i]'(by rw [r2.length]; omega), hx, hy, List.getElem?_eq_getElem _, List.getElem?_eq_getElem _⟩
  yld := fun hs i st H x H2 l so hi y => by
    obtain ⟨xs, ys, ⟨hx, hy⟩, r1, r2⟩ := h hs st H l
    obtain ⟨T, v, u, rfl, hT, rfl, y1, y2⟩ := y
    obtain ⟨d, e1, s1⟩ := r1.get' (y1 xs hx)
    obtain ⟨e, e2, s2⟩ := r2.get' (y2 ys hy)
    obtain ⟨q1, q2, q3⟩ := pair_new so hT s1 s2
    exact ⟨q1, q2, _, zip_get e1 e2, q3⟩
  stop := fun hs i st H l hi => by
    obtain ⟨xs, ys, ⟨hx, hy⟩, r1, r2⟩ := h hs st H l
    have hi : min ds.length es.length ≤ i := by simpa [zip_len] using hi
    exact ⟨xs, ys, hx, hy, by rw [r1.length, r2.length]; omega⟩
theorem itzt_ok {K : PySem.W.Frag} {p q : Addr} {ds es : List D} {L : (Addr → Prop) → Sto → Hp → Prop} (h : ∀ hs st H, L hs st H → ∃ xs ys, (SqT K H p xs ∧ SqT K H q ys) ∧ Reps ⟨K, hs⟩ st H xs ds ∧ Reps ⟨K, hs⟩ st H ys es)
    (hst : ∀ hs hs2 st H st2 H2, L hs st H → RSt ⟨K, hs⟩ ⟨K, hs2⟩ st H st2 H2 → L hs2 st2 H2) : ItOk K (RZ.ItzT K p q) ⟨zipD ds es, none⟩ L where
  step := fun hs hs2 st H st2 H2 l t _ _ => hst hs hs2 st H st2 H2 l t
  go := fun hs i st H l hi => by
    obtain ⟨xs, ys, ⟨hx, hy⟩, r1, r2⟩ := h hs st H l
    have hi : i < min ds.length es.length := by simpa [zip_len] using hi
    exact ⟨xs, ys, xs[i]'(by rw [r1.length]; omega), ys[i]'(by rw [r2.length]; omega), hx, hy, List.getElem?_eq_getElem _, List.getElem?_eq_getElem _⟩
  yld := fun hs i st H x H2 l so hi y => by
    obtain ⟨xs, ys, ⟨hx, hy⟩, r1, r2⟩ := h hs st H l
    obtain ⟨T, v, u, rfl, hT, rfl, y1, y2⟩ := y
    obtain ⟨d, e1, s1⟩ := r1.get' (y1 xs hx)
    obtain ⟨e, e2, s2⟩ := r2.get' (y2 ys hy)
    obtain ⟨q1, q2, q3⟩ := pair_new so hT s1 s2
    exact ⟨q1, q2, _, zip_get e1 e2, q3⟩
  stop := fun hs i st H l hi => by
    obtain ⟨xs, ys, ⟨hx, hy⟩, r1, r2⟩ := h hs st H l
    have hi : min ds.length es.length ≤ i := by simpa [zip_len] using hi
    exact ⟨xs, ys, hx, hy, by rw [r1.length, r2.length]; omega⟩
theorem snd_zip {p tpos : Pos} {elts : List Expr} {kk : Nat} (hg : Gl X "zip") (hm : X.mg "zip" = none) (hn : noStar a = true) (hn2 : noStar b = true) (ha : PE X a (liftE B X.K (wpE C ES ia))) (hb : PE X b (liftE B X.K (wpE C ES ib))) : PI X (.Tuple elts kk tpos) (.Call (.Name "zip" p) [a, b] [] pos) (liftI B X.K (wpI C ES (.zip ia ib))) := by
  have nb2 : ([b] : List Expr).all noStar = true := by rw [List.all_cons, hn2]; rfl
  refine pi_imp (RZ.pi_zipA hg hm (snd_cons hn ha (snd_cons hn2 hb snd_nil)) (star_cons hn) (any_back nb2)) ?_
  rintro s H Q ⟨hs, z, st, R, sr, so, h, q⟩
  simp only [wpI] at h
  refine two_args sr so h fun d e st1 v u H1 h1 t1 r1 r2 so1 => ?_
  unfold zipP at h1
  have lm : ∀ {x y : List D}, x.length ≤ sizeLine → (zipD x y).length ≤ sizeLine := fun h => by rw [zip_len]; omega
  split at h1
  · cases r1 with
    | tup hq r hz =>
      cases r2 with
      | tup hq2 r2 hz2 =>
        have hq := SqT.of (K := X.K) hq
        have hq2 := SqT.of (K := X.K) hq2
        exact ⟨_, _, _, _, rfl, .inr ⟨hq, hq2, q _ st1 H1 _ (fun hs st H => ∃ xs ys, (SqT X.K H _ xs ∧ SqT X.K H _ ys) ∧ Reps ⟨X.K, hs⟩ st H xs _ ∧ Reps ⟨X.K, hs⟩ st H ys _) h1 t1 so1 (itzt_ok (fun _ _ _ l => l) fun hs hs2 st H st2 H2 ⟨xs, ys, ⟨hx, hy⟩, r, r2⟩ t => ⟨xs, ys, ⟨t.sqT hx, t.sqT hy⟩, r.mon t, r2.mon t⟩) ⟨_, _, ⟨hq, hq2⟩, r, r2⟩ (lm hz)⟩⟩
  · cases r1 with
    | fl hq r hz =>
      cases r2 with
      | fl hq2 r2 hz2 =>
        exact ⟨_, _, _, _, rfl, .inl ⟨hq.sq, hq2.sq, q _ st1 H1 _ (fun hs st H => ∃ xs ys, (FlL ⟨X.K, hs⟩ st H _ xs ∧ FlL ⟨X.K, hs⟩ st H _ ys) ∧ Reps ⟨X.K, hs⟩ st H xs _ ∧ Reps ⟨X.K, hs⟩ st H ys _) h1 t1 so1 (itz_ok (fun _ _ _ ⟨xs, ys, ⟨hx, hy⟩, r, r2⟩ => ⟨xs, ys, ⟨hx.sq, hy.sq⟩, r, r2⟩) fun hs hs2 st H st2 H2 ⟨xs, ys, ⟨hx, hy⟩, r, r2⟩ t => ⟨xs, ys, ⟨t.fz _ _ hx.1 hx.2.1 hx.2.2, t.fz _ _ hy.1 hy.2.1 hy.2.2⟩, r.mon t, r2.mon t⟩) ⟨_, _, ⟨hq, hq2⟩, r, r2⟩ (lm hz)⟩⟩
  · exact h1.elim
theorem itr_ok {K : PySem.W.Frag} (lo : Int) (n : Nat) : ItOk K (Itr lo n) ⟨rangeD lo n, none⟩ (fun _ _ _ => True) where
  step := fun _ _ _ _ _ _ _ _ _ _ => trivial
  go := fun hs i st H _ hi => by
    show i < n
    simpa [rangeD] using hi
  yld := fun hs i st H x H2 _ so hi y => by
    obtain ⟨e, rfl⟩ := y
    subst e
    have hi' : i < n := by simpa [rangeD] using hi
    exact ⟨.refl, so, .int (lo + i), by simp [rangeD, hi'], .int _⟩
  stop := fun hs i st H _ hi => by
    show n ≤ i
    simpa [rangeD] using hi
theorem rng_len {lo : Int} {n : Nat} : (rangeD lo n).length = n := by simp [rangeD]
theorem small_sz {i j : Int} (h : -1000000 ≤ i ∧ i ≤ 1000000 ∧ -1000000 ≤ j ∧ j ≤ 1000000) : (j - i).toNat ≤ sizeLine := by
  rw [sizeLine_eq]
  omega
theorem snd_rng1 {p : Pos} (hg : Gl X "range") (hm : X.mg "range" = none) (hn : noStar a = true) (ha : PE X a (liftE B X.K (wpE C ES ia))) : PI X tg (.Call (.Name "range" p) [a] [] pos) (liftI B X.K (wpI C ES (.rng1 ia))) := by
  refine pi_imp (pi_range1 hg hm (snd_cons hn ha snd_nil) (star_cons hn)) ?_
  rintro s H Q ⟨hs, z, st, R, sr, so, h, q⟩
  simp only [wpI] at h
  refine ⟨hs, z, st, fun ds st1 => ∃ d, ds = [d] ∧ rngP (.int 0) d st1 R, sr, so, ?_, fun ds st1 vs H1 h1 n1 t1 r1 so1 => ?_⟩
  · simp only [wpEs]
    refine (congrArg (wpE C ES ia z st) ?_).mp h
    funext x st1
    simp
  · obtain ⟨d, rfl, h1⟩ := h1
    cases d <;> first | exact h1.elim | skip
    cases r1 with
    | cons r1 rr =>
      cases rr
      cases r1
      rename_i j
      have e : (j - 0).toNat = j.toNat := by rw [Int.sub_zero]
      obtain ⟨hb, h1⟩ := h1
      have hz := small_sz hb
      rw [e] at h1 hz
      exact ⟨j, rfl, by omega, by omega, q _ st1 H1 _ _ h1 t1 so1 (itr_ok 0 j.toNat) trivial (by show (rangeD 0 j.toNat).length ≤ _; rw [rng_len]; exact hz)⟩
theorem snd_rng2 {p : Pos} (hg : Gl X "range") (hm : X.mg "range" = none) (hn : noStar a = true) (hn2 : noStar b = true) (ha : PE X a (liftE B X.K (wpE C ES ia))) (hb : PE X b (liftE B X.K (wpE C ES ib))) :
    PI X tg (.Call (.Name "range" p) [a, b] [] pos) (liftI B X.K (wpI C ES (.rng2 ia ib))) := by
  refine pi_imp (pi_range2 hg hm (snd_cons hn ha (snd_cons hn2 hb snd_nil)) (by rw [star_cons hn, star_cons hn2]; rfl) (star_cons hn2)) ?_
  rintro s H Q ⟨hs, z, st, R, sr, so, h, q⟩
  simp only [wpI] at h
  refine ⟨hs, z, st, fun ds st1 => ∃ d e, ds = [d, e] ∧ rngP d e st1 R, sr, so, ?_, fun ds st1 vs H1 h1 n1 t1 r1 so1 => ?_⟩
  · simp only [wpEs]
    refine (congrArg (wpE C ES ia z st) ?_).mp h
    funext x st1
    refine congrArg (wpE C ES ib z st1) ?_
    funext y st2
    simp only [List.cons.injEq, and_true]
    exact propext ⟨fun h => ⟨x, y, ⟨rfl, rfl⟩, h⟩, fun ⟨d, e, ⟨h1, h2⟩, h⟩ => h1 ▸ h2 ▸ h⟩
  · obtain ⟨d, e, rfl, h1⟩ := h1
    cases d <;> cases e <;> first | exact h1.elim | skip
    cases r1 with
    | cons r1 rr =>
      cases rr with
      | cons r2 rr =>
        cases rr
        cases r1
        cases r2
        rename_i i j
        obtain ⟨hb, h1⟩ := h1
        exact ⟨i, j, rfl, ⟨by omega, by omega, by omega, by omega⟩, q _ st1 H1 _ _ h1 t1 so1 (itr_ok i (j - i).toNat) trivial (by show (rangeD i (j - i).toNat).length ≤ _; rw [rng_len]; exact small_sz hb)⟩
/-! targets -/
theorem snd_nm {i : Nat} {x : Str} (hN : X.N.Nodup) (hi : X.N[i]? = some x) (hx : Loc X.env.scope x) (hf : X.fn x = true ∨ X.env.scope.names.lookup x = some .local) : PG X (.Name x pos) (liftG B X.K (.nm i)) := by
  refine pg_imp (pg_name hN hi hx hf) ?_
  rintro v s H Q ⟨hs, z, st, d, R, sr, so, r, h, q⟩
  exact q _ _ (by simpa only [asgP] using h) (sr.set i r) Out.set
theorem assign_star {e : Expr} {es : List Expr} {env : Env} (h : noStar e = true) : assignEach (e :: es) env = (false, assign e env) :: assignEach es env := by
  cases e <;> first | rfl | cases h
theorem assign_len {env : Env} : ∀ {es : List Expr}, es.all noStar = true → (assignEach es env).length = es.length ∧ (assignEach es env).findIdx? (·.1) = none
  | [], _ => ⟨rfl, rfl⟩
  | e :: es, h => by
    rw [List.all_cons, Bool.and_eq_true] at h
    obtain ⟨h1, h2⟩ := assign_len (env := env) h.2
    rw [assign_star h.1]
    refine ⟨by rw [List.length_cons, h1, List.length_cons], ?_⟩
    rw [List.findIdx?_cons]
    simp [h2]
theorem pg_or {e : Expr} {t u : TG} (h1 : PG X e t) (h2 : PG X e u) : PG X e (fun v s H Q => t v s H Q ∨ u v s H Q) := by
  refine ⟨fun pins s z H v w Q I r hw => ?_⟩
  rcases hw with y | y
  · exact h1.run pins s z H v w Q I r y
  · exact h2.run pins s z H v w Q I r y
theorem snd_tp {es : List Expr} {k n : Nat} {ts : Tgs} (hc : X.calm = true) (hn : es.all noStar = true) (hl : ∀ ds z R, asgsP ts ds z R → ds.length = es.length) (h : PGs X es (liftGs B X.K ts)) : PG X (.Tuple es k pos) (liftG B X.K (.tp ts)) := by
  refine pg_imp (pg_or (pg_tup hc h rfl (assign_len hn).2) (pg_lst hc h rfl (assign_len hn).2)) ?_
  rintro v s H Q ⟨hs, z, st, d, R, sr, so, r, h, q⟩
  cases d <;> first | (simp only [asgP] at h; done) | skip
  case' fl =>
    cases r with
    | fl hq r hz =>
      simp only [asgP] at h
      exact .inr ⟨_, _, rfl, hq.sq, by rw [r.length, hl _ _ _ h, (assign_len hn).1], hs, z, st, _, R, sr, so, r, h, q⟩
  cases r with
  | tup hq r hz =>
    simp only [asgP] at h
    refine .inl ?_
    exact ⟨_, _, rfl, SqT.of hq, by rw [r.length, hl _ _ _ h, (assign_len hn).1], hs, z, st, _, R, sr, so, r, h, q⟩
theorem snd_gnil : PGs X [] (liftGs B X.K .nil) := by
  refine pgs_imp pgs_nil ?_
  rintro v s H Q ⟨hs, z, st, ds, R, sr, so, r, h, q⟩
  cases r with
  | nil => exact ⟨rfl, q _ _ (by simpa only [asgsP] using h) sr fun _ _ => rfl⟩
  | cons _ _ => simp only [asgsP] at h
theorem snd_gcons {e : Expr} {es : List Expr} {t : Tg} {ts : Tgs} (hn : noStar e = true) (h1 : PG X e (liftG B X.K t)) (h2 : PGs X es (liftGs B X.K ts)) : PGs X (e :: es) (liftGs B X.K (.cons t ts)) := by
  refine pgs_imp (pgs_cons h1 h2 (by rw [assign_star hn]; rfl)) ?_
  rintro v s H Q ⟨hs, z, st, ds, R, sr, so, r, h, q⟩
  cases r with
  | nil => simp only [asgsP] at h
  | cons r rr =>
    simp only [asgsP] at h
    exact ⟨_, _, rfl, hs, z, st, _, _, sr, so, r, h, fun z2 s2 h2 sr2 o2 => ⟨hs, z2, st, _, R, sr2, so, rr, h2, fun z3 s3 h3 sr3 o3 => q z3 s3 h3 sr3 (o2.trans o3)⟩⟩
end
end Fy

namespace Fy
open PySem PySem.Spec PyProof.Rows L2
variable [LamT]
section
variable {X : Cx} {B : BP} {C : Cl} {ES : XS} {a b c tg : Expr} {pos : Pos} {ia ib ic : IE}
abbrev XF : XS := fun _ _ _ => False
/-- a list that is younger than the start, changed -/
theorem Step.hid2 {K : KH} {st st2 : Sto} {H H2 : Hp} {p : Addr} {ys : List V} {o : HO} (t : Step K st H st2 H2) (h : H2 p = some (.lst ys)) (n : H p = none) : Step K st H st2 (upd H2 p o) := by
  refine ⟨fun a xs e => ?_, fun a o u e => ?_, fun P e => ?_, fun a o e m f => ?_⟩
  · rw [upd_ne]
    · exact t.tup a xs e
    · rintro rfl; rw [n] at e; cases e
  · rw [upd_ne]
    · exact t.frz a o u e
    · rintro rfl; rw [n] at e; cases e
  · refine (t.tab P e).up (fun Q ps e => ?_) fun c q e => ?_
    · rw [upd_ne]
      · exact e
      · rintro rfl; rw [h] at e; cases e
    · rw [upd_ne]
      · exact e
      · rintro rfl; rw [h] at e; cases e
  · rw [upd_ne]
    · exact t.keep a o e m f
    · rintro rfl; rw [n] at e; cases e
theorem lcL_ok {tt : DSt → Sto → (Bool → Sto → Prop) → Prop} {el : DSt → Sto → (D → Sto → Prop) → Prop} {t : Tg} {src : Src} {s : DSt} {ds acc : List D} {st : Sto} {k : List D → Sto → Prop} (h : lcL tt el t src s ds acc st k) : src.ok st := by
  cases ds with
  | nil => exact h.1
  | cons d r => exact h.1
theorem snd_tsN : PTs X [] (liftT B X.K (wpTs C ES .nil)) := by
  refine pts_imp pts_nil ?_
  rintro s H Q ⟨hs, z, st, R, sr, so, h, q⟩
  exact q _ st H (by simpa only [wpTs] using h) .refl so
theorem snd_tsS {ie : IE} (h : PT X a (liftT B X.K (wpT C ES ie))) : PTs X [a] (liftT B X.K (wpTs C ES (.cons ie .nil))) := by
  refine pts_imp (pts_one h) ?_
  rintro s H Q ⟨hs, z, st, R, sr, so, h, q⟩
  exact ⟨hs, z, st, R, sr, so, by simpa only [wpTs, wpT] using h, q⟩
theorem snd_lc {elt iter : Expr} {ifs : List Expr} {scope : Scope} {own : List (Str × Nat)} {t : Tg} {it : II} {ts : IEs} {el : IE} (hc : X.calm = true) (hN : X.N.Nodup) (hi : PI X tg iter (liftI B X.K (wpI C ES it))) (ok : BlkOk X.N X.env.scope scope own)
    (hg : ∀ (s : Shared) (H : Hp) (p : Addr) (cl : List (Str × Addr)) (fp : List Addr), PG (X.blk s H scope (compEnvC scope cl p X.env) fp) tg (liftG (BT B.T) X.K t))
    (ht : ∀ (s : Shared) (H : Hp) (p : Addr) (cl : List (Str × Addr)) (fp : List Addr), PTs (X.blk s H scope (compEnvC scope cl p X.env) fp) ifs (liftT (BT B.T) X.K (wpTs C XF ts)))
    (he : ∀ (s : Shared) (H : Hp) (p : Addr) (cl : List (Str × Addr)) (fp : List Addr), PE (X.blk s H scope (compEnvC scope cl p X.env) fp) elt (liftE (BT B.T) X.K (wpE C XF el)))
    (hs : ∀ x, foldedSetIterable iter X.env x = pure x) (ho : ∀ i ∈ t.slots, i ∈ own.map (·.2)) :
    ∀ s H Q, liftE B X.K (wpE C ES (.lc (own.map (·.2)) t it ts el)) s H Q → tLc (liftI B X.K (wpI C ES it)) (liftG (BT B.T) X.K t) (liftT (BT B.T) X.K (wpTs C XF ts)) (liftE (BT B.T) X.K (wpE C XF el)) (own.map (·.2)) s H Q := by
  rintro s H0 Q ⟨hs, z, st0, R, sr, so, h, q⟩
  simp only [wpE] at h
  refine ⟨hs, z, st0, _, sr, so, h, fun src st1 H1 J L h1 t1 so1 it1 l1 hz p hp => ?_⟩
  let G : Addr → Prop := fun q => hs q ∨ q = p
  let Wb : Nat → Hp → Prop := fun i H => i ≤ src.items.length ∧ ∃ st acc ys, StoOk ⟨X.K, G⟩ st H ∧ Step ⟨X.K, hs⟩ st1 H1 st H ∧ RSt ⟨X.K, hs⟩ ⟨X.K, G⟩ st1 H1 st H ∧ L G st H ∧ H p = some (.lst ys) ∧ Reps ⟨X.K, G⟩ st H ys acc ∧ acc.length ≤ i ∧
    lcL (fun s st k => wpTs C XF ts s st k) (fun s st k => wpE C XF el s st k) t src (dwipe z (own.map (·.2))) (src.items.drop i) acc st fun acc st2 => R (.fl acc) st2
  have u0 : RSt ⟨X.K, hs⟩ ⟨X.K, G⟩ st1 H1 st1 (upd H1 p (.lst [])) := RSt.hideNew hp
  have v0 : StoOk ⟨X.K, G⟩ st1 (upd H1 p (.lst [])) := so1.hideNew hp
  refine ⟨fun i m H => m = src.items.length - i ∧ Wb i H, ⟨_, rfl, Nat.zero_le _, st1, [], [], v0, .new hp, u0, it1.step _ _ _ _ _ _ l1 u0 v0 (lcL_ok h1), upd_same, .nil, Nat.le_refl _, h1⟩, ?_⟩
  rintro i m H ⟨rfl, hi, st, acc, ys, so2, t2, u2, l2, hy, ry, hl, h2⟩
  have np : st p = none := (so2.h p (.inr rfl)).2
  by_cases e : i < src.items.length
  · refine .inr ⟨it1.go G i st H l2 e, fun H => Wb (i + 1) H, fun H' w => ⟨src.items.length - (i + 1), by omega, rfl, w⟩, fun x H3 y => ?_⟩
    obtain ⟨t3, so3, d, ed, rd⟩ := it1.yld G i st H x H3 l2 so2 e y
    have ed' : src.items.drop i = d :: src.items.drop (i + 1) := by
      rw [List.drop_eq_getElem_cons e]
      have := List.getElem?_eq_getElem e
      rw [ed] at this
      rw [Option.some.inj this]
    rw [ed'] at h2
    obtain ⟨_, h2⟩ := h2
    have sz : SR (BT B.T) ⟨X.K, G⟩ st H3 (L2.wipe s (own.map (·.2))) (dwipe z (own.map (·.2))) := by
      have a1 : SRep ⟨X.K, hs⟩ st1 H1 s z := (sr.mono t1).r
      refine ⟨SRep.wipe ⟨a1.1, fun j d e => let ⟨v, x1, x2⟩ := a1.2 j d e; ⟨v, x1, x2.mon (u2.trans t3.rst)⟩⟩ _, fun P hP => t3.tab P (t2.tab P (t1.tab P (B.tab sr.b P hP)))⟩
    -- what is left to do behind the item
    have fin : ∀ st4 H4 acc' ys', Step ⟨X.K, G⟩ st H st4 H4 → StoOk ⟨X.K, G⟩ st4 H4 → H4 p = some (.lst ys') → Reps ⟨X.K, G⟩ st4 H4 ys' acc' → acc'.length ≤ i + 1 →
        lcL (fun s st k => wpTs C XF ts s st k) (fun s st k => wpE C XF el s st k) t src (dwipe z (own.map (·.2))) (src.items.drop (i + 1)) acc' st4 (fun acc st2 => R (.fl acc) st2) → Wb (i + 1) H4 :=
      fun st4 H4 acc' ys' t4 so4 hp4 r4 n4 h4 => ⟨e, st4, acc', ys', so4, t2.trans t4.any, u2.trans t4.rst, it1.step _ _ _ _ _ _ l2 t4.rst so4 (lcL_ok h4), hp4, r4, n4, h4⟩
    refine ⟨G, _, st, d, _, sz, so3, rd, h2, fun z2 s2 h3 sr2 o2 => ⟨(o2 _ ho).trans wipe_wipe, G, z2, st, _, sr2, so3, h3, fun k st4 H4 h4 t4 so4 => ?_⟩⟩
    have t34 := t3.trans t4
    obtain ⟨hy4, np4⟩ := t34.keep p _ hy (fun _ z => by cases z) np
    cases k with
    | false => exact iteF (fin st4 H4 acc ys t34 so4 hy4 (ry.mono t34) (by omega) (by simpa using h4))
    | true =>
      refine iteT ⟨G, z2, st4, _, sr2.mono t4, so4, (by simpa using h4), fun d5 st5 v5 H5 h5 t5 r5 so5 => ?_⟩
      have t35 := t34.trans t5
      obtain ⟨hy5, np5⟩ := t5.keep p _ hy4 (fun _ z => by cases z) np4
      have ry5 := ry.mono t35
      have w : RSt ⟨X.K, G⟩ ⟨X.K, G⟩ st5 H5 st5 (upd H5 p (.lst (ys ++ [v5]))) := RSt.hid hy5 (.inr rfl)
      have so6 : StoOk ⟨X.K, G⟩ st5 (upd H5 p (.lst (ys ++ [v5]))) := so5.hid hy5 (.inr rfl)
      refine ⟨ys, hy5, by rw [ry5.length]; omega, e, st5, acc ++ [d5], ys ++ [v5], so6, ?_, (u2.trans t35.rst).trans w, it1.step _ _ _ _ _ _ l2 (t35.rst.trans w) so6 (lcL_ok h5), upd_same, (ry5.append (.cons r5 .nil)).mon w, by simp; omega, h5⟩
      exact (t2.trans t35.any).hid2 hy5 hp
  · have ei : i = src.items.length := by omega
    subst ei
    rw [List.drop_length] at h2
    refine .inl ⟨it1.stop G _ st H l2 (Nat.le_refl _), ?_⟩
    have np2 : ¬ hs p := so1.nohs hp
    have so4 : StoOk ⟨X.K, hs⟩ st H := StoOk.unhide (K := ⟨X.K, hs⟩) (p := p) so2
    refine q _ st _ H h2.2 (t1.trans t2) (.fl ⟨hy, np, np2⟩ (ry.mon (RSt.show_ (K := ⟨X.K, hs⟩) (p := p))) (by omega)) so4
end
end Fy

set_option maxHeartbeats 1000000
/-! comprehensions with two clauses -/
namespace Fy
open PySem PySem.Spec PyProof.Rows L2
variable [LamT]
theorem lcB_ok {tt : DSt → Sto → (Bool → Sto → Prop) → Prop} {el : DSt → Sto → (D → Sto → Prop) → Prop} {t : Tg} {src : Src} {s : DSt} {ds acc : List D} {st : Sto} {k : List D → Sto → Prop} (h : lcB tt el t src s ds acc st k) : src.ok st := by
  cases ds with
  | nil => exact h.1
  | cons d r => exact h.1
theorem lc2L_ok {tt : DSt → Sto → (Bool → Sto → Prop) → Prop} {it1 : DSt → Sto → (Src → Sto → Prop) → Prop} {tt1 : DSt → Sto → (Bool → Sto → Prop) → Prop} {el : DSt → Sto → (D → Sto → Prop) → Prop} {t t1 : Tg} {vs1 : List Nat} {src : Src} {s : DSt} {ds acc : List D} {st : Sto} {k : List D → Sto → Prop} (h : lc2L tt it1 tt1 el t t1 vs1 src s ds acc st k) : src.ok st := by
  cases ds with
  | nil => exact h.1
  | cons d r => exact h.1
section
variable {X : Cx} {B : BP} {C : Cl} {ES : XS}
theorem snd_lc2 {own vs1 : List Nat} {t t1 : Tg} {it it1 : II} {ts ts1 : IEs} {el : IE} (ho : ∀ i ∈ t.slots, i ∈ own) (ho1 : ∀ i ∈ t1.slots, i ∈ vs1) :
    ∀ s H Q, liftE B X.K (wpE C ES (.lc2 own vs1 t it ts t1 it1 ts1 el)) s H Q →
      tLc2 (liftI B X.K (wpI C ES it)) (liftG (BT B.T) X.K t) (liftT (BT B.T) X.K (wpTs C XF ts)) (liftI (BT B.T) X.K (wpI C XF it1)) (liftG (BT B.T) X.K t1) (liftT (BT B.T) X.K (wpTs C XF ts1)) (liftE (BT B.T) X.K (wpE C XF el)) own vs1 s H Q := by
  rintro s H0 Q ⟨hs, z, st0, R, sr, so, h, q⟩
  simp only [wpE] at h
  refine ⟨hs, z, st0, _, sr, so, h, fun src st1 H1 J L h1 t1' so1 it1' l1 hz p hp => ?_⟩
  let G : Addr → Prop := fun q => hs q ∨ q = p
  let Wb : Nat → Hp → Prop := fun i H => i ≤ src.items.length ∧ ∃ st acc ys, StoOk ⟨X.K, G⟩ st H ∧ Step ⟨X.K, hs⟩ st1 H1 st H ∧ RSt ⟨X.K, hs⟩ ⟨X.K, G⟩ st1 H1 st H ∧ L G st H ∧ H p = some (.lst ys) ∧ Reps ⟨X.K, G⟩ st H ys acc ∧ acc.length ≤ sizeLine ∧
    lc2L (fun s st k => wpTs C XF ts s st k) (fun s st k => wpI C XF it1 s st k) (fun s st k => wpTs C XF ts1 s st k) (fun s st k => wpE C XF el s st k) t t1 vs1 src (dwipe z own) (src.items.drop i) acc st fun acc st2 => R (.fl acc) st2
  have u0 : RSt ⟨X.K, hs⟩ ⟨X.K, G⟩ st1 H1 st1 (upd H1 p (.lst [])) := RSt.hideNew hp
  have v0 : StoOk ⟨X.K, G⟩ st1 (upd H1 p (.lst [])) := so1.hideNew hp
  refine ⟨fun i m H => m = src.items.length - i ∧ Wb i H, ⟨_, rfl, Nat.zero_le _, st1, [], [], v0, .new hp, u0, it1'.step _ _ _ _ _ _ l1 u0 v0 (lc2L_ok h1), upd_same, .nil, Nat.zero_le _, h1⟩, ?_⟩
  rintro i m H ⟨rfl, hi, st, acc, ys, so2, t2, u2, l2, hy, ry, hl, h2⟩
  have np : st p = none := (so2.h p (.inr rfl)).2
  by_cases e : i < src.items.length
  · refine .inr ⟨it1'.go G i st H l2 e, fun H => Wb (i + 1) H, fun H' w => ⟨src.items.length - (i + 1), by omega, rfl, w⟩, fun x H3 y => ?_⟩
    obtain ⟨t3, so3, d, ed, rd⟩ := it1'.yld G i st H x H3 l2 so2 e y
    have ed' : src.items.drop i = d :: src.items.drop (i + 1) := by
      rw [List.drop_eq_getElem_cons e]
      have := List.getElem?_eq_getElem e
      rw [ed] at this
      rw [Option.some.inj this]
    rw [ed'] at h2
    obtain ⟨_, h2⟩ := h2
    have sz : SR (BT B.T) ⟨X.K, G⟩ st H3 (L2.wipe s own) (dwipe z own) := by
      have a1 : SRep ⟨X.K, hs⟩ st1 H1 s z := (sr.mono t1').r
      refine ⟨SRep.wipe ⟨a1.1, fun j d e => let ⟨v, x1, x2⟩ := a1.2 j d e; ⟨v, x1, x2.mon (u2.trans t3.rst)⟩⟩ _, fun P hP => t3.tab P (t2.tab P (t1'.tab P (B.tab sr.b P hP)))⟩
    refine ⟨G, _, st, d, _, sz, so3, rd, h2, fun z2 s2 h3 sr2 o2 => ⟨(o2 _ ho).trans wipe_wipe, G, z2, st, _, sr2, so3, h3, fun k st4 H4 h4 t4 so4 => ?_⟩⟩
    have t34 := t3.trans t4
    obtain ⟨hy4, np4⟩ := t34.keep p _ hy (fun _ z => by cases z) np
    cases k with
    | false => exact iteF ⟨e, st4, acc, ys, so4, t2.trans t34.any, u2.trans t34.rst, it1'.step _ _ _ _ _ _ l2 t34.rst so4 (lc2L_ok (by simpa using h4)), hy4, ry.mono t34, hl, by simpa using h4⟩
    | true =>
      refine iteT ⟨G, z2, st4, _, sr2.mono t4, so4, (by simpa using h4), fun src1 st5 H5 J1 L1 h5 t5 so5 it5 l5 hz5 => ?_⟩
      have t35 := t34.trans t5
      obtain ⟨hy5, np5⟩ := t5.keep p _ hy4 (fun _ z => by cases z) np4
      let Wc : Nat → Hp → Prop := fun j H => j ≤ src1.items.length ∧ ∃ st acc ys, StoOk ⟨X.K, G⟩ st H ∧ Step ⟨X.K, hs⟩ st1 H1 st H ∧ RSt ⟨X.K, G⟩ ⟨X.K, G⟩ st5 H5 st H ∧ (∀ P, B.T P → Tb H P) ∧ L1 G st H ∧ H p = some (.lst ys) ∧ Reps ⟨X.K, G⟩ st H ys acc ∧ acc.length ≤ sizeLine ∧
        lcB (fun s st k => wpTs C XF ts1 s st k) (fun s st k => wpE C XF el s st k) t1 src1 (dwipe z2 vs1) (src1.items.drop j) acc st fun acc2 st3 => lc2L (fun s st k => wpTs C XF ts s st k) (fun s st k => wpI C XF it1 s st k) (fun s st k => wpTs C XF ts1 s st k) (fun s st k => wpE C XF el s st k) t t1 vs1 src (dwipe z own) (src.items.drop (i + 1)) acc2 st3 fun acc st2 => R (.fl acc) st2
      have tb5 : ∀ P, B.T P → Tb H5 P := fun P hP => t35.tab P (t2.tab P (t1'.tab P (B.tab sr.b P hP)))
      refine ⟨fun j m H => m = src1.items.length - j ∧ Wc j H, ⟨_, rfl, Nat.zero_le _, st5, acc, ys, so5, t2.trans t35.any, .trans (Step.refl (K := ⟨X.K, G⟩)).rst (Step.refl (K := ⟨X.K, G⟩)).rst, tb5, l5, hy5, ry.mono t35, hl, h5⟩, ?_⟩
      rintro j m H6 ⟨rfl, hj, st6, acc6, ys6, so6, t6, u6, tb6, l6, hy6, ry6, hl6, h6⟩
      have np6 : st6 p = none := (so6.h p (.inr rfl)).2
      by_cases e6 : j < src1.items.length
      · refine .inr ⟨it5.go G j st6 H6 l6 e6, fun H => Wc (j + 1) H, fun H' w => ⟨src1.items.length - (j + 1), by omega, rfl, w⟩, fun x7 H7 y7 => ?_⟩
        obtain ⟨t7, so7, d7, ed7, rd7⟩ := it5.yld G j st6 H6 x7 H7 l6 so6 e6 y7
        have ed7' : src1.items.drop j = d7 :: src1.items.drop (j + 1) := by
          rw [List.drop_eq_getElem_cons e6]
          have := List.getElem?_eq_getElem e6
          rw [ed7] at this
          rw [Option.some.inj this]
        rw [ed7'] at h6
        obtain ⟨_, h6⟩ := h6
        have sz7 : SR (BT B.T) ⟨X.K, G⟩ st6 H7 (L2.wipe s2 vs1) (dwipe z2 vs1) := by
          have a1 : SRep ⟨X.K, G⟩ st5 H5 s2 z2 := ((sr2.mono t4).mono t5).r
          exact ⟨SRep.wipe ⟨a1.1, fun j d e => let ⟨v, x1, x2⟩ := a1.2 j d e; ⟨v, x1, x2.mon (u6.trans t7.rst)⟩⟩ _, fun P hP => t7.tab P (tb6 P hP)⟩
        refine ⟨G, _, st6, d7, _, sz7, so7, rd7, h6, fun z8 s8 h8 sr8 o8 => ⟨(o8 _ ho1).trans wipe_wipe, G, z8, st6, _, sr8, so7, h8, fun k st9 H9 h9 t9 so9 => ?_⟩⟩
        have t79 := t7.trans t9
        obtain ⟨hy9, np9⟩ := t79.keep p _ hy6 (fun _ z => by cases z) np6
        cases k with
        | false => exact iteF ⟨e6, st9, acc6, ys6, so9, t6.trans t79.any, u6.trans t79.rst, fun P hP => t79.tab P (tb6 P hP), it5.step _ _ _ _ _ _ l6 t79.rst so9 (lcB_ok (by simpa using h9)), hy9, ry6.mono t79, hl6, by simpa using h9⟩
        | true =>
          refine iteT ⟨G, z8, st9, _, sr8.mono t9, so9, (by simpa using h9), fun da sta va Ha ha ta ra soa => ?_⟩
          have t7a := t79.trans ta
          obtain ⟨hya, npa⟩ := ta.keep p _ hy9 (fun _ z => by cases z) np9
          have rya := ry6.mono t7a
          have w : RSt ⟨X.K, G⟩ ⟨X.K, G⟩ sta Ha sta (upd Ha p (.lst (ys6 ++ [va]))) := RSt.hid hya (.inr rfl)
          have sob : StoOk ⟨X.K, G⟩ sta (upd Ha p (.lst (ys6 ++ [va]))) := soa.hid hya (.inr rfl)
          have stb : Step ⟨X.K, hs⟩ st1 H1 sta (upd Ha p (.lst (ys6 ++ [va]))) := (t6.trans t7a.any).hid2 hya hp
          refine ⟨ys6, hya, by rw [rya.length]; exact ha.1, e6, sta, acc6 ++ [da], ys6 ++ [va], sob, stb, (u6.trans t7a.rst).trans w, fun P hP => stb.tab P (t1'.tab P (B.tab sr.b P hP)), it5.step _ _ _ _ _ _ l6 (t7a.rst.trans w) sob (lcB_ok ha.2), upd_same, (rya.append (.cons ra .nil)).mon w, by have := ha.1; simp; omega, ha.2⟩
      · have ej : j = src1.items.length := by omega
        subst ej
        rw [List.drop_length] at h6
        refine .inl ⟨it5.stop G _ st6 H6 l6 (Nat.le_refl _), e, st6, acc6, ys6, so6, t6, (u2.trans t35.rst).trans u6, it1'.step _ _ _ _ _ _ l2 (t35.rst.trans u6) so6 (lc2L_ok h6.2), hy6, ry6, hl6, h6.2⟩
  · have ei : i = src.items.length := by omega
    subst ei
    rw [List.drop_length] at h2
    refine .inl ⟨it1'.stop G _ st H l2 (Nat.le_refl _), ?_⟩
    have np2 : ¬ hs p := so1.nohs hp
    have so4 : StoOk ⟨X.K, hs⟩ st H := StoOk.unhide (K := ⟨X.K, hs⟩) (p := p) so2
    refine q _ st _ H h2.2 (t1'.trans t2) (.fl ⟨hy, np, np2⟩ (ry.mon (RSt.show_ (K := ⟨X.K, hs⟩) (p := p))) hl) so4
end
end Fy

set_option maxHeartbeats 1000000
/-! Generator expressions: any element that the layer serves, asked by all, any or sum. -/
namespace Fy
open PySem PySem.Spec PyProof.Rows L2
/-- the generator expression's own scope -/
structure GScp (N : List Str) (sc scope : Scope) (own : List (Str × Nat)) : Prop where
  blk : BlkOk N sc scope own
  co : scope.isCoroutine = false
  nocell : ∀ y ∈ scope.names, y.2 ≠ .cell
  dot : scope.names.lookup (".0" : Str) = some NameKind.local
/-- the frame of a generator expression that runs -/
abbrev gcx (X : Cx) (s : Shared) (H : Hp) (cenv : Env) (fp : List Addr) : Cx :=
  { X with A := X.A.in1.in1.deeper cenv, s_0 := s, H_0 := H, env := cenv, outer := X.stack, stack := cenv :: X.stack, ex := fp, fn := fun _ => false, calm := true, pn := [], xe := fun _ _ => False }
abbrev genC (X : Cx) (scope : Scope) (C : Addr) (code : Value) : Env := genEnv scope (cloFrom X.env.cells scope.names []) C code builtinsNs X.env
section
variable {X : Cx} {pins : List (Addr × Obj)} {z : L2.St} {H : Hp} {s : Shared}
theorem clo_look {cells : List (Str × Addr)} {names : List (Str × NameKind)} {y : Str} {c : Addr} (h : (cloFrom cells names []).lookup y = some c) : (y, NameKind.free) ∈ names ∧ c = (cells.lookup y).getD 0 := by
  rcases cloFrom_mem (PySem.mem_of_lookup h) with h | h
  · cases h
  · exact h
theorem gen_start {scope : Scope} {own : List (Str × Nat)} {fp : List Addr} {code : Value} {h5 : Heap} {g5 : Array GenState} {t5 : Nat} {m : Str → Option Value} (I : Inv X pins z H s) (S : GScp X.N X.env.scope scope own) (hc : X.calm = true) (hN : X.N.Nodup) (hfp : ∀ b ∈ fp, FpOk X pins H b ∧ b < s.heap.objs.size)
    (hk : ∀ b o, s.heap.get? b = some o → h5.get? b = some o) (hn : h5.Ns s.heap.objs.size m) (hg : AllBare g5) :
    Inv (gcx X s H (genC X scope s.heap.objs.size code) fp) [] (L2.wipe z (own.map (·.2))) H { s with heap := h5, gens := g5, toks := t5 } := by
  have hfree : ∀ y, (y, NameKind.free) ∈ scope.names → ∃ c, X.env.cells.lookup y = some c := fun y hy => by
    rcases S.blk.free _ hy rfl with k | k
    · exact I.ok.has _ (.inl k)
    · exact I.ok.has _ (.inr k)
  have cl : ∀ {y c}, (genC X scope s.heap.objs.size code).cells.lookup y = some c → X.env.cells.lookup y = some c := fun {y c} h => by
    obtain ⟨h1, h2⟩ := clo_look h
    obtain ⟨c2, h3⟩ := hfree y h1
    rw [h3] at h2
    rw [h3, h2]
    rfl
  have okG : (gcx X s H (genC X scope s.heap.objs.size code) fp).Ok := by
    refine ⟨I.ok.mod, S.blk.kind, I.ok.glob, rfl, Nat.le_refl _, fun x y c h1 h2 => I.ok.inj x y c (cl h1) (cl h2), fun x hx => ?_, fun x c h => (by cases h), fun _ => I.ok.hd hc, Around.frames_deeper I.ok.frames, .inr ⟨rfl, rfl⟩, fun b hb => ⟨?_, fun x c h => (hfp b hb).1.2.2.2.2.1 x c (cl h)⟩, I.bs, Nat.le_trans I.ok.bsz I.sz, fun b o e hb => ?_, fun b hb q => ?_, I.stack, I.stkFree⟩
    · have hx : scope.names.lookup x = some .cell ∨ scope.names.lookup x = some .free := hx
      rcases hx with hx | hx
      · exact absurd rfl (S.nocell _ (PySem.mem_of_lookup hx))
      · exact mem_lookup (cloFrom_has (cells := X.env.cells) (acc := []) (PySem.mem_of_lookup hx))
    · exact Nat.ne_of_lt (hfp b hb).2
    · rcases (hfp b hb).1.2.2.2.1 with q | q
      · exact I.ok.noex b o e q
      · exact absurd (Nat.lt_of_lt_of_le (Heap.lt_size e) (Nat.le_trans I.ok.bsz q)) (Nat.lt_irrefl _)
    · rcases List.mem_cons.mp (I.stkSub b q) with e | e
      · exact (hfp b hb).1.2.1 e
      · exact (hfp b hb).1.2.2.1 e
  refine ⟨okG, rfl, hg, Un.kept hk, ⟨m, hn, fun i x v h1 h2 h3 => ?_⟩, fun x c h => ?_, I.hok.fresh (Nat.le_refl _), fun x c h => I.freeC x c (cl h), fun p hp => absurd hp (by simp), I.hok.kept hk, ?_⟩
  · obtain ⟨w1, w2⟩ := L2.wipe_some h2
    have notl : ∀ k, (x, k) ∈ scope.names → k = NameKind.local ∨ k = NameKind.cell → False := fun k hm hk => by
      rcases S.blk.own _ hm hk with q | q
      · obtain ⟨p, hp, e⟩ := List.mem_map.mp q
        refine w2 (List.mem_map.mpr ⟨p, hp, ?_⟩)
        have ix := S.blk.ix p hp
        rw [e] at ix
        exact nodup_ix hN ix h1
      · exact q (List.mem_of_getElem? h1)
    have h3 : scope.names.lookup x = some .local ∨ scope.names.lookup x = some .cell ∨ scope.names.lookup x = some .free := h3
    rcases h3 with h3 | h3 | h3
    · exact (notl _ (PySem.mem_of_lookup h3) (.inl rfl)).elim
    · exact (notl _ (PySem.mem_of_lookup h3) (.inr rfl)).elim
    · have hm := PySem.mem_of_lookup h3
      obtain ⟨m0, hn0, hl⟩ := I.loc
      have vis : Vis X.env.scope x := by
        rcases S.blk.free _ hm rfl with k | k
        · exact .inr (.inl k)
        · exact .inr (.inr k)
      obtain ⟨u, ru, lk⟩ := hl i x v h1 w1 vis
      refine ⟨u, ru, .inr ⟨.inr h3, ?_⟩⟩
      rcases lk with ⟨k, _⟩ | ⟨_, c, hcl, hcell⟩
      · have k : X.env.scope.names.lookup x = some .local := k
        rcases S.blk.free _ hm rfl with k2 | k2 <;> rw [k] at k2 <;> cases k2
      · obtain ⟨c2, hc2⟩ := mem_lookup (cloFrom_has (cells := X.env.cells) (acc := []) hm)
        have := cl hc2
        rw [hcl] at this
        cases this
        refine ⟨c, hc2, ?_⟩
        obtain ⟨o, ho, hd⟩ := hcell
        exact ⟨o, hk _ _ ho, hd⟩
  · obtain ⟨v, o, ho, hd⟩ := I.cell x c (cl h)
    exact ⟨v, o, hk _ _ ho, hd⟩
  · rw [L2.wipe_length]
    exact I.len
/-- all of a generator expression that is walked -/
structure GenW (X : Cx) where
  s : Shared
  H : Hp
  scope : Scope
  code : Value
  fp : List Addr
  it : Addr
  tn : Nat → Heap → Prop
  J : It
  ga : Addr
  go : Obj
  S : List Addr
  vs : List Nat
  zw : L2.St
  elt : Expr
  tg : Expr
  iter : Expr
  ifs : List Expr
  gpos : Pos
  gh : Heap → Int
  W : Int → Nat → Nat → Hp → Prop
  Qs : Int → Hp → Prop
  Post : Int → V → Hp → (Int → Hp → Prop) → Prop
namespace GenW
variable (G : GenW X)
abbrev env : Env := genC X G.scope G.s.heap.objs.size G.code
abbrev cx : Cx := gcx X G.s G.H G.env G.fp
abbrev pg (s0 : Shared) : List (Addr × Obj) := (G.ga, G.go) :: pinsAt G.S s0.heap
abbrev e : Expr := .GeneratorExp G.elt [⟨G.tg, G.iter, G.ifs, 0⟩] G.scope G.gpos
abbrev loop : Code := .compLoop G.e 0 (.ref G.it) .none G.env
structure At (i m : Nat) (H : Hp) (s0 s : Shared) : Prop where
  inv : Inv G.cx (G.pg s0) G.zw H s
  tn : G.tn i s.heap
  fp : ∀ b ∈ G.fp, H b = none
  w : G.W (G.gh s0.heap) i m H
def Y : Protocol := fun n s0 v s kap => ∃ x z2 H i m Nx, RelV x v ∧ Inv G.cx (G.pg s0) z2 H s ∧ L2.wipe z2 G.vs = G.zw ∧ G.tn (i + 1) s.heap ∧ (∀ b ∈ G.fp, H b = none) ∧ (∀ a H', Nx a H' → ∃ m', m' < m ∧ G.W a (i + 1) m' H') ∧ G.Post (G.gh s0.heap) x H Nx ∧
  ∀ s2 H2, Inv G.cx (G.pg s2) G.zw H2 s2 → G.tn (i + 1) s2.heap → (∀ b ∈ G.fp, H2 b = none) → Nx (G.gh s2.heap) H2 → kap (.send .none) s2
def R : GenEnd := fun _ s0 r s => r = .ok .next ∧ ∃ H, Inv G.cx (G.pg s0) G.zw H s ∧ G.Qs (G.gh s0.heap) H
/-- what the reading and the rules give -/
structure Ok (g : TG) (tt : TT) (te : TE) : Prop where
  T : Turn X.prog X.w X.K G.tg G.J G.fp G.it G.tn
  pg : PG G.cx G.tg g
  pt : PTs G.cx G.ifs tt
  pe : PE G.cx G.elt te
  co : G.scope.isCoroutine = false
  fpk : ∀ b ∈ G.fp, b < G.s.heap.objs.size
  gak : G.s.heap.objs.size ≤ G.ga
  sk : ∀ b ∈ G.S, G.s.heap.objs.size ≤ b
  zww : L2.wipe G.zw G.vs = G.zw
  turn : ∀ a i m H, G.W a i m H → (G.J.stop i H ∧ G.Qs a H) ∨ (G.J.go i H ∧ ∃ Nx : Int → Hp → Prop, (∀ a H', Nx a H' → ∃ m', m' < m ∧ G.W a (i + 1) m' H') ∧ ∀ x H', G.J.yld i H x H' → g x G.zw H' fun z2 H2 => L2.wipe z2 G.vs = G.zw ∧
    tt z2 H2 fun b H3 => if b = true then te z2 H3 fun y H4 => G.Post a y H4 Nx else Nx a H3)
variable {G} {g : TG} {tt : TT} {te : TE}
theorem over_loop : X.A.in1.in1.over G.loop [] = G.cx.A := by
  show _ = X.A.in1.in1.deeper G.env
  first
    | rfl
    | (obtain ⟨hd, d, fr, gs, u⟩ := X.A.in1.in1; simp [Around.over, Around.deeper, marksOver, frameCount, unitsOf, envsOf, guardsOf, pushEnvs, pushGuards, Code.envs, Code.env?, Code.isFrame, Code.guards, Code.isGuard, Code.weight, Code.frames, Code.isCreation, Code.isCaller, Code.cUnits])
theorem fpOk (o : G.Ok g tt te) {z2 : L2.St} {H : Hp} {s : Shared} {s0 : Shared} (I : Inv G.cx (G.pg s0) z2 H s) (h : ∀ b ∈ G.fp, H b = none) : ∀ b ∈ G.fp, FpOk G.cx (G.pg s0) H b := fun b hb => by
  obtain ⟨h1, h2⟩ := I.ok.exf b hb
  refine ⟨h b hb, h1, I.ok.exfs b hb, .inl hb, fun x c e => h2 x c e, fun p hp => ?_⟩
  have e : G.s.heap.objs.size ≤ p.1 := by
    have hp : p ∈ (G.ga, G.go) :: pinsAt G.S s0.heap := by simpa using hp
    rcases List.mem_cons.mp hp with e | e
    · rw [e]
      exact o.gak
    · exact o.sk _ (of_pinsAt e).1
  exact fun q => Nat.lt_irrefl _ (Nat.lt_of_lt_of_le (o.fpk b hb) (q ▸ e))
theorem back {pp : List (Addr × Obj)} {z2 : L2.St} {H : Hp} {s : Shared} (I : Inv G.cx pp z2 H s) (h : L2.wipe z2 G.vs = G.zw) : Inv G.cx pp G.zw H s := I.weak (by rw [← h, L2.wipe_length]) fun i v e => by
  rw [← h] at e
  exact (L2.wipe_some e).1
theorem seg_loop (o : G.Ok g tt te) : ∀ (m n i : Nat) (H : Hp) (s s0 : Shared), m < n → G.At i m H s0 s → Seg (model X.prog X.w) X.A.in1.in1 G.R G.Y n s0 G.loop ((model X.prog X.w).den G.loop) [] s := by
  intro m
  induction m using Nat.strongRecOn with
  | ind m ih =>
    intro n i H s s0 hmn a
    show Seg _ X.A.in1.in1 _ _ _ s0 _ ((compTurn G.e 0 (.ref G.it) .none G.env).onRaise (leaving G.env)) [] s
    rw [compTurn_gen, Sem.onRaise_eq_wrap]
    refine seg_bind_wrap (wpAny_standAt ?_)
    rcases o.turn _ i m H a.w with ⟨hst, hq⟩ | ⟨hgo, Nx, hN, hy⟩
    · refine seg_bind_wrap ?_
      rw [over_loop]
      refine wpAny_mono (o.T.done G.cx rfl rfl rfl rfl i (G.pg s0) s G.zw H (fun _ _ => False) a.inv (fpOk o a.inv a.fp) a.tn hst) (fun r s1 h1 => ?_) fun _ _ z => z.elim
      obtain ⟨rfl, I1⟩ := h1
      exact seg_end (.ok .next) ⟨rfl, H, I1, hq⟩
    · refine seg_bind_wrap ?_
      rw [over_loop]
      refine wpAny_mono (o.T.item G.cx rfl rfl rfl rfl i (G.pg s0) s G.zw H (fun _ _ => False) a.inv (fpOk o a.inv a.fp) a.tn hgo) (fun r s1 h1 => ?_) fun _ _ z => z.elim
      obtain ⟨u, rfl, h1⟩ := h1
      refine seg_bind_wrap ?_
      rw [over_loop]
      refine wpAny_mono h1 (fun _ s2 h2 => ?_) fun _ _ z => z.elim
      obtain ⟨x, H2, I2, rx, yl, tn2, fp2⟩ := h2
      have I3 := I2.pinned (fpOk o I2 fp2) (o.T.obj (i + 1) s2.heap tn2)
      have free : ∀ {z3 : L2.St} {H3 : Hp} {s3 : Shared}, Inv G.cx (G.pg s0 ++ pinsAt G.fp s2.heap) z3 H3 s3 → Inv G.cx (G.pg s0) z3 H3 s3 ∧ G.tn (i + 1) s3.heap ∧ ∀ b ∈ G.fp, H3 b = none := fun {z3 H3 s3} J => by
        have pn : ∀ b ∈ G.fp, ∀ ob, s2.heap.get? b = some ob → s3.heap.get? b = some ob ∧ H3 b = none := fun b hb ob e => by
          obtain ⟨h1, h2, _⟩ := J.pin (b, ob) (List.mem_append_right _ (List.mem_append_right _ (mem_pinsAt hb e)))
          exact ⟨h1, h2⟩
        refine ⟨J.unpinned, o.T.keep (i + 1) s2.heap s3.heap tn2 fun b hb ob e => (pn b hb ob e).1, fun b hb => ?_⟩
        obtain ⟨ob, e, _⟩ := o.T.obj (i + 1) s2.heap tn2 b hb
        exact (pn b hb ob e).2
      refine seg_bind_wrap ?_
      rw [over_loop]
      refine wpAny_mono (o.pg.run _ s2 G.zw H2 x u _ I3 rx (hy x H2 yl)) (fun _ s3 h3 => ?_) fun _ _ q => q.elim
      obtain ⟨z3, H3, I4, hz3, q3⟩ := h3
      refine seg_bind_wrap ?_
      rw [over_loop]
      refine wpAny_mono (o.pt.run _ s3 z3 H3 _ I4 q3) (fun b s4 h4 => ?_) fun _ _ q => q.elim
      obtain ⟨H4, I5, q4⟩ := h4
      cases b with
      | false =>
        rw [if_neg Bool.false_ne_true] at q4
        obtain ⟨J1, J2, J3⟩ := free I5
        obtain ⟨m2, hm2, w2⟩ := hN _ H4 q4
        simp only [Bool.false_eq_true, if_false]
        exact seg_again rfl (ih m2 hm2 n (i + 1) H4 s4 s0 (by omega) ⟨back J1 hz3, J2, J3, w2⟩)
      | true =>
        rw [if_pos rfl] at q4
        simp only [if_true]
        have hyo : ∀ v, yieldOut G.env v = yieldValue v := fun v => by
          have : G.env.scope.isCoroutine = false := o.co
          simp only [yieldOut, this, Bool.false_eq_true, if_false]
        simp only [hyo]
        rw [Sem.bind_eq_wrap', Sem.bind_eq_wrap', Sem.wrap_wrap, Sem.wrap_wrap]
        refine seg_wrap ?_
        rw [over_loop]
        refine wpAny_mono (o.pe.run _ s4 z3 H4 _ I5 q4) (fun y s5 h5 => ?_) fun _ _ q => q.elim
        obtain ⟨x5, H5, I6, r5, q5⟩ := h5
        obtain ⟨J1, J2, J3⟩ := free I6
        obtain ⟨n, rfl⟩ : ∃ k, n = k + 1 := ⟨n - 1, by omega⟩
        refine seg_at (seg_yield rfl rfl rfl ⟨x5, z3, H5, i, m, Nx, r5, J1, hz3, J2, J3, hN, q5, fun s6 H6 K1 K2 K3 nx => ?_⟩)
        obtain ⟨m2, hm2, w2⟩ := hN _ H6 nx
        exact seg_again rfl (ih m2 hm2 n (i + 1) H6 s6 s6 (by omega) ⟨K1, K2, K3, w2⟩)
theorem seg_start (o : G.Ok g tt te) {m i : Nat} {H : Hp} {s s0 : Shared} {n : Nat} (hmn : m < n) (a : G.At 0 m H s0 s) : Seg (model X.prog X.w) X.A.in1.in1 G.R G.Y n s0 (.compStart G.e 0 (.ref G.it) .none G.env) ((model X.prog X.w).den (.compStart G.e 0 (.ref G.it) .none G.env)) [] s := by
  have l := seg_loop o m n 0 H s s0 hmn a
  show Seg _ X.A.in1.in1 _ _ _ s0 _ ((compStart G.e 0 (.ref G.it) .none G.env).onRaise (leaving G.env)) [] s
  unfold compStart
  rw [Sem.onRaise_eq_wrap]
  show Seg _ X.A.in1.in1 _ _ _ s0 _ ((ask >>= _).wrap _ _ _ _) [] s
  refine seg_bind_wrap (wpAny_askSetting ?_)
  split
  · exact seg_again rfl l
  · refine seg_bind_wrap (wpAny_rule ?_)
    show Seg _ X.A.in1.in1 _ _ _ s0 _ ((standAt G.iter.pos >>= _).wrap _ _ _ _) [] s
    exact seg_bind_wrap (wpAny_standAt (seg_bind_wrap (o.T.self _ 0 s _ _ a.tn (seg_again rfl l))))
end GenW
theorem Inv.regen {g2 : Array GenState} {d2 : Drawn} {t2 : Nat} (I : Inv X pins z H s) (hg : AllBare g2) : Inv X pins z H { s with gens := g2, drawn := d2, toks := t2 } :=
  ⟨I.ok, I.os, hg, I.base, I.loc, I.cell, I.free, I.freeC, I.pin, I.hok, I.len⟩
theorem bare_set {g : Array GenState} {i : Nat} {x : GenState} (h : AllBare g) (hx : x.bare = true) : AllBare (g.setIfInBounds i x) := fun y hy => by
  obtain ⟨j, hj, rfl⟩ := Array.mem_iff_getElem.mp hy
  have hj2 : j < g.size := by simpa using hj
  rw [Array.getElem_setIfInBounds hj2]
  split
  · exact hx
  · exact h _ (Array.getElem_mem hj2)
namespace GenW
variable {G : GenW X} {g : TG} {tt : TT} {te : TE}
/-- the generator at number gn, asleep, ready to be asked at most n times -/
structure Asl (G : GenW X) (gn n : Nat) (s : Shared) : Prop where
  gs : ∃ gs, s.gens[gn]? = some gs ∧ gs.Goes (model X.prog X.w) X.A.in1.in1 G.R G.Y n (.send .none) (s.setGen gn .running)
  isg : s.heap.IsGen G.ga gn
  lim : s.heap.NoLimit
/-- one asking -/
theorem ask (o : G.Ok g tt te) {gn n : Nat} {s : Shared} {E : Value → Shared → Prop} {Q : Option Value → Shared → Prop} (hh : X.A.handled = none) (hr : X.A.in1.depth < recursionLimit) (hgo : ∀ h : Heap, h.get? G.ga = some G.go → h.IsGen G.ga gn) (a : Asl G gn n s)
    (hs : ∀ H s2, Inv G.cx (G.pg s) G.zw H s2 → G.Qs (G.gh s.heap) H → Q none s2)
    (hy : ∀ x v z2 H (Nx : Int → Hp → Prop) s2, RelV x v → Inv G.cx (G.pg s) z2 H s2 → G.Post (G.gh s.heap) x H Nx → (∀ H2 s3, (∃ h2 d2 t2, s3 = { s2 with heap := h2, drawn := d2, toks := t2 } ∧ (∀ b ∈ G.fp, ∀ o, s2.heap.get? b = some o → h2.get? b = some o)) → Inv G.cx (G.pg s3) z2 H2 s3 → (∀ b ∈ G.fp, H2 b = none) → Nx (G.gh s3.heap) H2 → ∃ k, k < n ∧ Asl G gn k s3) → (∀ b ∈ G.fp, H b = none) → Q (some v) s2) :
    wpAny (model X.prog X.w) X.A.in1 (pyNext (.ref G.ga)) Q E s := by
  obtain ⟨gs, hgs, hgo2⟩ := a.gs
  have hsz : gn + 1 ≤ s.gens.size := by
    have := (Array.getElem?_eq_some_iff.mp hgs).1
    omega
  refine GenW.wpAny_gsz hsz ?_
  refine wpAny_pyNext_genexpQ (n := n) (P := fun _ s0 s1 => ∃ H, Inv G.cx (G.pg s0) G.zw H s1 ∧ G.Qs (G.gh s0.heap) H) hh a.lim hr a.isg hgs hgo2 (fun v s1 gs2 hb hv => ?_) (fun s1 hp h2 hk => ?_)
  · intro hs1
    obtain ⟨x, z2, H, i, m, Nx, rx, I, hz, tn, fp, hN, post, kap⟩ := hv
    have I2 : Inv G.cx (G.pg s) z2 H (s1.setGen gn gs2) := Inv.regen I (bare_set I.bare hb)
    refine hy x v z2 H Nx _ rx I2 post (fun H2 s3 hs3 I3 fp3 nx => ?_) fp
    obtain ⟨h3, d3, t3, rfl, kp⟩ := hs3
    have ix : (s1.setGen gn gs2).gens[gn]? = some gs2 := by
      rw [GenW.setGen_size] at hs1
      have : gn < s1.gens.size := by omega
      simp [Shared.setGen, this]
    have tn3 : G.tn (i + 1) h3 := o.T.keep (i + 1) s1.heap h3 tn kp
    have I4 := Inv.regen (g2 := (s1.setGen gn gs2).gens.setIfInBounds gn .running) (d2 := d3) (t2 := t3) (back I3 hz) (bare_set I3.bare rfl)
    have k2 := kap (Shared.setGen { s1.setGen gn gs2 with heap := h3, drawn := d3, toks := t3 } gn .running) H2 I4 tn3 fp3 nx
    cases n with
    | zero => exact k2.elim
    | succ n2 => exact ⟨n2, Nat.lt_succ_self _, ⟨gs2, ix, k2⟩, hgo _ (I3.pin (G.ga, G.go) (List.mem_append_right _ (List.mem_cons_self ..))).1, I3.nolimit⟩
  · intro hs1
    obtain ⟨H, I, q⟩ := hp
    exact hs H _ (Inv.regen (I.kept (t' := s1.toks) hk) (bare_set I.bare rfl)) q
section loops
variable (o : G.Ok g tt te) {gn : Nat} (hh : X.A.handled = none) (hr : X.A.in1.depth < recursionLimit) (hgo : ∀ h : Heap, h.get? G.ga = some G.go → h.IsGen G.ga gn) (hS : G.S = []) (hg : ∀ h, G.gh h = 0) {Qr : VK} {R : Result → Shared → Prop}
  (hR : ∀ v u z2 H pp s2, Inv G.cx pp z2 H s2 → RelV v u → Qr v H → R (.ok (.ret u)) s2)
include o hh hr hgo hS hR hg
theorem pg_nil {s s2 : Shared} : G.pg s = G.pg s2 := by
  simp only [pg, hS, pinsAt, List.filterMap_nil]
theorem all_loop (hP : ∀ y H Nx, G.Post 0 y H Nx → ∃ k, y = .bl k ∧ if k = true then Nx 0 H else Qr (.bl false) H) (hQ : ∀ H, G.Qs 0 H → Qr (.bl true) H) :
    ∀ n s, Asl G gn n s → codeAny (model X.prog X.w) X.A (.builtin "all.loop" ⟨[.ref G.ga], []⟩) R s := by
  intro n
  induction n using Nat.strongRecOn with
  | ind n ih =>
    intro s a
    refine codeAny_builtin F.entry_all_loop ?_
    rw [Around.under_plainId F.plain_all_loop _]
    show wpAny _ X.A.in1 (pyNext (.ref G.ga) >>= _) _ _ s
    refine wpAny_bind (ask o hh hr hgo a (fun H s2 I q => ?_) (fun x v z2 H Nx s2 rx I post nxt fp => ?_))
    · exact wpAny_bind (wpAny_rule (wpAny_pure (hR (.bl true) _ _ _ _ _ I rfl (hQ _ (hg s.heap ▸ q)))))
    · obtain ⟨k, rfl, hk⟩ := hP _ _ _ (hg s.heap ▸ post)
      have rx : v = .bool k := rx
      subst rx
      refine wpAny_bind (wpAny_holding (wpAny_truthy_bool (wpAny_bind (wpAny_letGo ?_))))
      cases k with
      | true =>
        simp only [if_true] at hk ⊢
        obtain ⟨k2, hk2, a2⟩ := nxt H s2 ⟨_, _, _, rfl, fun _ _ _ e => e⟩ (pg_nil o hh hr hgo hS hg hR (s := s) (s2 := s2) ▸ I) fp ((hg s2.heap).symm ▸ hk)
        exact wpAny_pure ⟨plainId_quiet F.plain_all_loop _, ih k2 hk2 s2 a2⟩
      | false =>
        simp only [Bool.false_eq_true, if_false] at hk ⊢
        exact wpAny_bind (wpAny_rule (wpAny_pure (hR (.bl false) _ _ _ _ _ I rfl hk)))
theorem any_loop (hP : ∀ y H Nx, G.Post 0 y H Nx → ∃ k, y = .bl k ∧ if k = true then Qr (.bl true) H else Nx 0 H) (hQ : ∀ H, G.Qs 0 H → Qr (.bl false) H) :
    ∀ n s, Asl G gn n s → codeAny (model X.prog X.w) X.A (.builtin "any.loop" ⟨[.ref G.ga], []⟩) R s := by
  intro n
  induction n using Nat.strongRecOn with
  | ind n ih =>
    intro s a
    refine codeAny_builtin F.entry_any_loop ?_
    rw [Around.under_plainId F.plain_any_loop _]
    show wpAny _ X.A.in1 (pyNext (.ref G.ga) >>= _) _ _ s
    refine wpAny_bind (ask o hh hr hgo a (fun H s2 I q => ?_) (fun x v z2 H Nx s2 rx I post nxt fp => ?_))
    · exact wpAny_bind (wpAny_rule (wpAny_pure (hR (.bl false) _ _ _ _ _ I rfl (hQ _ (hg s.heap ▸ q)))))
    · obtain ⟨k, rfl, hk⟩ := hP _ _ _ (hg s.heap ▸ post)
      have rx : v = .bool k := rx
      subst rx
      refine wpAny_bind (wpAny_holding (wpAny_truthy_bool (wpAny_bind (wpAny_letGo ?_))))
      cases k with
      | false =>
        simp only [Bool.false_eq_true, if_false] at hk ⊢
        obtain ⟨k2, hk2, a2⟩ := nxt H s2 ⟨_, _, _, rfl, fun _ _ _ e => e⟩ (pg_nil o hh hr hgo hS hg hR (s := s) (s2 := s2) ▸ I) fp ((hg s2.heap).symm ▸ hk)
        exact wpAny_pure ⟨plainId_quiet F.plain_any_loop _, ih k2 hk2 s2 a2⟩
      | true =>
        simp only [if_true] at hk ⊢
        exact wpAny_bind (wpAny_rule (wpAny_pure (hR (.bl true) _ _ _ _ _ I rfl hk)))
end loops
/-- the total that a list object holds -/
def ghS (S : Addr) (h : Heap) : Int := match h.get? S with
  | some o => (match o.data with
    | .seq xs _ => (match (xs[0]? : Option Value) with
      | some (Value.int a _) => a
      | _ => 0)
    | _ => 0)
  | none => 0
theorem ghS_at {S : Addr} {h : Heap} {a : Int} {t : Tok} {c : Nat} (e : h.get? S = some (lstObj #[.int a t] c)) : ghS S h = a := by
  unfold ghS
  rw [e]
  rfl
theorem swapS {S : Addr} {s s2 s3 : Shared} {z2 : L2.St} {H : Hp} {h2 : Heap} {t2 : Nat} {ob : Obj} (o : G.Ok g tt te) (hS : G.S = [S]) (hga : G.ga ≠ S) (hfr : G.env.locals < S) (I : Inv G.cx (G.pg s) z2 H s2) (hs : ∃ u, s.heap.get? S = some u) (k : ∀ b u, b ≠ S → s2.heap.get? b = some u → h2.get? b = some u)
    (hob : h2.get? S = some ob) (hd : ∀ v, ob.data ≠ .cell v) (e3 : s3 = { s2 with heap := h2, toks := t2 }) : Inv G.cx (G.pg s3) z2 H s3 := by
  subst e3
  obtain ⟨us, hus⟩ := hs
  have hm : (S, us) ∈ G.pg s := List.mem_cons_of_mem _ (mem_pinsAt (by rw [hS]; exact List.mem_cons_self ..) hus)
  obtain ⟨p1, p2, p3, p4, p5⟩ := I.pin _ (List.mem_append_right _ hm)
  have I1 : Inv G.cx [(G.ga, G.go)] z2 H s2 := I.pins_of fun p hp => I.pin p (by
    have hp : p ∈ [(G.ga, G.go)] := by simpa using hp
    exact List.mem_append_right _ (List.mem_cons.mpr (.inl (by simpa using hp))))
  have cells : ∀ x c, G.env.cells.lookup x = some c → c ≠ S := fun x c e z => by
    obtain ⟨v, ob2, h3, h4⟩ := I.cell x c e
    rw [z, p1] at h3
    cases h3
    exact p5 _ h4
  have I2 : Inv G.cx [(G.ga, G.go)] z2 H { s2 with heap := h2, toks := t2 } := by
    refine Inv.call' (ch := [S]) I1 rfl ⟨fun b o2 e _ _ q => k b o2 (fun z => q (by rw [z]; exact List.mem_cons_self ..)) e, fun b o2 e _ _ q => ⟨o2.slots, k b o2 (fun z => q (by rw [z]; exact List.mem_cons_self ..)) e⟩, fun b o2 _ n _ => n,
      fun b o2 e q => ⟨o2, k b o2 (fun z => q (by rw [z]; exact List.mem_cons_self ..)) e⟩, fun b xs e => e, fun b o2 u e => e, fun b ps e => ⟨#[], by simpa using e⟩⟩ ?_ I.bare ?_
    · intro a ob2 e
      refine (I.hok a ob2 e).stay (fun b u hb q => k b u (fun z => ?_) q) (fun _ q => q) fun _ _ q => q
      rw [z] at hb
      rcases hb with hb | hb
      · rw [← hb, p2] at e
        cases e
      · rw [p2] at hb
        cases hb
    · intro b hb
      have hb : b = S := by simpa using hb
      rw [hb]
      refine ⟨.inr ?_, p3, fun x c e => cells x c e, fun p hp => ?_⟩
      · exact o.sk S (by rw [hS]; exact List.mem_cons_self ..)
      · have hp : p = (G.ga, G.go) := by simpa using hp
        rw [hp]
        exact hga
  have := I2.pinned (fp := [S]) (fun b hb => ?_) (fun b hb => ?_)
  · show Inv G.cx ((G.ga, G.go) :: pinsAt G.S _) z2 H _
    rw [hS]
    exact this
  · have hb : b = S := by simpa using hb
    rw [hb]
    refine ⟨p2, p3, p4, .inr (o.sk S (by rw [hS]; exact List.mem_cons_self ..)), fun x c e => cells x c e, fun p hp => ?_⟩
    have hp : p = (G.ga, G.go) := by simpa using hp
    rw [hp]
    exact hga
  · have hb : b = S := by simpa using hb
    rw [hb]
    exact ⟨ob, hob, hd⟩
section
variable (o : G.Ok g tt te) {gn : Nat} (hh : X.A.handled = none) (hr : X.A.in1.depth < recursionLimit) (hgo : ∀ h : Heap, h.get? G.ga = some G.go → h.IsGen G.ga gn) {S : Addr} (hS : G.S = [S]) (hg : ∀ h, G.gh h = ghS S h) (hga : G.ga ≠ S) (hfr : G.env.locals < S) (hSf : S ∉ G.fp) {Qr : VK} {R : Result → Shared → Prop}
  (hR : ∀ v u z2 H pp s2, Inv G.cx pp z2 H s2 → RelV v u → Qr v H → R (.ok (.ret u)) s2)
include o hh hr hgo hS hR hg hga hfr hSf
theorem sum_loop (hP : ∀ a y H Nx, G.Post a y H Nx → ∃ k, y = .int k ∧ InLong k ∧ InLong (a + k) ∧ Nx (a + k) H) (hQ : ∀ a H, G.Qs a H → Qr (.int a) H) :
    ∀ n s a t c, Asl G gn n s → s.heap.get? S = some (lstObj #[.int a t] c) → codeAny (model X.prog X.w) X.A (.builtin "sum.loop" ⟨[.ref G.ga, .ref S, rawInt 0, rawInt 0], []⟩) R s := by
  intro n
  induction n using Nat.strongRecOn with
  | ind n ih =>
    intro s a t c al hSo
    have ga : G.gh s.heap = a := by rw [hg, ghS_at hSo]
    refine codeAny_builtin F.entry_sum_loop ?_
    rw [Around.under_plainId F.plain_sum_loop _]
    show wpAny _ X.A.in1 (seqItems? (.ref S) >>= _) _ _ s
    refine wpAny_bind (wpAny_seqItems hSo rfl ?_)
    show wpAny _ X.A.in1 (tryCatch (pyNext (.ref G.ga)) _ >>= _) _ _ s
    refine wpAny_bind (wpAny_tryCatch (ask o hh hr hgo al (fun H s2 I q => ?_) (fun x v z2 H Nx s2 rx I post nxt fp => ?_)))
    · exact wpAny_pure (hR (.int a) _ _ _ _ _ I ⟨t, rfl⟩ (hQ _ _ (ga ▸ q)))
    · obtain ⟨k, rfl, ⟨f1, f2⟩, ⟨f3, f4⟩, hk⟩ := hP _ _ _ _ post
      rw [ga] at f3 f4 hk
      obtain ⟨tk, rfl⟩ := _root_.id rx
      have hS2 : s2.heap.get? S = some (lstObj #[.int a t] c) := (I.pin (S, _) (List.mem_append_right _ (List.mem_cons_of_mem _ (mem_pinsAt (by rw [hS]; exact List.mem_cons_self ..) hSo)))).1
      have hc : ((decide (-(2 ^ 63) ≤ k) && decide (k < 2 ^ 63)) && (decide (-(2 ^ 63) ≤ a + k) && decide (a + k < 2 ^ 63))) = true := by
        simp only [Bool.and_eq_true, decide_eq_true_eq]
        exact ⟨⟨f1, f2⟩, f3, f4⟩
      show wpAny _ X.A.in1 (if (_ : Bool) = true then (mkInt (a + k) >>= _) else _) _ _ _
      split
      · refine wpAny_bind (wpAny_mkInt ?_)
        show wpAny _ X.A.in1 (updateSeq S (fun _ => #[.int (a + k) s2.toks]) >>= _) _ _ _
        refine wpAny_bind (wpAny_updateSeq (s := { s2 with toks := s2.toks + 1 }) hS2 rfl ?_)
        have hnew : (s2.heap.update S (Obj.mapSeq fun _ => #[.int (a + k) s2.toks])).get? S = some (lstObj #[.int (a + k) s2.toks] c) := Heap.get?_update_self _ hS2 rfl
        have oth : ∀ b u, b ≠ S → s2.heap.get? b = some u → (s2.heap.update S (Obj.mapSeq fun _ => #[.int (a + k) s2.toks])).get? b = some u := fun b u hb e => (Heap.get?_update_other _ _ (Ne.symm hb)).trans e
        obtain ⟨k2, hk2, a2⟩ := nxt H { s2 with heap := s2.heap.update S (Obj.mapSeq fun _ => #[.int (a + k) s2.toks]), toks := s2.toks + 1 } ⟨_, _, _, rfl, fun b hb u e => oth b u (fun z => hSf (z ▸ hb)) e⟩
          (swapS o hS hga hfr I ⟨_, hSo⟩ oth hnew (fun v e => by cases e) rfl) fp (by rw [hg, ghS_at hnew]; exact hk)
        exact wpAny_pure ⟨plainId_quiet F.plain_sum_loop _, ih k2 hk2 _ _ _ _ a2 hnew⟩
      · rename_i hneg
        exact absurd hc hneg
end
end GenW
end
end Fy

set_option maxHeartbeats 1000000
/-! A generator expression made, and handed to all, any or sum. -/
namespace Fy
open PySem PySem.Spec PyProof.Rows L2 GxR
/-- the table at P tells code at gp: it stood there, or it is new, and has an empty table of its own -/
def TabbedG (P : Addr) (gp : Pos) (code : Value) (H1 H2 : Hp) : Prop := (∀ b o, H1 b = some o → b ≠ P → H2 b = some o) ∧ ∃ ps ps' : Array Value, H1 P = some (.tbl ps) ∧ H2 P = some (.tbl ps') ∧ TriplesOk ps'.toList ∧
  ((H2 = H1 ∧ codeAmong gp ps.toList = some code) ∨ ∃ c P2, code = .ref c ∧ H1 c = none ∧ H1 P2 = none ∧ H2 c = some (GCodeO c P2) ∧ H2 P2 = some (.tbl #[]) ∧
    ∀ (pos : Pos) (cv : Value), codeAmong pos ps'.toList = some cv → codeAmong pos ps.toList = some cv ∨ (pos.line = gp.line ∧ pos.col = gp.col ∧ cv = .ref c))
section
variable {X : Cx} {pins : List (Addr × Obj)} {σ : L2.St} {H : Hp} {s : Shared}
/-- the table has grown by a code object that is new, as its own table is -/
theorem inv_gen {P c P2 : Addr} {ps more : Array Value} {h' : Heap} {t' : Nat} (I : Inv X pins σ H s) (hP : H P = some (.tbl ps)) (k : ∀ b o, b ≠ P → s.heap.get? b = some o → h'.get? b = some o)
    (hm : h'.get? P = some { cls := .none, data := .fields (ps ++ more) }) (hc : s.heap.objs.size ≤ c) (hp2 : s.heap.objs.size ≤ P2) (hcd : PySem.W.CodeHd h' c P2) (ht2 : h'.get? P2 = some { cls := .none, data := .fields #[] }) :
    Inv X pins σ (upd (upd (upd H P (.tbl (ps ++ more))) P2 (.tbl #[])) c (GCodeO c P2)) { s with heap := h', toks := t' } := by
  have nC : H c = none := I.hok.fresh hc
  have n2 : H P2 = none := I.hok.fresh hp2
  have ncp : c ≠ P2 := by
    obtain ⟨_, _, _, _, _, _, _, _, _, _, _, _, _, _, _, _, _, _, z⟩ := hcd
    exact z
  have nPc : P ≠ c := ne_of_none hP nC
  have nP2 : P ≠ P2 := ne_of_none hP n2
  have at_ : ∀ b, b ≠ P → b ≠ c → b ≠ P2 → upd (upd (upd H P (.tbl (ps ++ more))) P2 (.tbl #[])) c (GCodeO c P2) b = H b := fun b h1 h2 h3 => by rw [upd_ne h2, upd_ne h3, upd_ne h1]
  have atP : upd (upd (upd H P (.tbl (ps ++ more))) P2 (.tbl #[])) c (GCodeO c P2) P = some (.tbl (ps ++ more)) := by rw [upd_ne nPc, upd_ne nP2, upd_same]
  have at2 : upd (upd (upd H P (.tbl (ps ++ more))) P2 (.tbl #[])) c (GCodeO c P2) P2 = some (.tbl #[]) := by rw [upd_ne (Ne.symm ncp), upd_same]
  have noP : ∀ b u, H b = some u → (∀ q, u ≠ .tbl q) → b ≠ P := fun b u e q z => by
    rw [z, hP] at e
    exact q ps (Option.some.inj e).symm
  have nN : ∀ b, H b = none → b ≠ P := fun b e z => by
    rw [z, hP] at e
    cases e
  have lc : ∀ b o, s.heap.get? b = some o → b ≠ c ∧ b ≠ P2 := fun b o e => by
    have := Heap.lt_size e
    exact ⟨Nat.ne_of_lt (Nat.lt_of_lt_of_le this hc), Nat.ne_of_lt (Nat.lt_of_lt_of_le this hp2)⟩
  have sm : ∀ b u, H b = some u → b ≠ c ∧ b ≠ P2 := fun b u e => ⟨ne_of_none e nC, ne_of_none e n2⟩
  refine I.step (g' := s.gens) (d' := s.drawn) (ch := []) (fun b hb => absurd hb (by simp)) (fun b o _ _ _ e n => k b o (nN b n) e) (fun b o _ _ _ e n => ⟨o.slots, k b o (nN b n) e⟩)
    (fun b o _ e n => by rw [at_ b (nN b n) (lc b o e).1 (lc b o e).2]; exact n) (fun b o _ e => ?_) (fun b xs e => by rw [at_ b (noP b _ e (fun q z => by cases z)) (sm b _ e).1 (sm b _ e).2]; exact e) (fun b o u e => by rw [at_ b (noP b _ e (fun q z => by cases z)) (sm b _ e).1 (sm b _ e).2]; exact e) (fun b qs e => ?_) (fun m hn => ?_) (fun b u e => ?_) I.bare
  · by_cases hb : b = P
    · exact ⟨_, hb ▸ hm⟩
    · exact ⟨o, k b o hb e⟩
  · by_cases hb : b = P
    · rw [hb, hP] at e
      cases e
      exact ⟨more, hb ▸ atP⟩
    · rw [at_ b hb (sm b _ e).1 (sm b _ e).2, e]
      exact ⟨#[], by simp⟩
  · obtain ⟨ob, es, ep, ho, r⟩ := hn
    exact ⟨ob, es, ep, k _ ob (nN _ I.free) ho, r⟩
  · by_cases hb : b = c
    · rw [hb, upd_same] at e
      cases e
      rw [hb]
      refine ⟨hcd, ?_, fun h1 h2 y st => ?_⟩
      · obtain ⟨oc, _, _, _, _, _, _, _, _, e1, _⟩ := hcd
        exact ⟨oc, e1⟩
      · obtain ⟨oc, vs, f1, f2, f3, f4, f5, f6, f7, e1, r⟩ := y
        exact ⟨oc, vs, f1, f2, f3, f4, f5, f6, f7, st _ e1, r⟩
    · by_cases hb3 : b = P2
      · rw [hb3, at2] at e
        cases e
        rw [hb3]
        exact ht2
      · by_cases hb2 : b = P
        · rw [hb2, atP] at e
          cases e
          rw [hb2]
          exact hm
        · rw [at_ b hb2 hb hb3] at e
          refine (I.hok b u e).stay (fun d v hd q => k d v ?_ q) (fun d q => by rw [at_ d (noP d _ q (fun q z => by cases z)) (sm d _ q).1 (sm d _ q).2]; exact q) fun d xs q => by rw [at_ d (noP d _ q (fun q z => by cases z)) (sm d _ q).1 (sm d _ q).2]; exact q
          rcases hd with z | z
          · exact fun w => hb2 (z.symm.trans w)
          · exact noP d _ z (fun q z => by cases z)
/-- the walk's reading -/
def tGen (P : Addr) (gp : Pos) (ck : Hp → Prop) (wi : TI) (g : Value → TG) (tt : Value → TT) (te : Value → TE) (vs : List Nat) (Qs : Int → Hp → Prop) (Post : Int → V → Hp → (Int → Hp → Prop) → Prop) (σ : L2.St) (H : Hp) : Prop :=
  wi σ H fun J H1 => (TabG H1 P ∧ ck H1) ∧ ∀ code H2, TabbedG P gp code H1 H2 → ∃ W : Int → Nat → Nat → Hp → Prop, (∃ m, W 0 0 m H2) ∧
    ∀ a i m H, W a i m H → (J.stop i H ∧ Qs a H) ∨ (J.go i H ∧ ∃ Nx : Int → Hp → Prop, (∀ a H', Nx a H' → ∃ m', m' < m ∧ W a (i + 1) m' H') ∧
      ∀ x H', J.yld i H x H' → g code x (L2.wipe σ vs) H' fun z2 H2 => L2.wipe z2 vs = L2.wipe σ vs ∧ tt code z2 H2 fun b H3 => if b = true then te code z2 H3 fun y H4 => Post a y H4 Nx else Nx a H3)
/-- a generator that was made and not yet asked -/
structure Made (G : GenW X) (pins : List (Addr × Obj)) (σ : L2.St) (own : List (Str × Nat)) (g : TG) (tt : TT) (te : TE) (m0 : Nat) (s5 : Shared) : Prop where
  inv : Inv X pins σ G.H G.s
  scp : GScp X.N X.env.scope G.scope own
  fpx : ∀ b ∈ G.fp, FpOk X pins G.H b ∧ b < G.s.heap.objs.size
  tn0 : G.tn 0 s5.heap
  keep : ∀ b o, G.s.heap.get? b = some o → s5.heap.get? b = some o
  ns : ∃ m, s5.heap.Ns G.s.heap.objs.size m
  gaL : G.s.heap.objs.size < G.ga
  gaO : s5.heap.get? G.ga = some G.go
  goD : ∃ nm qn, G.go.cls = .type "generator" ∧ G.go.data = .fields #[.int G.s.gens.size 0, nm, qn] ∧ G.go.slots = #[]
  gens : s5.gens = G.s.gens.push (.fresh (.compStart G.e 0 (.ref G.it) .none G.env))
  os : s5.os = G.s.os
  drawn : s5.drawn = G.s.drawn
  zw : G.zw = L2.wipe σ (own.map (·.2))
  vs : G.vs = own.map (·.2)
  w0 : G.W 0 0 m0 G.H
  T : Turn X.prog X.w X.K G.tg G.J G.fp G.it G.tn
  pg : PG G.cx G.tg g
  pt : PTs G.cx G.ifs tt
  pe : PE G.cx G.elt te
  turn : ∀ a i m H, G.W a i m H → (G.J.stop i H ∧ G.Qs a H) ∨ (G.J.go i H ∧ ∃ Nx : Int → Hp → Prop, (∀ a H', Nx a H' → ∃ m', m' < m ∧ G.W a (i + 1) m' H') ∧ ∀ x H', G.J.yld i H x H' → g x G.zw H' fun z2 H2 => L2.wipe z2 G.vs = G.zw ∧
    tt z2 H2 fun b H3 => if b = true then te z2 H3 fun y H4 => G.Post a y H4 Nx else Nx a H3)
abbrev GenW.with_ (G : GenW X) (S : List Addr) (gh : Heap → Int) : GenW X := { G with S := S, gh := gh }
variable {G : GenW X} {own : List (Str × Nat)} {g : TG} {tt : TT} {te : TE} {m0 : Nat} {s5 : Shared}
theorem Made.ok (M : Made G pins σ own g tt te m0 s5) {S : List Addr} {gh : Heap → Int} (hS : ∀ b ∈ S, G.s.heap.objs.size ≤ b) : (G.with_ S gh).Ok g tt te :=
  ⟨M.T, M.pg, M.pt, M.pe, M.scp.co, fun b hb => (M.fpx b hb).2, Nat.le_of_lt M.gaL, hS, by show L2.wipe G.zw G.vs = G.zw; rw [M.zw, M.vs, wipe_wipe], M.turn⟩
theorem Made.hgo (M : Made G pins σ own g tt te m0 s5) : ∀ h : Heap, h.get? G.ga = some G.go → h.IsGen G.ga G.s.gens.size := fun h e =>
  let ⟨nm, qn, h1, h2, h3⟩ := M.goD
  ⟨_, nm, qn, e, h1, h2, h3⟩
theorem Made.back (M : Made G pins σ own g tt te m0 s5) {pp : List (Addr × Obj)} {z2 : L2.St} {H2 : Hp} {s2 : Shared} (J : Inv G.cx pp z2 H2 s2) : Inv X pins σ H2 s2 :=
  M.inv.call' (ch := G.fp) J.os J.base J.hok J.bare fun b hb => ⟨(M.fpx b hb).1.2.2.2.1, (M.fpx b hb).1.2.1, (M.fpx b hb).1.2.2.2.2.1, (M.fpx b hb).1.2.2.2.2.2⟩
theorem Made.fresh (M : Made G pins σ own g tt te m0 s5) (hc : X.calm = true) (hN : X.N.Nodup) {b : Addr} (hb : G.s.heap.objs.size < b) : ∀ q, (∀ p ∈ q, p.1 ≠ b) → FpOk G.cx q G.H b := fun q hq => by
  obtain ⟨h1, h2, h3, h4, h5, h6⟩ := M.inv.fpOk (Nat.le_of_lt hb) (M.inv.hok.fresh (Nat.le_of_lt hb))
  refine ⟨h1, Nat.ne_of_gt hb, fun e => ?_, .inr (Nat.le_of_lt hb), fun x c e z => ?_, fun p hp => hq p (by simpa using hp)⟩
  · rcases List.mem_cons.mp (M.inv.stkSub b e) with e | e
    · exact h2 e
    · exact h3 e
  · obtain ⟨e1, e2⟩ := clo_look e
    have : ∃ c, X.env.cells.lookup x = some c := by
      rcases M.scp.blk.free _ e1 rfl with k | k
      · exact M.inv.ok.has _ (.inl k)
      · exact M.inv.ok.has _ (.inr k)
    obtain ⟨c2, h3⟩ := this
    rw [h3] at e2
    rw [e2] at z
    exact h5 x c2 h3 z
theorem Made.start (M : Made G pins σ own g tt te m0 s5) (hc : X.calm = true) (hN : X.N.Nodup) {S : List Addr} {gh : Heap → Int} {h6 : Heap} {t6 : Nat} (hk : ∀ b o, s5.heap.get? b = some o → h6.get? b = some o)
    (hS : ∀ b ∈ S, G.ga < b ∧ ∃ o, h6.get? b = some o ∧ ∀ v, o.data ≠ .cell v) (hg : gh h6 = 0) : GenW.Asl (G.with_ S gh) G.s.gens.size (m0 + 1) { s5 with heap := h6, toks := t6 } := by
  obtain ⟨m, hn⟩ := M.ns
  have hk2 : ∀ b o, G.s.heap.get? b = some o → h6.get? b = some o := fun b o e => hk b o (M.keep b o e)
  have hb5 : AllBare s5.gens := by
    rw [M.gens]
    exact M.inv.bare.push rfl
  have I0 := gen_start (h5 := h6) (g5 := s5.gens.setIfInBounds G.s.gens.size .running) (t5 := t6) (code := G.code) M.inv M.scp hc hN M.fpx hk2 (hn.at' fun o e => hk _ o e) (bare_set hb5 rfl)
  have I1 := I0.pinned (fp := [G.ga]) (fun b hb => by
    have : b = G.ga := by simpa using hb
    rw [this]
    exact M.fresh hc hN M.gaL [] (fun p hp => by cases hp)) (fun b hb => by
    have : b = G.ga := by simpa using hb
    rw [this]
    obtain ⟨nm, qn, _, h2, _⟩ := M.goD
    exact ⟨_, hk _ _ M.gaO, fun v e => by rw [h2] at e; cases e⟩)
  have e1 : [] ++ pinsAt [G.ga] h6 = [(G.ga, G.go)] := by simp [pinsAt, hk _ _ M.gaO]
  rw [e1] at I1
  have I2 := I1.pinned (fp := S) (fun b hb => M.fresh hc hN (Nat.lt_trans M.gaL (hS b hb).1) _ (fun p hp => by
    have : p = (G.ga, G.go) := by simpa using hp
    rw [this]
    exact Nat.ne_of_lt (hS b hb).1)) (fun b hb => (hS b hb).2)
  have a : (G.with_ S gh).At 0 m0 G.H { G.s with heap := h6, gens := s5.gens.setIfInBounds G.s.gens.size .running, toks := t6 } { G.s with heap := h6, gens := s5.gens.setIfInBounds G.s.gens.size .running, toks := t6 } := by
    refine ⟨?_, M.T.keep _ _ _ M.tn0 fun b _ o e => hk b o e, fun b hb => (M.fpx b hb).1.1, ?_⟩
    · show Inv G.cx ((G.ga, G.go) :: pinsAt S h6) G.zw G.H _
      rw [M.zw]
      exact I2
    · show G.W (gh h6) 0 m0 G.H
      rw [hg]
      exact M.w0
  have sg := GenW.seg_start (M.ok (gh := gh) fun b hb => Nat.le_of_lt (Nat.lt_trans M.gaL (hS b hb).1)) (Nat.lt_succ_self m0) a (i := 0)
  have e5 : Shared.setGen { s5 with heap := h6, toks := t6 } G.s.gens.size .running = { G.s with heap := h6, gens := s5.gens.setIfInBounds G.s.gens.size .running, toks := t6 } := by
    simp only [Shared.setGen, M.os, M.drawn]
  refine ⟨⟨.fresh (.compStart G.e 0 (.ref G.it) .none G.env), ?_, ?_⟩, M.hgo _ (hk _ _ M.gaO), I0.nolimit⟩
  · show s5.gens[G.s.gens.size]? = _
    rw [M.gens]
    simp
  · rw [e5]
    exact ⟨rfl, sg⟩
theorem gen_make {c P : Addr} {elt tg iter : Expr} {ifs : List Expr} {gpos : Pos} {scope : Scope} {wi : TI} {Qs : Int → Hp → Prop} {Post : Int → V → Hp → (Int → Hp → Prop) → Prop} {k : Nat} {Q' : Value → Shared → Prop} {ck : Hp → Prop} {g : Value → TG} {tt : Value → TT} {te : Value → TE}
    (hr : Room k X.A) (BM : ∃ Pl, X.base.BuiltinsAt X.mg Pl) (hck : ∀ (H : Hp) (h : Heap), (∀ b o, X.base.get? b = some o → h.get? b = some o) → HOk X.prog X.w H h → ck H → PySem.W.CodeHd h c P) (hcode : X.env.code = .ref c) (S : GScp X.N X.env.scope scope own) (hi : PI X tg iter wi)
    (hg : ∀ s H code fp, PG (gcx X s H (genC X scope s.heap.objs.size code) fp) tg (g code)) (ht : ∀ s H code fp, PTs (gcx X s H (genC X scope s.heap.objs.size code) fp) ifs (tt code)) (he : ∀ s H code fp, PE (gcx X s H (genC X scope s.heap.objs.size code) fp) elt (te code))
    (hs : ∀ v, genFold iter X.env v = pure v) (I : Inv X pins σ H s) (h : tGen P gpos ck wi g tt te (own.map (·.2)) Qs Post σ H)
    (hQ : ∀ (G : GenW X) m0 s5, G.S = [] → (∀ h, G.gh h = 0) → G.Qs = Qs → G.Post = Post → s5.heap.objs.size = G.ga + 1 → Made G pins σ own (g G.code) (tt G.code) (te G.code) m0 s5 → Q' (.ref G.ga) s5) :
    wpAny (model X.prog X.w) X.A (eval (.GeneratorExp elt [⟨tg, iter, ifs, 0⟩] scope gpos) X.env) Q' X.xe s := by
  have hfree : ∀ y ∈ scope.names, y.2 = .free → ∃ c, X.env.cells.lookup y.1 = some c := fun y hy e => by
    rcases S.blk.free y hy e with k | k
    · exact I.ok.has _ (.inl k)
    · exact I.ok.has _ (.inr k)
  refine wpAny_GeneratorExp_make S.co (closure_ok hfree) S.nocell S.dot S.blk.kind (by have := hr.dp; omega) ?_ hs
  refine thn (hi.run pins s σ H _ I h) fun xv s1 hx => thn hx fun itv s2 h2 => ?_
  obtain ⟨it, fp, tn, J, H1, rfl, I1, T, st1, f1, ⟨⟨ps, hP, htr⟩, hck1⟩, q1⟩ := h2
  have htr0 := htr
  have hPs : s2.heap.get? P = some { cls := .none, data := .fields ps } := I1.hok P _ hP
  have cd : PySem.W.CodeHd s2.heap c P := hck H1 s2.heap (fun b u e => I1.bk b u e) I1.hok hck1
  have gP : mainGlobals ≠ P := fun z => by
    obtain ⟨ob, es, ep, ho, hd, _⟩ := I1.mod.glob.keeps I1.bk
    rw [z, hPs] at ho
    cases ho
    cases hd
  refine ⟨I1.nolimit, ?_⟩
  have cont : ∀ (code : Value) (h3 : Heap) (tk : Nat) (H2 : Hp), Heap.ExtBut P s2.heap h3 → s2.heap.objs.size ≤ h3.objs.size → Inv X pins σ H2 { s2 with heap := h3, toks := tk } → TabbedG P gpos code H1 H2 → (∀ b, H1 b = none → b < s2.heap.objs.size → H2 b = none) →
      wpAny (model X.prog X.w) X.A (builtinsFor X.env.globals X.env.builtins) (fun bi s₄ =>
        ∀ h', h'.Ns s₄.heap.objs.size (fun y => if y = ".0" then some (.ref it) else none) → Heap.SameBut s₄.heap.objs.size (s₄.heap.push { cls := .type "frame", data := .dict #[] }) h' →
          Q' (.ref h'.objs.size) { s₄ with
            gens := s₄.gens.push (.fresh (.compStart (.GeneratorExp elt [⟨tg, iter, ifs, 0⟩] scope gpos) 0 (.ref it) .none (genEnv scope (cloFrom X.env.cells scope.names []) s₄.heap.objs.size code bi X.env))),
            toks := s₄.toks + 1 + 1 + 1,
            heap := h'.push { cls := .type "generator", data := .fields #[.int s₄.gens.size 0, .str "<genexpr>" (s₄.toks + 1), .str (X.env.qual ++ "<genexpr>") (s₄.toks + 1 + 1)] } }) X.xe { s2 with heap := h3, toks := tk } := by
    intro code h3 tk H2 hx hsz J4 htb hfree2
    obtain ⟨Pl, bm, ob, e1, e2, e3, _, e5, e6, e7, e8⟩ := BM
    have e4 : bm ≠ P := fun z => by
      have := I1.bk _ _ e5
      rw [z, hPs] at this
      cases this
      cases e8
    refine wpAny_builtinsFor (m := X.mg) (by rw [I1.ok.glob]; exact ((I1.mod.glob.keeps I1.bk)).extBut hx gP) e1 e2 (hx _ _ e4 (I1.bk _ _ e5)) e6 e7 e8 ?_
    intro h' hns hsb
    obtain ⟨W, ⟨m0, w0⟩, turn⟩ := q1 code H2 htb
    have hsz' : h'.objs.size = h3.objs.size + 1 := hsb.1.trans (Heap.size_push ..)
    have kp : ∀ b o, h3.get? b = some o → h'.get? b = some o := fun b o e => by
      rw [hsb.2 b (Nat.ne_of_lt (Heap.lt_size e))]
      exact Heap.get?_push_of_some _ e
    have hlt : ∀ b ∈ fp, b < s2.heap.objs.size := fun b hb => by
      obtain ⟨o, e, _⟩ := T.obj _ _ st1 b hb
      exact Heap.lt_size e
    have fpP : ∀ b ∈ fp, b ≠ P := fun b hb z => by
      have := (f1 b hb).1
      rw [z, hP] at this
      cases this
    refine hQ { s := { s2 with heap := h3, toks := tk }, H := H2, scope := scope, code := code, fp := fp, it := it, tn := tn, J := J, ga := h'.objs.size, go := { cls := .type "generator", data := .fields #[.int s2.gens.size 0, .str "<genexpr>" (tk + 1), .str (X.env.qual ++ "<genexpr>") (tk + 1 + 1)] }, S := [], vs := own.map (·.2), zw := L2.wipe σ (own.map (·.2)), elt := elt, tg := tg, iter := iter, ifs := ifs, gpos := gpos, gh := fun _ => 0, W := W, Qs := Qs, Post := Post } m0 _ rfl (fun _ => rfl) rfl rfl (Heap.size_push ..) ?_
    exact {
      inv := J4
      scp := S
      fpx := fun b hb => ⟨⟨hfree2 b (f1 b hb).1 (hlt b hb), (f1 b hb).2⟩, Nat.lt_of_lt_of_le (hlt b hb) hsz⟩
      tn0 := T.keep _ _ _ st1 fun b hb o e => Heap.get?_push_of_some _ (kp _ _ (hx b o (fpP b hb) e))
      keep := fun b o e => Heap.get?_push_of_some _ (kp b o e)
      ns := ⟨_, hns.push _⟩
      gaL := by show h3.objs.size < h'.objs.size; omega
      gaO := Heap.get?_push_size _ rfl
      goD := ⟨_, _, rfl, rfl, rfl⟩
      gens := rfl
      os := rfl
      drawn := rfl
      zw := rfl
      vs := rfl
      w0 := w0
      T := T
      pg := hg _ _ _ _
      pt := ht _ _ _ _
      pe := he _ _ _ _
      turn := turn }
  cases hf : codeAmong gpos ps.toList with
  | none =>
    refine wpAny_genexprCodeX hcode (cd.code hPs htr) (cd.tab hPs) hf fun c' h' tk hx hge hlt hco' _ htab' hown => ?_
    obtain ⟨P', hP', ic, it'⟩ := hown
    obtain ⟨o1, vs, f1', tf, fl, tg', inF, tx, tt', op, _, _, _, _, _, _, _, _, _, htr', _⟩ := hco'
    have hcd := PySem.W.CodeHd.of ic it'
    have ncp : c' ≠ P' := by
      obtain ⟨_, _, _, _, _, _, _, _, _, _, _, _, _, _, _, _, _, _, z⟩ := hcd
      exact z
    have nC : H1 c' = none := I1.hok.fresh hge
    have n2 : H1 P' = none := I1.hok.fresh hP'
    have nPc : P ≠ c' := ne_of_none hP nC
    have nP2 : P ≠ P' := ne_of_none hP n2
    have J := inv_gen (t' := tk) (more := #[rawInt gpos.line, rawInt gpos.col, .ref c']) I1 hP (fun b u hb e => hx b u hb e) htab'.2 hge hP' hcd it'.2
    refine cont _ h' tk _ hx (Nat.le_trans hge (Nat.le_of_lt hlt)) J ⟨fun b o e ne => ?_, ps, _, hP, by rw [upd_ne nPc, upd_ne nP2, upd_same], htr', .inr ⟨c', P', rfl, nC, n2, upd_same, by rw [upd_ne (Ne.symm ncp), upd_same], fun pos cv z => among_at ps.toList htr (by simpa using z)⟩⟩ fun b e lt => ?_
    · rw [upd_ne (ne_of_none e nC), upd_ne (ne_of_none e n2), upd_ne ne]
      exact e
    · rw [upd_ne (Nat.ne_of_lt (Nat.lt_of_lt_of_le lt hge)), upd_ne (Nat.ne_of_lt (Nat.lt_of_lt_of_le lt hP')), upd_ne (fun z => by rw [z, hP] at e; cases e)]
      exact e
  | some cv =>
    refine wpAny_genexprCode_hit hcode (cd.code hPs htr) hf ?_
    exact cont cv s2.heap s2.toks H1 (Heap.ExtBut.refl _ _) (Nat.le_refl _) I1 ⟨fun _ _ e _ => e, ps, ps, hP, hP, htr, .inl ⟨rfl, hf⟩⟩ fun _ e _ => e
/-- the readings: all, any, sum -/
def tAll (P : Addr) (gp : Pos) (ck : Hp → Prop) (wi : TI) (g : Value → TG) (tt : Value → TT) (te : Value → TE) (vs : List Nat) : TE := fun σ H Q => tGen P gp ck wi g tt te vs (fun _ H => Q (.bl true) H) (fun _ y H Nx => ∃ k, y = .bl k ∧ if k = true then Nx 0 H else Q (.bl false) H) σ H
def tAny (P : Addr) (gp : Pos) (ck : Hp → Prop) (wi : TI) (g : Value → TG) (tt : Value → TT) (te : Value → TE) (vs : List Nat) : TE := fun σ H Q => tGen P gp ck wi g tt te vs (fun _ H => Q (.bl false) H) (fun _ y H Nx => ∃ k, y = .bl k ∧ if k = true then Q (.bl true) H else Nx 0 H) σ H
def tSum (P : Addr) (gp : Pos) (ck : Hp → Prop) (wi : TI) (g : Value → TG) (tt : Value → TT) (te : Value → TE) (vs : List Nat) : TE := fun σ H Q => tGen P gp ck wi g tt te vs (fun a H => Q (.int a) H) (fun a y H Nx => ∃ k, y = .int k ∧ InLong k ∧ InLong (a + k) ∧ Nx (a + k) H) σ H
section
variable {c P : Addr} {elt tg iter : Expr} {ifs : List Expr} {p pos gpos : Pos} {scope : Scope} {wi : TI} {k : Nat} {ck : Hp → Prop} {g : Value → TG} {tt : Value → TT} {te : Value → TE}
  (hr : Room (k + 1) X.A) (hc : X.calm = true) (hN : X.N.Nodup) (BM : ∃ Pl, X.base.BuiltinsAt X.mg Pl) (hck : ∀ (H : Hp) (h : Heap), (∀ b o, X.base.get? b = some o → h.get? b = some o) → HOk X.prog X.w H h → ck H → PySem.W.CodeHd h c P) (hcode : X.env.code = .ref c) (S : GScp X.N X.env.scope scope own) (hi : PI X tg iter wi)
  (hg : ∀ s H code fp, PG (gcx X s H (genC X scope s.heap.objs.size code) fp) tg (g code)) (ht : ∀ s H code fp, PTs (gcx X s H (genC X scope s.heap.objs.size code) fp) ifs (tt code)) (he : ∀ s H code fp, PE (gcx X s H (genC X scope s.heap.objs.size code) fp) elt (te code))
  (hs : ∀ v, genFold iter X.env v = pure v)
include hr hc hN BM hck hcode S hi hg ht he hs
theorem pe_all (hgl : Gl X "all") (hm : X.mg "all" = none) (hb : bootBuiltins "all" = some (.builtin "all"))
    (hst : starEach [.GeneratorExp elt [⟨tg, iter, ifs, 0⟩] scope gpos] X.env = (false, eval (.GeneratorExp elt [⟨tg, iter, ifs, 0⟩] scope gpos) X.env) :: starEach [] X.env := by rfl) :
    PE X (.Call (.Name "all" p) [.GeneratorExp elt [⟨tg, iter, ifs, 0⟩] scope gpos] [] pos) (tAll P gpos ck wi g tt te (own.map (·.2))) := by
  refine ⟨fun pins s σ H Q I h => ?_⟩
  refine wpAny_Call_Name_kw (ld_blt I hgl hm hb ?_)
  refine PyProof.Rows.callWith_builtin1 ?_ hst (by rfl)
  rw [hst]
  show wpAny _ _ (spliced ((false, eval (.GeneratorExp elt [⟨tg, iter, ifs, 0⟩] scope gpos) X.env) :: backTo pos (starEach [] X.env))) _ _ s
  refine Calls.spliced_cons (gen_make hr BM hck hcode S hi hg ht he hs I h fun G m0 s5 hS hgh hQs hPo hsz M => ?_)
  refine Calls.spliced_nil ?_
  refine call_function_tree F.kind_all F.plain_all F.entry_all (F.args_all1 _) ?_
  unfold Builtin.«all»
  refine wpAny_bind (m := oneArg "all" _) (wpAny_pure ?_)
  have a := M.start (S := []) (gh := fun _ => 0) (h6 := s5.heap) (t6 := s5.toks) hc hN (fun _ _ e => e) (fun b hb => by cases hb) rfl
  refine wpAny_bind (wpAny_pyIter_gen a.isg ?_)
  refine wpAny_pure ⟨plainId_quiet F.plain_all_loop _, GenW.all_loop (G := G.with_ [] fun _ => 0) (Qr := Q) (M.ok (S := []) (gh := fun _ => 0) fun b hb => by cases hb) (I.ok.hd hc) (by have := hr.dp; show X.A.depth < _; omega) M.hgo rfl (fun _ => rfl) (fun v u z2 H2 pp s2 J r q => ?_) (fun y H2 Nx q => ?_) (fun H2 q => ?_) _ _ a⟩
  · exact ⟨v, H2, M.back J, r, q⟩
  · rw [show (G.with_ [] fun _ => 0).Post = _ from hPo] at q
    exact q
  · rw [show (G.with_ [] fun _ => 0).Qs = _ from hQs] at q
    exact q
theorem pe_any (hgl : Gl X "any") (hm : X.mg "any" = none) (hb : bootBuiltins "any" = some (.builtin "any"))
    (hst : starEach [.GeneratorExp elt [⟨tg, iter, ifs, 0⟩] scope gpos] X.env = (false, eval (.GeneratorExp elt [⟨tg, iter, ifs, 0⟩] scope gpos) X.env) :: starEach [] X.env := by rfl) :
    PE X (.Call (.Name "any" p) [.GeneratorExp elt [⟨tg, iter, ifs, 0⟩] scope gpos] [] pos) (tAny P gpos ck wi g tt te (own.map (·.2))) := by
  refine ⟨fun pins s σ H Q I h => ?_⟩
  refine wpAny_Call_Name_kw (ld_blt I hgl hm hb ?_)
  refine PyProof.Rows.callWith_builtin1 ?_ hst (by rfl)
  rw [hst]
  show wpAny _ _ (spliced ((false, eval (.GeneratorExp elt [⟨tg, iter, ifs, 0⟩] scope gpos) X.env) :: backTo pos (starEach [] X.env))) _ _ s
  refine Calls.spliced_cons (gen_make hr BM hck hcode S hi hg ht he hs I h fun G m0 s5 hS hgh hQs hPo hsz M => ?_)
  refine Calls.spliced_nil ?_
  refine call_function_tree F.kind_any F.plain_any F.entry_any (F.args_any1 _) ?_
  unfold Builtin.«any»
  refine wpAny_bind (m := oneArg "any" _) (wpAny_pure ?_)
  have a := M.start (S := []) (gh := fun _ => 0) (h6 := s5.heap) (t6 := s5.toks) hc hN (fun _ _ e => e) (fun b hb => by cases hb) rfl
  refine wpAny_bind (wpAny_pyIter_gen a.isg ?_)
  refine wpAny_pure ⟨plainId_quiet F.plain_any_loop _, GenW.any_loop (G := G.with_ [] fun _ => 0) (Qr := Q) (M.ok (S := []) (gh := fun _ => 0) fun b hb => by cases hb) (I.ok.hd hc) (by have := hr.dp; show X.A.depth < _; omega) M.hgo rfl (fun _ => rfl) (fun v u z2 H2 pp s2 J r q => ?_) (fun y H2 Nx q => ?_) (fun H2 q => ?_) _ _ a⟩
  · exact ⟨v, H2, M.back J, r, q⟩
  · rw [show (G.with_ [] fun _ => 0).Post = _ from hPo] at q
    exact q
  · rw [show (G.with_ [] fun _ => 0).Qs = _ from hQs] at q
    exact q
theorem pe_sum (hgl : Gl X "sum") (hm : X.mg "sum" = none) (hb : bootBuiltins "sum" = some (.builtin "sum"))
    (hst : starEach [.GeneratorExp elt [⟨tg, iter, ifs, 0⟩] scope gpos] X.env = (false, eval (.GeneratorExp elt [⟨tg, iter, ifs, 0⟩] scope gpos) X.env) :: starEach [] X.env := by rfl) :
    PE X (.Call (.Name "sum" p) [.GeneratorExp elt [⟨tg, iter, ifs, 0⟩] scope gpos] [] pos) (tSum P gpos ck wi g tt te (own.map (·.2))) := by
  refine ⟨fun pins s σ H Q I h => ?_⟩
  refine wpAny_Call_Name_kw (ld_blt I hgl hm hb ?_)
  refine PyProof.Rows.callWith_builtin1 ?_ hst (by rfl)
  rw [hst]
  show wpAny _ _ (spliced ((false, eval (.GeneratorExp elt [⟨tg, iter, ifs, 0⟩] scope gpos) X.env) :: backTo pos (starEach [] X.env))) _ _ s
  refine Calls.spliced_cons (gen_make hr BM hck hcode S hi hg ht he hs I h fun G m0 s5 hS hgh hQs hPo hsz M => ?_)
  refine Calls.spliced_nil ?_
  refine call_function_tree F.kind_sum F.plain_sum F.entry_sum (F.args_sum1 _) ?_
  unfold Builtin.«sum»
  simp only [List.length_cons, List.length_nil]
  rw [if_neg (by decide)]
  refine wpAny_bind (wpAny_of_eq (show Builtin.Builtins.bindParams "sum" ["start"] 0 { } = pure [none] from rfl) ?_)
  refine wpAny_bind (wpAny_pyIter_gen (M.hgo _ M.gaO) ?_)
  refine wpAny_bind (wpAny_mkInt ?_)
  refine wpAny_bind (wpAny_pure ?_)
  simp only [List.forIn_cons, List.forIn_nil]
  refine wpAny_bind (wpAny_bind (wpAny_bind (wpAny_isInstance (T := "int") (b := false) (typeIs_int _ _ _) PySem.sub_int_str ?_)))
  simp only [Bool.false_eq_true, if_false]
  refine wpAny_pure (wpAny_bind (wpAny_bind (wpAny_isInstance (T := "int") (b := false) (typeIs_int _ _ _) PySem.sub_int_bytes ?_)))
  simp only [Bool.false_eq_true, if_false]
  refine wpAny_pure (wpAny_bind (wpAny_bind (wpAny_isInstance (T := "int") (b := false) (typeIs_int _ _ _) PySem.sub_int_bytearray ?_)))
  simp only [Bool.false_eq_true, if_false]
  refine wpAny_pure (wpAny_pure ?_)
  refine wpAny_bind (wpAny_newObj_type ?_)
  have hS2 : ∀ b ∈ [s5.heap.objs.size], G.ga < b := fun b hb => by
    have : b = s5.heap.objs.size := by simpa using hb
    rw [this, hsz]
    exact Nat.lt_succ_self _
  have new : (s5.heap.push (lstObj #[.int 0 s5.toks] 0)).get? s5.heap.objs.size = some (lstObj #[.int 0 s5.toks] 0) := Heap.get?_push_size _ rfl
  have a := M.start (S := [s5.heap.objs.size]) (gh := GenW.ghS s5.heap.objs.size) (h6 := s5.heap.push (lstObj #[.int 0 s5.toks] 0)) (t6 := s5.toks + 1) hc hN (fun _ _ e => Heap.get?_push_of_some _ e) (fun b hb => ⟨hS2 b hb, by
    have : b = s5.heap.objs.size := by simpa using hb
    rw [this]
    exact ⟨_, new, fun v e => by cases e⟩⟩) (GenW.ghS_at new)
  refine wpAny_pure ⟨plainId_quiet F.plain_sum_loop _, GenW.sum_loop (G := G.with_ [s5.heap.objs.size] (GenW.ghS s5.heap.objs.size)) (Qr := Q) (M.ok (S := [s5.heap.objs.size]) fun b hb => Nat.le_of_lt (Nat.lt_trans M.gaL (hS2 b hb))) (I.ok.hd hc) (by have := hr.dp; show X.A.depth < _; omega) M.hgo rfl (fun _ => rfl)
    (Nat.ne_of_lt (hS2 _ (List.mem_cons_self ..))) (Nat.lt_trans M.gaL (hS2 _ (List.mem_cons_self ..))) (fun e => ?_) (fun v u z2 H2 pp s2 J r q => ?_) (fun a y H2 Nx q => ?_) (fun a H2 q => ?_) _ _ 0 s5.toks 0 a new⟩
  · exact absurd (Nat.lt_trans (M.fpx _ e).2 (Nat.lt_trans M.gaL (hS2 _ (List.mem_cons_self ..)))) (Nat.lt_irrefl _)
  · exact ⟨v, H2, M.back J, r, q⟩
  · rw [show (G.with_ [s5.heap.objs.size] (GenW.ghS s5.heap.objs.size)).Post = _ from hPo] at q
    exact q
  · rw [show (G.with_ [s5.heap.objs.size] (GenW.ghS s5.heap.objs.size)).Qs = _ from hQs] at q
    exact q
end
end
end Fy

set_option maxHeartbeats 1000000
namespace Fy
open PySem PySem.Spec PyProof.Rows L2 GxR
variable [LamT]
theorem Tabbed.ne {P a : Addr} {H1 : Hp} {o : HO} (g : TabG H1 P) (h : H1 a = some o) (n : ∀ ps, o ≠ .tbl ps) : a ≠ P := fun z => by
  obtain ⟨ps, e, _⟩ := g
  rw [z, e] at h
  cases h
  exact n ps rfl
theorem TabbedG.keep {P : Addr} {gp : Pos} {code : Value} {H1 H2 : Hp} (h : TabbedG P gp code H1 H2) (g : TabG H1 P) {a : Addr} {o : HO} (e : H1 a = some o) (n : ∀ ps, o ≠ .tbl ps) : H2 a = some o := h.1 a o e (Tabbed.ne g e n)
theorem Step.tabbed {K : KH} {P : Addr} {gp : Pos} {code : Value} {H1 H2 : Hp} {st : Sto} (h : TabbedG P gp code H1 H2) (g : TabG H1 P) (nm : LamT.lp P gp.line gp.col = false) (nl : ∀ Q, H1 Q = none → NoL Q) : Step K st H1 st H2 := by
  refine ⟨fun a xs e => h.keep g e (fun _ z => by cases z), fun a o u e => h.keep g e (fun _ z => by cases z), fun Q e => ?_, fun a o e n s => ⟨h.keep g e n, s⟩⟩
  obtain ⟨ps, ps2, e1, e2, e3, e4⟩ := h.2
  rcases e4 with ⟨rfl, _⟩ | ⟨c, P2, rfl, n1, n2, k1, k2, e4⟩
  · exact e
  · obtain ⟨S, f1, f2⟩ := e
    have ex : ∀ b φ, H1 b = some (.ext φ) → H2 b = some (.ext φ) := fun b φ y => h.keep g y fun _ z => by cases z
    refine ⟨fun X => S X ∨ X = P2, .inl f1, fun X hX => ?_⟩
    rcases hX with hX | rfl
    · have old := f2 X hX
      by_cases z : X = P
      · subst z
        obtain ⟨ps0, a1, a2, a3, a4⟩ := old
        rw [e1] at a1
        cases a1
        refine ⟨ps2, e2, e3, fun q eq pos cv l y => ?_, fun pos cv l y => ?_⟩
        · rcases e4 pos cv y with y | ⟨y1, y2, _⟩
          · obtain ⟨c0, z1, z2⟩ := a3 q eq pos cv l y
            exact ⟨c0, z1, ex _ _ z2⟩
          · rw [y1, y2, nm] at l
            cases l
        · rcases e4 pos cv y with y | ⟨_, _, y⟩
          · obtain ⟨c0, P0, z1, z2, z3, z4⟩ := a4 pos cv l y
            exact ⟨c0, P0, z1, ex _ _ z2, .inl z3, z4⟩
          · exact ⟨c, P2, y, k1, .inr rfl, nl P2 n2⟩
      · exact (old.up (fun qs y => h.1 X _ y z) ex).mono fun _ y => .inl y
    · exact tbS_empty k2
theorem StoOk.tabbed {K : KH} {P : Addr} {gp : Pos} {code : Value} {H1 H2 : Hp} {st : Sto} (so : StoOk K st H1) (h : TabbedG P gp code H1 H2) (g : TabG H1 P) (nm : LamT.lp P gp.line gp.col = false) (nl : ∀ Q, H1 Q = none → NoL Q) : StoOk K st H2 := by
  refine so.mon (Step.tabbed h g nm nl).rst (fun a o e => ?_) fun a z => ⟨?_, (so.h a z).2⟩
  · cases o with
    | lst ds =>
      obtain ⟨_, xs, q, _⟩ := so.c a _ e
      rw [q]
      exact h.keep g q fun _ z => by cases z
    | dct t kvs =>
      obtain ⟨_, _, xs, q, _⟩ := so.c a _ e
      rw [q]
      exact h.keep g q dHO_ne.2.2.1
  · have := (so.h a z).1
    cases q : H1 a with
    | none => exact absurd q this
    | some o =>
      by_cases w : a = P
      · obtain ⟨_, ps, _, e, _⟩ := h.2
        rw [w, e]
        exact fun z => by cases z
      · rw [h.1 a o q w]
        exact fun z => by cases z
/-- the frame of a generator expression: its code object is known, its table is one more -/
def BX (T : Addr → Prop) (c P2 : Addr) : BP := ⟨fun _ st H => (∀ P, (T P ∨ P = P2) → Tb H P) ∧ H c = some (GCodeO c P2) ∧ st c = none, fun h t => ⟨fun P hP => t.tab P (h.1 P hP), t.keep c _ h.2.1 gcode_ne h.2.2⟩, fun P => T P ∨ P = P2, fun h => h.1⟩
def gQs (m : GM) (Q : VK) : Int → Hp → Prop := match m with
  | .all => fun _ H => Q (.bl true) H
  | .any => fun _ H => Q (.bl false) H
  | .sum => fun a H => Q (.int a) H
def gPost (m : GM) (Q : VK) : Int → V → Hp → (Int → Hp → Prop) → Prop := match m with
  | .all => fun _ y H Nx => ∃ k, y = .bl k ∧ if k = true then Nx 0 H else Q (.bl false) H
  | .any => fun _ y H Nx => ∃ k, y = .bl k ∧ if k = true then Q (.bl true) H else Nx 0 H
  | .sum => fun a y H Nx => ∃ k, y = .int k ∧ InLong k ∧ InLong (a + k) ∧ Nx (a + k) H
theorem genL_ok {m : GM} {tt : DSt → Sto → (Bool → Sto → Prop) → Prop} {el : DSt → Sto → (D → Sto → Prop) → Prop} {t : Tg} {src : Src} {s : DSt} {ds : List D} {a : Int} {st : Sto} {k : D → Sto → Prop} (h : genL m tt el t src s ds a st k) : src.ok st := by
  cases ds with
  | nil => exact h.1
  | cons d r => exact h.1
section
variable {X : Cx} {B : BP} {C : Cl} {ES : XS}
/-- readings in the frame: whatever the code object is, it is known -/
def gG (T : Addr → Prop) (K : PySem.W.Frag) (t : Tg) (code : Value) : TG := fun v s H k => ∃ c P2, code = .ref c ∧ NoL P2 ∧ liftG (BX T c P2) K t v s H k
def gT (T : Addr → Prop) (K : PySem.W.Frag) (w : DSt → Sto → (Bool → Sto → Prop) → Prop) (code : Value) : TT := fun s H k => ∃ c P2, code = .ref c ∧ NoL P2 ∧ liftT (BX T c P2) K w s H k
def gE (T : Addr → Prop) (K : PySem.W.Frag) (w : DE) (code : Value) : TE := fun s H k => ∃ c P2, code = .ref c ∧ NoL P2 ∧ liftE (BX T c P2) K w s H k
theorem snd_gen {m : GM} {P : Addr} {gp : Pos} {own : List Nat} {t : Tg} {it : II} {ts : IEs} {el : IE} {ck : Hp → Prop} (hP : B.T P) (hck : ∀ K st H, B.p K st H → ck H) (hnl : ∀ Q, ¬ B.T Q → NoL Q) (nm : LamT.lp P gp.line gp.col = false) (ho : ∀ i ∈ t.slots, i ∈ own) :
    ∀ s H Q, liftE B X.K (wpE C ES (.gen m own t it ts el)) s H Q → tGen P gp ck (liftI B X.K (wpI C ES it)) (gG B.T X.K t) (gT B.T X.K (wpTs C XF ts)) (gE B.T X.K (wpE C XF el)) own (gQs m Q) (gPost m Q) s H := by
  rintro s H0 Q ⟨hs, z, st0, R, sr, so, h, q⟩
  simp only [wpE] at h
  refine ⟨hs, z, st0, _, sr, so, h, fun src st1 H1 J L h1 t1 so1 it1 l1 hz => ⟨⟨(B.tab (sr.mono t1).b P hP).tabG, hck _ _ _ (sr.mono t1).b⟩, fun code H2 tb => ?_⟩⟩
  have g1 : TabG H1 P := (B.tab (sr.mono t1).b P hP).tabG
  have nl : ∀ Q, H1 Q = none → NoL Q := fun Q e => hnl Q fun z => by
    obtain ⟨ps, y⟩ := (B.tab (sr.mono t1).b Q z).at
    rw [e] at y
    cases y
  have kn : ∃ c P2, code = .ref c ∧ NoL P2 ∧ H2 c = some (GCodeO c P2) ∧ Tb H2 P2 := by
    obtain ⟨ps, ps2, e1, e2, e3, e4⟩ := tb.2
    rcases e4 with ⟨rfl, e4⟩ | ⟨c, P2, rfl, n1, n2, k1, k2, _⟩
    · obtain ⟨ps0, f1, f2, f3, f4⟩ := (B.tab (sr.mono t1).b P hP).out
      rw [e1] at f1
      cases f1
      obtain ⟨c, P2, z1, z2, z3, z4⟩ := f4 gp code nm e4
      exact ⟨c, P2, z1, z4, z2, z3⟩
    · exact ⟨c, P2, rfl, nl P2 n2, k1, .empty k2⟩
  obtain ⟨cc, P2, ec, nP2, kc, kt⟩ := kn
  have t2 : Step ⟨X.K, hs⟩ st1 H1 st1 H2 := Step.tabbed tb g1 nm nl
  have so2 : StoOk ⟨X.K, hs⟩ st1 H2 := so1.tabbed tb g1 nm nl
  have ns : st1 cc = none := by
    cases q : st1 cc with
    | none => rfl
    | some o => exact absurd kc ((so2.c cc o q).kind.2.2.2 _)
  let Wb : Int → Nat → Hp → Prop := fun a i H => i ≤ src.items.length ∧ ∃ st, StoOk ⟨X.K, hs⟩ st H ∧ Step ⟨X.K, hs⟩ st0 H0 st H ∧ Step ⟨X.K, hs⟩ st1 H2 st H ∧ L hs st H ∧
    genL m (fun s st k => wpTs C XF ts s st k) (fun s st k => wpE C XF el s st k) t src (dwipe z own) (src.items.drop i) a st R
  refine ⟨fun a i n H => n = src.items.length - i ∧ Wb a i H, ⟨_, rfl, Nat.zero_le _, st1, so2, t1.trans t2, .refl, it1.step _ _ _ _ _ _ l1 t2.rst so2 (genL_ok h1), h1⟩, ?_⟩
  rintro a i n H ⟨rfl, hi, st, so3, t3, w3, l3, h3⟩
  by_cases e : i < src.items.length
  · refine .inr ⟨it1.go hs i st H l3 e, fun a H => Wb a (i + 1) H, fun a H' w => ⟨src.items.length - (i + 1), by omega, rfl, w⟩, fun x H4 y => ?_⟩
    obtain ⟨t4, so4, d, ed, rd⟩ := it1.yld hs i st H x H4 l3 so3 e y
    have ed' : src.items.drop i = d :: src.items.drop (i + 1) := by
      rw [List.drop_eq_getElem_cons e]
      have := List.getElem?_eq_getElem e
      rw [ed] at this
      rw [Option.some.inj this]
    rw [ed'] at h3
    obtain ⟨_, h3⟩ := h3
    have b0 : (BX B.T cc P2).p ⟨X.K, hs⟩ st1 H2 := ⟨fun Q hQ => by
      rcases hQ with hQ | rfl
      · exact t2.tab Q (t1.tab Q (B.tab sr.b Q hQ))
      · exact kt, kc, ns⟩
    have sz : SR (BX B.T cc P2) ⟨X.K, hs⟩ st H4 (L2.wipe s own) (dwipe z own) := ⟨((sr.mono t3).mono t4).r.wipe _, (BX B.T cc P2).step ((BX B.T cc P2).step b0 w3) t4⟩
    have fin : ∀ a st5 H5, Step ⟨X.K, hs⟩ st H st5 H5 → StoOk ⟨X.K, hs⟩ st5 H5 → genL m (fun s st k => wpTs C XF ts s st k) (fun s st k => wpE C XF el s st k) t src (dwipe z own) (src.items.drop (i + 1)) a st5 R → Wb a (i + 1) H5 :=
      fun a st5 H5 t5 so5 h5 => ⟨e, st5, so5, t3.trans t5, w3.trans t5, it1.step _ _ _ _ _ _ l3 t5.rst so5 (genL_ok h5), h5⟩
    refine ⟨cc, P2, ec, nP2, hs, _, st, d, _, sz, so4, rd, h3, fun z2 s2 h5 sr2 o2 => ⟨(o2 _ ho).trans wipe_wipe, cc, P2, ec, nP2, hs, z2, st, _, sr2, so4, h5, fun k st6 H6 h6 t6 so6 => ?_⟩⟩
    have t46 := t4.trans t6
    cases k with
    | false => exact iteF (fin a st6 H6 t46 so6 (by simpa using h6))
    | true =>
      refine iteT ⟨cc, P2, ec, nP2, hs, z2, st6, _, sr2.mono t6, so6, (by simpa using h6), fun d7 st7 v7 H7 h7 t7 r7 so7 => ?_⟩
      have t47 := t46.trans t7
      cases m with
      | all =>
        cases d7 <;> first | exact h7.elim | skip
        rename_i b
        cases r7
        refine ⟨b, rfl, ?_⟩
        cases b with
        | true => exact iteT (fin 0 st7 H7 t47 so7 h7)
        | false => exact iteF (q _ st7 _ H7 h7 (t3.trans t47) (.bl _) so7)
      | any =>
        cases d7 <;> first | exact h7.elim | skip
        rename_i b
        cases r7
        refine ⟨b, rfl, ?_⟩
        cases b with
        | true => exact iteT (q _ st7 _ H7 h7 (t3.trans t47) (.bl _) so7)
        | false => exact iteF (fin 0 st7 H7 t47 so7 h7)
      | sum =>
        cases d7 <;> first | exact h7.elim | skip
        rename_i b
        cases r7
        obtain ⟨⟨⟨f1, f2⟩, f3, f4⟩, h7⟩ := h7
        exact ⟨b, rfl, ⟨f1, f2⟩, ⟨f3, f4⟩, fin _ st7 H7 t47 so7 h7⟩
  · have ei : i = src.items.length := by omega
    subst ei
    rw [List.drop_length] at h3
    refine .inl ⟨it1.stop hs _ st H l3 (Nat.le_refl _), ?_⟩
    obtain ⟨_, h3⟩ := h3
    cases m with
    | all => exact q _ st _ H h3 t3 (.bl _) so3
    | any => exact q _ st _ H h3 t3 (.bl _) so3
    | sum => exact q _ st _ H h3 t3 (.int _) so3
end
end Fy

namespace Fy
open PySem PySem.Spec PyProof.Rows L2
variable [LamT]
section
variable {X : Cx} {B : BP} {C : Cl} {ES : XS} {a b c tg : Expr} {pos : Pos} {ia ib ic : IE}
/-! errors and calls -/
abbrev CT := Nat → Option Value
/-- the field that an own class of errors sets -/
def FldOk (K : PySem.W.Frag) (cls : Value) (f : Str) : Prop := ∀ (C fi : Addr) (oc : Value) (od : Option Addr) (fd : FuncData) (osl : Array (Option Value)) (f2 : Str) (p1 p2 : Pos), cls = .ref C → PySem.W.findIn K (.ref C) "__init__" = some (some (.ref fi)) → K.lookup fi = some ⟨oc, od, .func fd, osl⟩ → fd.params = ⟨[], [⟨"self", none, p1⟩, ⟨f2, none, p2⟩], none, [], [], none, []⟩ → f2 = f
def XRep (ct : CT) (K : KH) (st : Sto) (H : Hp) (x : Exc) (cls : Value) (d : Option Addr) : Prop := ct x.cls = some cls ∧ match x.arg with
  | none => d = none
  | some y => ∃ da f v, d = some da ∧ H da = some (.xd [(f, v)]) ∧ Rep K st H v y ∧ FldOk K.K cls f
def wx (ct : CT) (B : BP) (K : PySem.W.Frag) (ES : XS) : WX := fun cls d s H => ∃ hs z x st, SR B ⟨K, hs⟩ st H s z ∧ StoOk ⟨K, hs⟩ st H ∧ XRep ct ⟨K, hs⟩ st H x cls d ∧ ES x z st
def spOf (T : Addr → Prop) (ct : CT) (K : PySem.W.Frag) (C : Cl) (f np : Nat) : Sp := fun vs H Q EX => vs.length = np ∧ (∀ P, T P → Tb H P) ∧ ∃ hs ds st R EE, Reps ⟨K, hs⟩ st H vs ds ∧ StoOk ⟨K, hs⟩ st H ∧ C f ds st R EE ∧ QOk ⟨K, hs⟩ st H R Q ∧
  ∀ x st2 cls d H2, EE x st2 → Step ⟨K, hs⟩ st H st2 H2 → XRep ct ⟨K, hs⟩ st2 H2 x cls d → StoOk ⟨K, hs⟩ st2 H2 → EX cls d H2
theorem snd_call {ct : CT} {f : Nat} {x : Str} {fa : Addr} {fd : FuncData} {ps : List Str} {k : Nat} {p : Pos} {es : List Expr} {e : Expr} {ies : IEs}
    (F : FnOk X.prog X.w X.K X.mg X.base (L2.CX X.prog X.w) k fa fd ps (spOf B.T ct X.K C f ps.length)) (hr : Room k X.A) (hg : Gl X x) (hm : X.mg x = some (.ref fa)) (hk : PySem.W.keepIn X.K (.ref fa) = true) (hb : Binds X.K fd ps [])
    (tk : Takes X (wx ct B X.K ES)) (hd : (x == ("__debug__" : Str)) = false) (hn : (e :: es).all noStar = true) (ha : PA X (e :: es) (liftA B X.K ps.length (wpEs C ES ies))) : PE X (.Call (.Name x p) (e :: es) [] pos) (liftE B X.K (wpE C ES (.call f ies))) := by
  rw [List.all_cons, Bool.and_eq_true] at hn
  refine pe_imp (pe_callS F hr hg hm hk hb (fun s => passAt tk s) ha hd (star_cons hn.1) (any_back hn.2)) ?_
  rintro s H Q ⟨hs, z, st, R, sr, so, h, q⟩
  simp only [wpE] at h
  refine ⟨hs, z, st, _, sr, so, h, fun ds st1 vs H1 h1 n1 t1 r1 so1 => ⟨by rw [r1.length, n1], fun P hP => t1.tab P (B.tab sr.b P hP), hs, ds, st1, R, _, r1, so1, h1, QOk.step q t1, fun y st2 cls d H2 h2 t2 x2 so2 => ?_⟩⟩
  exact ⟨hs, z, y, st2, (sr.mono t1).mono t2, so2, x2, h2⟩
/-! statements -/
theorem snd_ex (ha : PE X a (liftE B X.K (wpE C ES ia))) (hs : swapsWith a none pos.line X.env = pure false) : PS X (.Expr a pos) (liftS B X.K (wpS C ES (.ex ia))) := by
  refine ps_imp (ps_expr ha hs) ?_
  rintro d s H ⟨hs, z, st, k, sr, so, h, q⟩
  simp only [wpS] at h
  exact ⟨hs, z, st, _, sr, so, h, fun x st1 v H1 h1 t1 r1 so1 => q.nx z st1 s H1 h1 t1 (sr.mono t1).r so1⟩
theorem asg_ok {t : Tg} {te : TE} (hte : ∀ s H Q, liftE B X.K (wpE C ES ia) s H Q → te s H Q) : ∀ d s H, liftS B X.K (wpS C ES (.set t ia)) d s H → tAsg te (liftG B X.K t) d s H := by
  rintro d s H ⟨hs, z, st, k, sr, so, h, q⟩
  simp only [wpS] at h
  refine hte _ _ _ ⟨hs, z, st, _, sr, so, h, fun x st1 v H1 h1 t1 r1 so1 => ⟨hs, z, st1, x, _, sr.mono t1, so1, r1, h1, fun z2 s2 h2 sr2 _ => ?_⟩⟩
  exact q.nx z2 st1 s2 H1 h2 t1 sr2.r so1
theorem snd_set {t : Tg} (ha : PE X a (liftE B X.K (wpE C ES ia))) (hg : PG X tg (liftG B X.K t)) (hn : noStar tg = true) (hs : swapsWith a (some tg) pos.line X.env = pure false) (hw : swappedStores [tg] a X.env = pure none) : PS X (.Assign [tg] a pos) (liftS B X.K (wpS C ES (.set t ia))) :=
  ps_imp (ps_asg ha hg hs hw (by rw [assign_star hn]; rfl)) (asg_ok fun _ _ _ h => h)
theorem snd_setLc {elt iter : Expr} {ifs : List Expr} {scope : Scope} {own : List (Str × Nat)} {t : Tg} {it : II} {ts : IEs} {el : IE} {i : Nat} {y : Str} {py p : Pos} (hc : X.calm = true) (hN : X.N.Nodup) (hy : X.N[i]? = some y) (hyl : X.env.scope.names.lookup y = some .local)
    (hsw : swapsWith (.ListComp elt [⟨tg, iter, ifs, 0⟩] scope p) (some (.Name y py)) pos.line X.env = pure true)
    (hi : PI X tg iter (liftI B X.K (wpI C ES it))) (ok : BlkOk X.N X.env.scope scope own)
    (hg : ∀ (s : Shared) (H : Hp) (p : Addr) (cl : List (Str × Addr)) (fp : List Addr), PG (X.blk s H scope (compEnvC scope cl p X.env) fp) tg (liftG (BT B.T) X.K t))
    (ht : ∀ (s : Shared) (H : Hp) (p : Addr) (cl : List (Str × Addr)) (fp : List Addr), PTs (X.blk s H scope (compEnvC scope cl p X.env) fp) ifs (liftT (BT B.T) X.K (wpTs C XF ts)))
    (he : ∀ (s : Shared) (H : Hp) (p : Addr) (cl : List (Str × Addr)) (fp : List Addr), PE (X.blk s H scope (compEnvC scope cl p X.env) fp) elt (liftE (BT B.T) X.K (wpE C XF el)))
    (hfs : ∀ x, foldedSetIterable iter X.env x = pure x) (ho : ∀ i ∈ t.slots, i ∈ own.map (·.2)) :
    PS X (.Assign [.Name y py] (.ListComp elt [⟨tg, iter, ifs, 0⟩] scope p) pos) (liftS B X.K (wpS C ES (.set (.nm i) (.lc (own.map (·.2)) t it ts el)))) := by
  refine ps_imp (ps_setLc hc hN hy hyl hsw hi ok hg ht he hfs) ?_
  rintro d s H ⟨hs, z, st, k, sr, so, h, q⟩
  simp only [wpS, asgP] at h
  refine snd_lc hc hN hi ok hg ht he hfs ho _ _ _ ⟨hs, z, st, _, sr, so, h, fun x st1 v H1 h1 t1 r1 so1 => ?_⟩
  exact q.nx _ st1 _ H1 h1 t1 ((sr.mono t1).set i r1).r so1
theorem snd_par {i j : Nat} {x y : Str} {px py pt pt2 : Pos} {kt k2 : Nat} (hc : X.calm = true) (hN : X.N.Nodup) (hi : X.N[i]? = some x) (hj : X.N[j]? = some y) (hij : i ≠ j)
    (hx : X.env.scope.names.lookup x = some .local) (hy : X.env.scope.names.lookup y = some .local) (na : noStar a = true) (nb : noStar b = true) (ha : PE X a (liftE B X.K (wpE C ES ia))) (hb : PE X b (liftE B X.K (wpE C ES ib)))
    (hw : swappedStores [.Tuple [.Name x px, .Name y py] kt pt] (.Tuple [a, b] k2 pt2) X.env = pure (some [x, y])) :
    PS X (.Assign [.Tuple [.Name x px, .Name y py] kt pt] (.Tuple [a, b] k2 pt2) pos) (liftS B X.K (wpS C ES (.par i j ia ib))) := by
  refine ps_imp (ps_par hc hN hi hj hij hx hy (snd_cons na ha (snd_cons nb hb snd_nil)) hw) ?_
  rintro d s H ⟨hs, z, st, k, sr, so, h, q⟩
  simp only [wpS] at h
  refine ⟨hs, z, st, fun ds st1 => ∃ x y, ds = [x, y] ∧ k.nx ((z.set i (some x)).set j (some y)) st1, sr, so, ?_, fun ds st1 vs H1 h1 n1 t1 r1 so1 => ?_⟩
  · simp only [wpEs]
    refine (congrArg (wpE C ES ia z st) ?_).mp h
    funext x st1
    refine congrArg (wpE C ES ib z st1) ?_
    funext y st2
    simp only [List.cons.injEq, and_true]
    exact propext ⟨fun h => ⟨x, y, ⟨rfl, rfl⟩, h⟩, fun ⟨d, e, ⟨h1, h2⟩, h⟩ => h1 ▸ h2 ▸ h⟩
  · obtain ⟨x, y, rfl, h1⟩ := h1
    cases r1 with
    | cons r1 rr =>
      cases rr with
      | cons r2 rr =>
        cases rr
        exact ⟨_, _, rfl, q.nx _ st1 _ H1 h1 t1 (((sr.mono t1).set i r1).set j r2).r so1⟩
theorem snd_par3 {i j l : Nat} {x y w : Str} {px py pw pt pt2 : Pos} {kt k2 : Nat} (hc : X.calm = true) (hN : X.N.Nodup) (hi : X.N[i]? = some x) (hj : X.N[j]? = some y) (hl : X.N[l]? = some w) (hij : i ≠ j) (hil : i ≠ l) (hjl : j ≠ l)
    (hx : X.env.scope.names.lookup x = some .local) (hy : X.env.scope.names.lookup y = some .local) (hw0 : X.env.scope.names.lookup w = some .local) (na : noStar a = true) (nb : noStar b = true) (nc : noStar c = true) (ha : PE X a (liftE B X.K (wpE C ES ia))) (hb : PE X b (liftE B X.K (wpE C ES ib))) (hcc : PE X c (liftE B X.K (wpE C ES ic)))
    (hw : swappedStores [.Tuple [.Name x px, .Name y py, .Name w pw] kt pt] (.Tuple [a, b, c] k2 pt2) X.env = pure (some [x, y, w])) :
    PS X (.Assign [.Tuple [.Name x px, .Name y py, .Name w pw] kt pt] (.Tuple [a, b, c] k2 pt2) pos) (liftS B X.K (wpS C ES (.par3 i j l ia ib ic))) := by
  refine ps_imp (ps_par3 hc hN hi hj hl hij hil hjl hx hy hw0 (snd_cons na ha (snd_cons nb hb (snd_cons nc hcc snd_nil))) hw) ?_
  rintro d s H ⟨hs, z, st, k, sr, so, h, q⟩
  simp only [wpS] at h
  refine ⟨hs, z, st, fun ds st1 => ∃ x y w, ds = [x, y, w] ∧ k.nx (((z.set i (some x)).set j (some y)).set l (some w)) st1, sr, so, ?_, fun ds st1 vs H1 h1 n1 t1 r1 so1 => ?_⟩
  · simp only [wpEs]
    refine (congrArg (wpE C ES ia z st) ?_).mp h
    funext x st1
    refine congrArg (wpE C ES ib z st1) ?_
    funext y st2
    refine congrArg (wpE C ES ic z st2) ?_
    funext w st3
    simp only [List.cons.injEq, and_true]
    exact propext ⟨fun h => ⟨x, y, w, ⟨rfl, rfl, rfl⟩, h⟩, fun ⟨d, e, f, ⟨h1, h2, h3⟩, h⟩ => h1 ▸ h2 ▸ h3 ▸ h⟩
  · obtain ⟨x, y, w, rfl, h1⟩ := h1
    cases r1 with
    | cons r1 rr =>
      cases rr with
      | cons r2 rr =>
        cases rr with
        | cons r3 rr =>
          cases rr
          exact ⟨_, _, _, rfl, q.nx _ st1 _ H1 h1 t1 ((((sr.mono t1).set i r1).set j r2).set l r3).r so1⟩
def noSlice : Expr → Bool
  | .Slice _ _ _ _ => false
  | _ => true
theorem plainIx {e : Expr} (h : noSlice e = true) : PlainIx e := fun o i => by
  cases e <;> first | rfl | cases h
theorem snd_setIx (ha : PE X a (liftE B X.K (wpE C ES ia))) (hb : PE X b (liftE B X.K (wpE C ES ib))) (hcc : PE X c (liftE B X.K (wpE C ES ic))) (hn : noSlice b = true) {p : Pos} (hs : swapsWith c (some (.Subscript a b p)) pos.line X.env = pure false) (hw : swappedStores [.Subscript a b p] c X.env = pure none) :
    PS X (.Assign [.Subscript a b p] c pos) (liftS B X.K (wpS C ES (.setIx ia ib ic))) := by
  refine ps_imp (ps_asg hcc (pg_sub ha hb set_list (fun v => by cases b <;> first | rfl | cases hn)) hs hw) ?_
  rintro d s H ⟨hs, z, st, k, sr, so, h, q⟩
  simp only [wpS] at h
  refine ⟨hs, z, st, _, sr, so, h, fun x st1 v H1 h1 t1 r1 so1 => ⟨hs, z, st1, _, sr.mono t1, so1, h1, fun x2 st2 v2 H2 h2 t2 r2 so2 => ⟨hs, z, st2, _, (sr.mono t1).mono t2, so2, h2, fun x3 st3 v3 H3 h3 t3 r3 so3 => ?_⟩⟩⟩
  have t13 := (t1.trans t2).trans t3
  cases x2 <;> cases x3 <;> first | exact h3.elim | skip
  obtain ⟨ds, j, e, hj, h3⟩ := h3
  cases r2
  cases r3
  obtain ⟨hz, xs, hx, r⟩ := so3.c _ _ e
  have r1' := r1.mono (t2.trans t3)
  obtain ⟨so4, t4⟩ := so3.setLst e (r.set r1' j) (by rw [List.length_set]; exact hz)
  exact ⟨_, xs, _, j, rfl, rfl, hx, by rw [r.length]; exact hj, q.nx z _ s _ h3 (t13.trans t4) (sr.mono (t13.trans t4)).r so4⟩
theorem iop_of {o : BOp} (ho : o ≠ .pow) : ∃ r, OpR X (inplaceOp (bopOf o)) r ∧ OpOk X (binI o) r := by
  cases o with
  | add => exact ⟨_, iop_add, opok_int0 fun x y st R h => by cases x <;> cases y <;> first | exact h.elim | exact ⟨_, _, rfl, rfl, h⟩⟩
  | sub => exact ⟨_, iop_sub, opok_int0 fun x y st R h => by cases x <;> cases y <;> first | exact h.elim | exact ⟨_, _, rfl, rfl, h⟩⟩
  | mul => exact ⟨_, iop_mul, opok_int fun x y st R h => by cases x <;> cases y <;> first | exact h.elim | exact ⟨_, _, rfl, rfl, h.1, h.2⟩⟩
  | fdiv => exact ⟨_, iop_fdiv, opok_int fun x y st R h => by cases x <;> cases y <;> first | exact h.elim | exact ⟨_, _, rfl, rfl, h.1, h.2⟩⟩
  | mod => exact ⟨_, iop_mod, opok_int fun x y st R h => by cases x <;> cases y <;> first | exact h.elim | exact ⟨_, _, rfl, rfl, h.1, h.2⟩⟩
  | pow => exact absurd rfl ho
theorem snd_aug {o : BOp} {i : Nat} {x : Str} {p : Pos} (ho : o ≠ .pow) (hN : X.N.Nodup) (hi : X.N[i]? = some x) (hx : Loc X.env.scope x) (hf : X.fn x = true ∨ X.env.scope.names.lookup x = some .local) (ha : PE X a (liftE B X.K (wpE C ES ia))) :
    PS X (.AugAssign (.Name x p) (bopOf o) a pos) (liftS B X.K (wpS C ES (.aug i o ia))) := by
  obtain ⟨r, h1, h2⟩ := iop_of (X := X) ho
  refine ps_imp (ps_aug hN hi hx ha (ti := r) h1 hf) ?_
  rintro d s H ⟨hs, z, st, k, sr, so, h, q⟩
  simp only [wpS, getP] at h
  split at h
  · rename_i y e
    obtain ⟨v, e1, r1⟩ := sr.r.2 i y e
    refine ⟨v, e1, hs, z, st, _, sr, so, h, fun x2 st2 v2 H2 h3 t2 r2 so2 => ?_⟩
    exact h2 hs y x2 st2 H2 _ _ v v2 h3 so2 (r1.mono t2) r2 fun x4 st4 v4 H4 h4 t4 r4 so4 => q.nx _ st4 _ H4 h4 (t2.trans t4) ((sr.mono (t2.trans t4)).set i r4).r so4
  · exact h.elim
theorem snd_ifs {s1 s2 : List Stmt} {i1 i2 : ISs} (hc : PT X c (liftT B X.K (wpT C ES ic))) (h1 : PSs X s1 (liftS B X.K (wpSs C ES i1))) (h2 : PSs X s2 (liftS B X.K (wpSs C ES i2))) : PS X (.If c s1 s2 pos) (liftS B X.K (wpS C ES (.ifs ic i1 i2))) := by
  refine ps_imp (ps_if hc h1 h2) ?_
  rintro d s H ⟨hs, z, st, k, sr, so, h, q⟩
  simp only [wpS] at h
  refine ⟨hs, z, st, _, sr, so, h, fun b st1 H1 h1 t1 so1 => ?_⟩
  cases b with
  | true => exact iteT ⟨hs, z, st1, k, sr.mono t1, so1, by simpa using h1, q.step t1⟩
  | false => exact iteF ⟨hs, z, st1, k, sr.mono t1, so1, by simpa using h1, q.step t1⟩
theorem snd_ret (ha : PE X a (liftE B X.K (wpE C ES ia))) : PS X (.Return (some a) pos) (liftS B X.K (wpS C ES (.ret ia))) := by
  refine ps_imp (ps_ret ha) ?_
  rintro d s H ⟨hs, z, st, k, sr, so, h, q⟩
  simp only [wpS] at h
  exact ⟨hs, z, st, _, sr, so, h, fun x st1 v H1 h1 t1 r1 so1 => q.rt x st1 v H1 h1 t1 r1 so1⟩
theorem snd_retN : PS X (.Return none pos) (liftS B X.K (wpS C ES .retN)) := by
  refine ps_imp ps_retN ?_
  rintro d s H ⟨hs, z, st, k, sr, so, h, q⟩
  exact q.rt .non st .non H (by simpa only [wpS] using h) .refl .non so
theorem snd_pass : PS X (.Pass pos) (liftS B X.K (wpS C ES .pass)) := by
  refine ps_imp ps_pass ?_
  rintro d s H ⟨hs, z, st, k, sr, so, h, q⟩
  exact q.nx z st s H (by simpa only [wpS] using h) .refl sr.r so
theorem snd_brk : PS X (.Break pos) (liftS B X.K (wpS C ES .brk)) := by
  refine ps_imp ps_break ?_
  rintro d s H ⟨hs, z, st, k, sr, so, h, q⟩
  exact q.bk z st s H (by simpa only [wpS] using h) .refl sr.r so
theorem snd_cont : PS X (.Continue pos) (liftS B X.K (wpS C ES .cont)) := by
  refine ps_imp ps_continue ?_
  rintro d s H ⟨hs, z, st, k, sr, so, h, q⟩
  exact q.ct z st s H (by simpa only [wpS] using h) .refl sr.r so
theorem snd_snil : PSs X [] (liftS B X.K (wpSs C ES .nil)) := by
  refine pss_imp pss_nil ?_
  rintro d s H ⟨hs, z, st, k, sr, so, h, q⟩
  exact q.nx z st s H (by simpa only [wpSs] using h) .refl sr.r so
theorem snd_scons {s1 : Stmt} {s2 : List Stmt} {i1 : IS} {i2 : ISs} (h1 : PS X s1 (liftS B X.K (wpS C ES i1))) (h2 : PSs X s2 (liftS B X.K (wpSs C ES i2))) : PSs X (s1 :: s2) (liftS B X.K (wpSs C ES (.cons i1 i2))) := by
  refine pss_imp (pss_cons h1 h2) ?_
  rintro d s H ⟨hs, z, st, k, sr, so, h, q⟩
  simp only [wpSs] at h
  exact ⟨hs, z, st, _, sr, so, h, ⟨fun z2 st2 s2 H2 h2 t2 sr2 so2 => ⟨hs, z2, st2, k, sr.at t2 sr2, so2, h2, q.step t2⟩, q.rt, q.bk, q.ct⟩⟩
/-- a list that is left as it is from now on -/
theorem snd_gh {i : Nat} {s2 : List Stmt} {i2 : ISs} (h2 : PSs X s2 (liftS B X.K (wpSs C ES i2))) : PSs X s2 (liftS B X.K (wpSs C ES (.cons (.gh i) i2))) := by
  refine pss_imp h2 ?_
  rintro d s H ⟨hs, z, st, k, sr, so, h, q⟩
  simp only [wpSs, wpS, getP] at h
  split at h
  · rename_i y e
    cases y <;> first | exact h.elim | skip
    rename_i p
    obtain ⟨ds, e1, h⟩ := h
    obtain ⟨hz, xs, hx, r⟩ := so.c p _ e1
    have t : Step ⟨X.K, hs⟩ st H (del st p) H := .sub Sub.del
    obtain ⟨v, e2, rv⟩ := sr.r.2 i _ e
    cases rv
    have r2 : Rep ⟨X.K, hs⟩ (del st p) H (.ref p) (.fl ds) := .fl ⟨hx, del_same, so.nohs2 e1⟩ (r.mono t) hz
    refine ⟨hs, z.set i (some (.fl ds)), del st p, k, ⟨?_, B.step sr.b t⟩, so.sub Sub.del, h, q.step t⟩
    have m := sr.r.mono t
    refine ⟨by rw [List.length_set]; exact m.1, fun j x ex => ?_⟩
    by_cases c : i = j
    · subst c
      have hl : i < z.length := by
        obtain ⟨hl, _⟩ := List.getElem?_eq_some_iff.mp e
        exact hl
      rw [List.getElem?_set_self hl] at ex
      cases ex
      exact ⟨_, e2, r2⟩
    · rw [List.getElem?_set_ne c] at ex
      exact m.2 j x ex
  · exact h.elim
/-! loops -/
theorem forL_ok {body : DSt → Sto → DEnds → Prop} {t : Tg} {src : Src} {ds : List D} {s : DSt} {st : Sto} {k : DEnds} (h : forL body t src ds s st k) : src.ok st := by
  cases ds with
  | nil => exact h.1
  | cons d r => exact h.1
theorem snd_for {iter : Expr} {body : List Stmt} {t : Tg} {it : II} {ib : ISs} (hp : PassesOwn (model X.prog X.w) X.A X.env X.xe) (hc : X.calm = true) (hi : PI X tg iter (liftI B X.K (wpI C ES it))) (hg : PG X tg (liftG B X.K t)) (hb : PSs X body (liftS B X.K (wpSs C ES ib)))
    (hs : ∀ x, foldedSetIterable iter X.env x = pure x) : PS X (.For tg iter body [] pos) (liftS B X.K (wpS C ES (.fr t it ib))) := by
  refine ps_imp (ps_for hp hc hi hg hb hs) ?_
  rintro d s H0 ⟨hs, z, st0, k, sr, so, h, q⟩
  simp only [wpS] at h
  refine ⟨hs, z, st0, _, sr, so, h, fun src st1 H1 J L h1 t1 so1 it1 l1 hz => ?_⟩
  let Wb : Nat → L2.St → Hp → Prop := fun i s H => i ≤ src.items.length ∧ ∃ z st, SR B ⟨X.K, hs⟩ st H s z ∧ StoOk ⟨X.K, hs⟩ st H ∧ Step ⟨X.K, hs⟩ st0 H0 st H ∧ L hs st H ∧ forL (fun s st K => wpSs C ES ib s st K) t src (src.items.drop i) z st k
  refine ⟨fun i m s H => m = src.items.length - i ∧ Wb i s H, ⟨_, rfl, Nat.zero_le _, z, st1, sr.mono t1, so1, t1, l1, h1⟩, ?_⟩
  rintro i m s H ⟨rfl, hi, z, st, sr2, so2, t2, l2, h2⟩
  by_cases e : i < src.items.length
  · refine .inr ⟨it1.go hs i st H l2 e, fun s H => Wb (i + 1) s H, fun s' H' w => ⟨src.items.length - (i + 1), by omega, rfl, w⟩, fun x H3 y => ?_⟩
    obtain ⟨t3, so3, d3, ed, rd⟩ := it1.yld hs i st H x H3 l2 so2 e y
    have ed' : src.items.drop i = d3 :: src.items.drop (i + 1) := by
      rw [List.drop_eq_getElem_cons e]
      have := List.getElem?_eq_getElem e
      rw [ed] at this
      rw [Option.some.inj this]
    rw [ed'] at h2
    obtain ⟨_, h2⟩ := h2
    have fin : ∀ z4 st4 s4 H4, forL (fun s st K => wpSs C ES ib s st K) t src (src.items.drop (i + 1)) z4 st4 k → Step ⟨X.K, hs⟩ st H3 st4 H4 → SRep ⟨X.K, hs⟩ st4 H4 s4 z4 → StoOk ⟨X.K, hs⟩ st4 H4 → Wb (i + 1) s4 H4 :=
      fun z4 st4 s4 H4 h4 t4 sr4 so4 => ⟨e, z4, st4, sr2.at (t3.trans t4) sr4, so4, (t2.trans t3).trans t4, it1.step _ _ _ _ _ _ l2 (t3.trans t4).rst so4 (forL_ok h4), h4⟩
    refine ⟨hs, z, st, d3, _, sr2.mono t3, so3, rd, h2, fun z2 s2 h3 sr3 _ => ⟨hs, z2, st, _, sr3, so3, h3, ⟨fin, ?_, ?_, fin⟩⟩⟩
    · exact fun x st5 v H5 h5 t5 r5 so5 => q.rt x st5 v H5 h5 ((t2.trans t3).trans t5) r5 so5
    · exact fun z5 st5 s5 H5 h5 t5 sr5 so5 => q.nx z5 st5 s5 H5 h5 ((t2.trans t3).trans t5) sr5 so5
  · have ei : i = src.items.length := by omega
    subst ei
    rw [List.drop_length] at h2
    exact .inl ⟨it1.stop hs _ st H l2 (Nat.le_refl _), q.nx z st s H h2.2 t2 sr2.r so2⟩
theorem snd_whl {body : List Stmt} {ib : ISs} (hp : PassesOwn (model X.prog X.w) X.A X.env X.xe) (hc : PT X c (liftT B X.K (wpT C ES ic))) (hb : PSs X body (liftS B X.K (wpSs C ES ib))) : PS X (.While c body [] pos) (liftS B X.K (wpS C ES (.whl ic ib))) := by
  refine ps_imp (ps_while hp hc hb) ?_
  rintro d s H0 ⟨hs, z, st0, k, sr, so, h, q⟩
  simp only [wpS] at h
  obtain ⟨n, h⟩ := h
  let Wb : Nat → L2.St → Hp → Prop := fun m s H => ∃ z st, SR B ⟨X.K, hs⟩ st H s z ∧ StoOk ⟨X.K, hs⟩ st H ∧ Step ⟨X.K, hs⟩ st0 H0 st H ∧ whN (wpT C ES ic) (fun s st K => wpSs C ES ib s st K) m z st k
  refine ⟨Wb, ⟨n, z, st0, sr, so, .refl, h⟩, ?_⟩
  rintro m s H ⟨z, st, sr2, so2, t2, h2⟩
  cases m with
  | zero => exact h2.elim
  | succ m =>
    refine ⟨hs, z, st, _, sr2, so2, h2, fun b st3 H3 h3 t3 so3 => ?_⟩
    cases b with
    | false => exact iteF (q.nx z st3 s H3 (by simpa using h3) (t2.trans t3) (sr2.mono t3).r so3)
    | true =>
      have fin : ∀ z4 st4 s4 H4, whN (wpT C ES ic) (fun s st K => wpSs C ES ib s st K) m z4 st4 k → Step ⟨X.K, hs⟩ st3 H3 st4 H4 → SRep ⟨X.K, hs⟩ st4 H4 s4 z4 → StoOk ⟨X.K, hs⟩ st4 H4 → Wb m s4 H4 :=
        fun z4 st4 s4 H4 h4 t4 sr4 so4 => ⟨z4, st4, sr2.at (t3.trans t4) sr4, so4, (t2.trans t3).trans t4, h4⟩
      refine iteT ⟨fun s H => Wb m s H, fun s' H' w => ⟨m, Nat.lt_succ_self m, w⟩, hs, z, st3, _, sr2.mono t3, so3, (by simpa using h3), ⟨fin, ?_, ?_, fin⟩⟩
      · exact fun x st5 v H5 h5 t5 r5 so5 => q.rt x st5 v H5 h5 ((t2.trans t3).trans t5) r5 so5
      · exact fun z5 st5 s5 H5 h5 t5 sr5 so5 => q.nx z5 st5 s5 H5 h5 ((t2.trans t3).trans t5) sr5 so5
/-! raise, try -/
theorem snd_rs0 {ct : CT} {n : Nat} {cl : Addr} {x m : Str} {j : Nat} {p p2 p3 : Pos} (hc : X.calm = true) (tk : Takes X (wx ct B X.K ES)) (hct : ct n = some (.ref cl)) (q : PySem.W.excIn X.K cl HandSPX.veTail "ValueError.__new__" = true) (gC : X.mg x = some (.ref cl)) (kC : PySem.W.keepIn X.K (.ref cl) = true) (r : Raises X (.ref cl)) (hg : Gl X x)
    (hdb : (x == ("__debug__" : Str)) = false) : PS X (.Raise (some (.Call (.Name x p) [.Constant (.str m) j p2] [] p3)) none pos) (liftS B X.K (wpS C ES (.rs n .nil))) := by
  refine ps_imp (ps_raise hc tk (pmk_own PySem.F.excBase_ValueError q gC kC r hg hdb)) ?_
  rintro d s H ⟨hs, z, st, k, sr, so, h, _⟩
  simp only [wpS, wpEs] at h
  exact ⟨hs, z, _, st, sr, so, ⟨hct, rfl⟩, h⟩
/-- since the start of a try -/
def BTry (B : BP) (K : KH) (st : Sto) (H : Hp) : BP := ⟨fun K2 st2 H2 => B.p K2 st2 H2 ∧ K2 = K ∧ Step K st H st2 H2, fun h t => ⟨B.step h.1 t, h.2.1, by
  obtain ⟨_, rfl, h⟩ := h
  exact h.trans t⟩, B.T, fun h => B.tab h.1⟩
def tbOf (ct : CT) (B : BP) (K : PySem.W.Frag) (C : Cl) (ib : ISs) (W : WX) : TS := fun D s H => ∃ (B2 : BP) (ES2 : XS), B2.T = B.T ∧ (∀ cls d s H, wx ct B2 K ES2 cls d s H → W cls d s H) ∧ liftS B2 K (wpSs C ES2 ib) D s H
theorem EndsOk.plain {K : KH} {st : Sto} {H : Hp} {k : DEnds} {d : Ends} (e : EndsOk K st H k d) : EndsOk K st H (k.unset none) d := e
/-- the clauses: their classes' values, their suites -/
def hlist (ct : CT) (B : BP) (K : PySem.W.Frag) (C : Cl) : IHs → List (Value × (Addr → Value → Option Addr → TS))
  | .nil => []
  | .cons c _ _ b r => ((ct c).getD .none, fun _ _ _ => liftS B K (wpSs C XF b)) :: hlist ct B K C r
  | .cx _ _ _ _ _ _ _ => []
/-- without names; what each takes is told -/
def hoks (ct : CT) (K : PySem.W.Frag) (n : Nat) (cls : Value) : IHs → Prop
  | .nil => True
  | .cons c cs i _ r => i = none ∧ (∃ cv, ct c = some cv ∧ PySem.W.exmOne K cls cv = some (cs.contains n)) ∧ hoks ct K n cls r
  | .cx _ _ _ _ _ _ _ => False
theorem hmany {ct : CT} {K : PySem.W.Frag} {D : Ends} {k : DEnds} {hs : Addr → Prop} {z : DSt} {st : Sto} {s : L2.St} {H : Hp} {x : Exc} {cls : Value} {d : Option Addr} (sr : SR B ⟨K, hs⟩ st H s z) (so : StoOk ⟨K, hs⟩ st H) (xr : XRep ct ⟨K, hs⟩ st H x cls d) (ek : EndsOk ⟨K, hs⟩ st H k D) :
    ∀ (h : IHs), hoks ct K x.cls cls h → wpH C ES h x z st k → wMany K (wx ct B K ES) D (hlist ct B K C h) cls d s H
  | .nil, _, q => by
    simp only [wpH] at q
    exact ⟨hs, z, x, st, sr, so, xr, q⟩
  | .cons c cs i b r, hk, q => by
    obtain ⟨rfl, ⟨cv, h1, h2⟩, h3⟩ := hk
    simp only [wpH] at q
    refine ⟨cs.contains x.cls, by rw [h1]; exact h2, fun e a ha => ?_, fun e => ?_⟩
    · rw [if_pos e] at q
      exact ⟨hs, z, st, _, sr, so, q, ek.plain⟩
    · rw [if_neg (by rw [e]; exact Bool.false_ne_true)] at q
      exact hmany sr so xr ek r h3 q
  | .cx _ _ _ _ _ _ _, hk, _ => hk.elim
theorem snd_try {ct : CT} {body : List Stmt} {h₀ : ExceptHandler} {hds : List ExceptHandler} {ib : ISs} {ih : IHs} (hst : X.stack = X.env :: X.outer) (hf : X.env.frame = some X.env.locals) (tk : Takes X (wx ct B X.K ES))
    (hb : ∀ (B2 : BP) (ES2 : XS) (pn : List (Addr × Obj)) (xe : Value → Shared → Prop), B2.T = B.T → Takes (X.tr pn xe) (wx ct B2 X.K ES2) → PassesOwn (model X.prog X.w) X.A X.env xe → PSs (X.tr pn xe) body (liftS B2 X.K (wpSs C ES2 ib)))
    (hh : HdsOk X (h₀ :: hds) (hlist ct B X.K C ih)) (ho : ∀ n cls, ct n = some cls → hoks ct X.K n cls ih) : PS X (.Try body (h₀ :: hds) [] [] pos) (liftS B X.K (wpS C ES (.tr ib ih))) := by
  refine ps_imp (ps_try_many (tb := tbOf ct B X.K C ib) hst hf tk (fun W pn xe tkW pas => ⟨fun pins s z H D I q => ?_⟩) hh) ?_
  · obtain ⟨B2, ES2, eT, hw, q⟩ := q
    exact (hb B2 ES2 pn xe eT (tkW.imp hw) pas).run pins s z H D I q
  · rintro D s H ⟨hs, z, st, k, sr, so, h, q⟩
    simp only [wpS] at h
    refine ⟨BTry B ⟨X.K, hs⟩ st H, fun x s2 st2 => wpH C ES ih x s2 st2 k, rfl, ?_, hs, z, st, k, ⟨sr.r, sr.b, rfl, .refl⟩, so, h, q⟩
    rintro cls d s2 H2 ⟨hs2, z2, x, st2, sr2, so2, xr, hx⟩
    obtain ⟨b2, e2, t2⟩ := sr2.b
    cases e2
    exact hmany ⟨sr2.r, b2⟩ so2 xr (q.step t2) ih (ho _ _ xr.1) hx
theorem SRep.cover {K : KH} {st : Sto} {H : Hp} {s : L2.St} {z : DSt} {v : Option V} (i : Nat) (h : SRep K st H s z) : SRep K st H (s.set i v) (z.set i none) := by
  refine ⟨by rw [List.length_set, List.length_set]; exact h.1, fun j x e => ?_⟩
  by_cases q : i = j
  · subst q
    by_cases hl : i < z.length
    · rw [List.getElem?_set_self hl] at e
      cases e
    · rw [List.getElem?_eq_none (by simpa using hl)] at e
      cases e
  · rw [List.getElem?_set_ne q] at e ⊢
    exact h.2 j x e
/-- one clause with a name -/
theorem snd_try1 {ct : CT} {body suite : List Stmt} {b₀ : Stmt} {x n : Str} {i c : Nat} {cs : List Nat} {cv : Value} {np p2 : Pos} {ib ih : ISs} (hst : X.stack = X.env :: X.outer) (hf : X.env.frame = some X.env.locals) (hN : X.N.Nodup) (hi : X.N[i]? = some n) (hln : X.env.kindOf n = some .local) (hcl : Names X x cv) (tk : Takes X (wx ct B X.K ES))
    (hb : ∀ (B2 : BP) (ES2 : XS) (pn : List (Addr × Obj)) (xe : Value → Shared → Prop), B2.T = B.T → Takes (X.tr pn xe) (wx ct B2 X.K ES2) → PassesOwn (model X.prog X.w) X.A X.env xe → PSs (X.tr pn xe) body (liftS B2 X.K (wpSs C ES2 ib)))
    (hsu : ∀ (a : Addr) (oe : Obj) (pn : List (Addr × Obj)), PSs (X.suite a ((a, oe) :: pn)) (b₀ :: suite) (liftS B X.K (wpSs C XF ih)))
    (ho : ∀ n cls, ct n = some cls → PySem.W.exmOne X.K cls cv = some (cs.contains n)) : PS X (.Try body [.ExceptHandler (some (.Name x np)) (some n) (b₀ :: suite) p2] [] [] pos) (liftS B X.K (wpS C ES (.tr ib (.cons c cs (some i) ih .nil)))) := by
  refine ps_imp (ps_try_as (tb := tbOf ct B X.K C ib) (ts := fun _ _ _ => liftS B X.K (wpSs C XF ih)) hst hf hN hi hln hcl tk (fun W pn xe tkW pas => ⟨fun pins s z H D I q => ?_⟩) (fun a oe _ _ pn _ _ => hsu a oe pn)) ?_
  · obtain ⟨B2, ES2, eT, hw, q⟩ := q
    exact (hb B2 ES2 pn xe eT (tkW.imp hw) pas).run pins s z H D I q
  · rintro D s H ⟨hs, z, st, k, sr, so, h, q⟩
    simp only [wpS] at h
    refine ⟨BTry B ⟨X.K, hs⟩ st H, fun x s2 st2 => wpH C ES (.cons c cs (some i) ih .nil) x s2 st2 k, rfl, ?_, hs, z, st, k, ⟨sr.r, sr.b, rfl, .refl⟩, so, h, q⟩
    rintro cls d s2 H2 ⟨hs2, z2, x, st2, sr2, so2, xr, hx⟩
    obtain ⟨b2, e2, t2⟩ := sr2.b
    cases e2
    simp only [wpH] at hx
    have q2 := q.step t2
    refine ⟨cs.contains x.cls, ho _ _ xr.1, fun e a ha => ?_, fun e => ?_⟩
    · rw [if_pos e] at hx
      refine ⟨hs, z2.set i none, st2, _, ⟨sr2.r.cover i, b2⟩, so2, hx, ⟨fun z3 st3 s3 H3 h3 t3 sr3 so3 => ?_, q2.rt, fun z3 st3 s3 H3 h3 t3 sr3 so3 => ?_, fun z3 st3 s3 H3 h3 t3 sr3 so3 => ?_⟩⟩
      · exact q2.nx _ st3 _ H3 h3 t3 (sr3.unset i) so3
      · exact q2.bk _ st3 _ H3 h3 t3 (sr3.unset i) so3
      · exact q2.ct _ st3 _ H3 h3 t3 (sr3.unset i) so3
    · rw [if_neg (by rw [e]; exact Bool.false_ne_true)] at hx
      exact ⟨hs, z2, x, st2, ⟨sr2.r, b2⟩, so2, xr, hx⟩
/-- one clause with a name, whose suite reads e.f -/
theorem snd_tryG {ct : CT} {body suite : List Stmt} {b₀ : Stmt} {x n f : Str} {i c m : Nat} {t : Str} {bi : IE} {cs : List Nat} {cl : Addr} {np p2 : Pos} {ib : ISs} (ts : Addr → Value → Option Addr → TS) (hst : X.stack = X.env :: X.outer) (hf : X.env.frame = some X.env.locals) (hN : X.N.Nodup) (hi : X.N[i]? = some n) (hln : X.env.kindOf n = some .local) (hcl : Names X x (.ref cl)) (tk : Takes X (wx ct B X.K ES))
    (hb : ∀ (B2 : BP) (ES2 : XS) (pn : List (Addr × Obj)) (xe : Value → Shared → Prop), B2.T = B.T → Takes (X.tr pn xe) (wx ct B2 X.K ES2) → PassesOwn (model X.prog X.w) X.A X.env xe → PSs (X.tr pn xe) body (liftS B2 X.K (wpSs C ES2 ib)))
    (hsu : ∀ (a : Addr) (oe : Obj) (cls : Value) (d : Option Addr) (pn : List (Addr × Obj)), L2.Zc cls d oe → (∃ vs, oe.data = .fields vs) → PSs (X.suite a ((a, oe) :: pn)) (b₀ :: suite) (ts a cls d))
    (hx : ∀ (DE : Ends) (hs : Addr → Prop) (k : DEnds) (z : DSt) (st : Sto) (s : L2.St) (H : Hp) (a da : Addr) (y : D) (v : V), i < s.length → SR B ⟨X.K, hs⟩ st H s z → StoOk ⟨X.K, hs⟩ st H → (∀ x st2 v H2, k.rt x st2 → Step ⟨X.K, hs⟩ st H st2 H2 → Rep ⟨X.K, hs⟩ st2 H2 v x → StoOk ⟨X.K, hs⟩ st2 H2 → DE.rt v H2) → H da = some (.xd [(f, v)]) → Rep ⟨X.K, hs⟩ st H v y →
      (match m with
      | 0 => k.rt (.tup [.str t, y]) st
      | 1 => k.rt y st
      | _ => cmpP .le (.int 0) y st fun r st1 => match r with
        | .bl true => wpE C XF bi (unsetO z (some i)) st1 fun w st2 => cmpP .le y w st2 k.rt
        | .bl false => k.rt (.bl false) st1
        | _ => False) → ts a (.ref cl) (some da) DE (s.set i (some (.ref a))) H)
    (hfl : ∀ g, FldOk X.K (.ref cl) g → g = f) (hcs : ∀ n cls, ct n = some cls → cs.contains n = true → cls = .ref cl)
    (ho : ∀ n cls, ct n = some cls → PySem.W.exmOne X.K cls (.ref cl) = some (cs.contains n)) : PS X (.Try body [.ExceptHandler (some (.Name x np)) (some n) (b₀ :: suite) p2] [] [] pos) (liftS B X.K (wpS C ES (.tr ib (.cx c cs i m t f bi)))) := by
  refine ps_imp (ps_try_as (tb := tbOf ct B X.K C ib) (ts := fun a cls d D s H => i < s.length → ts a cls d D s H) hst hf hN hi hln hcl tk (fun W pn xe tkW pas => ⟨fun pins s z H D I q => ?_⟩) (fun a oe cls d pn hz hfd => ⟨fun pins s σ H D I q => (hsu a oe cls d pn hz hfd).run pins s σ H D I (q ?_)⟩)) ?_
  · obtain ⟨B2, ES2, eT, hw, q⟩ := q
    exact (hb B2 ES2 pn xe eT (tkW.imp hw) pas).run pins s z H D I q
  · have l1 := I.len
    have l2 := (List.getElem?_eq_some_iff.mp hi).1
    have l3 : (X.suite a ((a, oe) :: pn)).N.length = X.N.length := rfl
    omega
  · rintro D s H ⟨hs, z, st, k, sr, so, h, q⟩
    simp only [wpS] at h
    refine ⟨BTry B ⟨X.K, hs⟩ st H, fun x s2 st2 => wpH C ES (.cx c cs i m t f bi) x s2 st2 k, rfl, ?_, hs, z, st, k, ⟨sr.r, sr.b, rfl, .refl⟩, so, h, q⟩
    rintro cls d s2 H2 ⟨hs2, z2, x, st2, sr2, so2, xr, hx2⟩
    obtain ⟨b2, e2, t2⟩ := sr2.b
    cases e2
    simp only [wpH] at hx2
    have q2 := q.step t2
    refine ⟨cs.contains x.cls, ho _ _ xr.1, fun e a ha => ?_, fun e => ?_⟩
    · rw [if_pos e] at hx2
      obtain ⟨y, ey, hx2⟩ := hx2
      obtain ⟨xc, xr⟩ := xr
      rw [ey] at xr
      obtain ⟨da, fl, v, h1, h2, h3, h4⟩ := xr
      have ec := hcs _ _ xc e
      subst ec
      obtain rfl := hfl fl h4
      subst h1
      exact fun hl => hx _ hs k z2 st2 s2 H2 a da y v (by rw [List.length_set] at hl; exact hl) ⟨sr2.r, b2⟩ so2 q2.rt h2 h3 hx2
    · rw [if_neg (by rw [e]; exact Bool.false_ne_true)] at hx2
      exact ⟨hs, z2, x, st2, ⟨sr2.r, b2⟩, so2, xr, hx2⟩
/-- e.f read: the field of what was caught -/
theorem xf_run {a cl da : Addr} {f : Str} {i : Nat} {s : L2.St} {H : Hp} {v : V} {Q : VK} (hl : i < s.length) (hd : H da = some (.xd [(f, v)])) (q : Q v H) : L2.tXf a (.ref cl) (some da) cl f (tVar i) (s.set i (some (.ref a))) H Q :=
  ⟨_, List.getElem?_set_self hl, rfl, rfl, da, [(f, v)], v, rfl, hd, by simp [List.lookup], q⟩
theorem snd_tryx {ct : CT} {body : List Stmt} {x n t f : Str} {i c j kk : Nat} {cs : List Nat} {cl : Addr} {np p2 pc pn1 pa pt pr : Pos} {ib : ISs} {bi : IE} (hst : X.stack = X.env :: X.outer) (hf : X.env.frame = some X.env.locals) (hN : X.N.Nodup) (hi : X.N[i]? = some n) (hln : X.env.kindOf n = some .local) (hcl : Names X x (.ref cl)) (tk : Takes X (wx ct B X.K ES))
    (hb : ∀ (B2 : BP) (ES2 : XS) (pn : List (Addr × Obj)) (xe : Value → Shared → Prop), B2.T = B.T → Takes (X.tr pn xe) (wx ct B2 X.K ES2) → PassesOwn (model X.prog X.w) X.A X.env xe → PSs (X.tr pn xe) body (liftS B2 X.K (wpSs C ES2 ib)))
    (hv : Vis X.env.scope n) (hdb : (n == ("__debug__" : Str)) = false) (hcd : (n == ("__classdict__" : Str)) = false) (T : L2.XfC X.K cl) (hno : PySem.W.findIn X.K (.ref cl) f = some none) (hfl : ∀ g, FldOk X.K (.ref cl) g → g = f)
    (hcs : ∀ n cls, ct n = some cls → cs.contains n = true → cls = .ref cl)
    (ho : ∀ n cls, ct n = some cls → PySem.W.exmOne X.K cls (.ref cl) = some (cs.contains n)) : PS X (.Try body [.ExceptHandler (some (.Name x np)) (some n) [.Return (some (.Tuple [.Constant (.str t) j pc, .Attribute (.Name n pn1) f pa] kk pt)) pr] p2] [] [] pos) (liftS B X.K (wpS C ES (.tr ib (.cx c cs i 0 t f bi)))) := by
  refine snd_tryG (fun a cls d => tSeq (tRet (tTup (tCons (tC (.str t)) (tCons (L2.tXf a cls d cl f (tVar i)) tNil)))) tNext) hst hf hN hi hln hcl tk hb (fun a oe cls d pn hz hfd => ?_) (fun D hs k z st s H a da y v hl sr so q hd r hx => ?_) hfl hcs ho
  · exact pss_cons (ps_ret (pe_tup (pa_cons pe_str (pa_cons (pe_xf (cls := cls) (d := d) T hno hz hfd (pe_var (X := X.suite a ((a, oe) :: pn)) hi hv hdb hcd)) pa_nil)))) pss_nil
  · exact xf_run hl hd ⟨by show 2 ≤ sizeLine; decide, fun p hp => q _ st _ _ hx (.new hp) (.tup upd_same (.cons (.str t) (.cons (r.mono (.new hp)) .nil)) (by show 2 ≤ sizeLine; decide)) (so.new hp)⟩
/-- return e.f -/
theorem snd_tryx1 {ct : CT} {body : List Stmt} {x n t f : Str} {i c : Nat} {cs : List Nat} {cl : Addr} {np p2 pn1 pa pr : Pos} {ib : ISs} {bi : IE} (hst : X.stack = X.env :: X.outer) (hf : X.env.frame = some X.env.locals) (hN : X.N.Nodup) (hi : X.N[i]? = some n) (hln : X.env.kindOf n = some .local) (hcl : Names X x (.ref cl)) (tk : Takes X (wx ct B X.K ES))
    (hb : ∀ (B2 : BP) (ES2 : XS) (pn : List (Addr × Obj)) (xe : Value → Shared → Prop), B2.T = B.T → Takes (X.tr pn xe) (wx ct B2 X.K ES2) → PassesOwn (model X.prog X.w) X.A X.env xe → PSs (X.tr pn xe) body (liftS B2 X.K (wpSs C ES2 ib)))
    (hv : Vis X.env.scope n) (hdb : (n == ("__debug__" : Str)) = false) (hcd : (n == ("__classdict__" : Str)) = false) (T : L2.XfC X.K cl) (hno : PySem.W.findIn X.K (.ref cl) f = some none) (hfl : ∀ g, FldOk X.K (.ref cl) g → g = f)
    (hcs : ∀ n cls, ct n = some cls → cs.contains n = true → cls = .ref cl)
    (ho : ∀ n cls, ct n = some cls → PySem.W.exmOne X.K cls (.ref cl) = some (cs.contains n)) : PS X (.Try body [.ExceptHandler (some (.Name x np)) (some n) [.Return (some (.Attribute (.Name n pn1) f pa)) pr] p2] [] [] pos) (liftS B X.K (wpS C ES (.tr ib (.cx c cs i 1 t f bi)))) := by
  refine snd_tryG (fun a cls d => tSeq (tRet (L2.tXf a cls d cl f (tVar i))) tNext) hst hf hN hi hln hcl tk hb (fun a oe cls d pn hz hfd => ?_) (fun D hs k z st s H a da y v hl sr so q hd r hx => ?_) hfl hcs ho
  · exact pss_cons (ps_ret (pe_xf (cls := cls) (d := d) T hno hz hfd (pe_var (X := X.suite a ((a, oe) :: pn)) hi hv hdb hcd))) pss_nil
  · exact xf_run hl hd (q _ st _ _ hx .refl r so)
/-- return 0 <= e.f <= b -/
theorem snd_tryx2 {ct : CT} {body : List Stmt} {b : Expr} {x n t f : Str} {i c j : Nat} {cs : List Nat} {cl : Addr} {np p2 pc pn1 pa pt pr : Pos} {ib : ISs} {bi : IE} {r1 : R2} (hst : X.stack = X.env :: X.outer) (hf : X.env.frame = some X.env.locals) (hN : X.N.Nodup) (hi : X.N[i]? = some n) (hln : X.env.kindOf n = some .local) (hcl : Names X x (.ref cl)) (tk : Takes X (wx ct B X.K ES))
    (hb : ∀ (B2 : BP) (ES2 : XS) (pn : List (Addr × Obj)) (xe : Value → Shared → Prop), B2.T = B.T → Takes (X.tr pn xe) (wx ct B2 X.K ES2) → PassesOwn (model X.prog X.w) X.A X.env xe → PSs (X.tr pn xe) body (liftS B2 X.K (wpSs C ES2 ib)))
    (hbe : ∀ a oe pn, PE (X.suite a ((a, oe) :: pn)) b (liftE B X.K (wpE C XF bi))) (hle : ∀ a oe pn, OpR (X.suite a ((a, oe) :: pn)) (compareOp .LtE) r1) (hle2 : ∀ a oe pn, OpOk (X.suite a ((a, oe) :: pn)) (cmpP .le) r1) (hm : lastMarks [.LtE, .LtE] [.Attribute (.Name n pn1) f pa, b] = false)
    (hv : Vis X.env.scope n) (hdb : (n == ("__debug__" : Str)) = false) (hcd : (n == ("__classdict__" : Str)) = false) (T : L2.XfC X.K cl) (hno : PySem.W.findIn X.K (.ref cl) f = some none) (hfl : ∀ g, FldOk X.K (.ref cl) g → g = f)
    (hcs : ∀ n cls, ct n = some cls → cs.contains n = true → cls = .ref cl)
    (ho : ∀ n cls, ct n = some cls → PySem.W.exmOne X.K cls (.ref cl) = some (cs.contains n)) : PS X (.Try body [.ExceptHandler (some (.Name x np)) (some n) [.Return (some (.Compare (.Constant (.int 0) j pc) [.LtE, .LtE] [.Attribute (.Name n pn1) f pa, b] pt)) pr] p2] [] [] pos) (liftS B X.K (wpS C ES (.tr ib (.cx c cs i 2 t f bi)))) := by
  refine snd_tryG (fun a cls d => tSeq (tRet (tChain r1 r1 (tC (.int 0)) (L2.tXf a cls d cl f (tVar i)) (liftE B X.K (wpE C XF bi)))) tNext) hst hf hN hi hln hcl tk hb (fun a oe cls d pn hz hfd => ?_) (fun D hs k z st s H a da y v hl sr so q hd r hx => ?_) hfl hcs ho
  · exact pss_cons (ps_ret (pe_chain (hle a oe pn) (hle a oe pn) pe_int (pe_xf (cls := cls) (d := d) T hno hz hfd (pe_var (X := X.suite a ((a, oe) :: pn)) hi hv hdb hcd)) (hbe a oe pn) hm)) pss_nil
  · unfold tSeq tRet tChain tC
    dsimp only
    refine xf_run hl hd ?_
    obtain ⟨oe⟩ : Nonempty Obj := ⟨⟨.none, none, .fields #[], #[]⟩⟩
    refine hle2 a oe [] hs (.int 0) y st H _ _ (.int 0) v hx so (.int 0) r fun d3 st3 v3 H3 h3 t3 r3 so3 => ?_
    cases d3 <;> first | exact h3.elim | skip
    rename_i kb
    cases r3
    cases kb with
    | false => exact ⟨false, rfl, iteF (q _ st3 _ H3 h3 t3 (.bl _) so3)⟩
    | true =>
      refine ⟨true, rfl, iteT ⟨hs, z.set i none, st3, _, ⟨(sr.r.cover i).mono t3, B.step sr.b t3⟩, so3, h3, fun d4 st4 v4 H4 h4 t4 r4 so4 => ?_⟩⟩
      exact hle2 a oe [] hs y d4 st4 H4 _ _ v v4 h4 so4 (r.mono (t3.trans t4)) r4 fun d5 st5 v5 H5 h5 t5 r5 so5 => q d5 st5 v5 H5 h5 ((t3.trans t4).trans t5) r5 so5
end
end Fy

/-! dicts -/
namespace Fy
open PySem PySem.Spec PyProof.Rows L2
variable [LamT]
section
variable {K : KH} {st : Sto} {H : Hp}
theorem keys_tup : ∀ {ds : List D} {xs : List V} {k : List Key}, keysOf ds = some k → Reps K st H xs ds → xs = k.map kV
  | [], _, k, h, .nil => by cases h; rfl
  | d :: ds, _, k, h, .cons r t => by
    cases d <;> simp only [keysOf, Option.map_eq_some_iff] at h <;> first | (cases h; done) | skip
    all_goals (obtain ⟨k2, h2, rfl⟩ := h; cases r; rw [keys_tup h2 t]; rfl)
/-- the values of a table, place by place -/
theorem val_zip {κ : Type} [DecidableEq κ] {k : List Key} {q : κ} (f : List Key → κ) : ∀ {kvs : List (List Key × D)} {xs : List V}, (∀ p ∈ kvs, f p.1 = q ↔ p.1 = k) → Reps K st H xs (kvs.map (·.2)) →
    match valV ((kvs.map fun p => f p.1).zip xs) q, valD kvs k with
    | some x, some d => Rep K st H x d
    | none, none => True
    | _, _ => False
  | [], _, _, .nil => by simp [valV, valD]
  | p :: kvs, _, hf, .cons (v := x) (vs := xs) r t => by
    have ih := val_zip f (kvs := kvs) (xs := xs) (fun p hp => hf p (List.mem_cons_of_mem _ hp)) t
    have hp := hf p List.mem_cons_self
    by_cases e : p.1 = k
    · have e2 := hp.mpr e
      simp only [List.map_cons, List.zip_cons_cons, valV, valD, List.find?_cons, e, e2, decide_true, Option.map_some]
      rw [e] at e2
      simp only [e2, decide_true, Option.map_some]
      exact r
    · have e2 : ¬ f p.1 = q := fun z => e (hp.mp z)
      simp only [List.map_cons, List.zip_cons_cons, valV, valD, List.find?_cons, e, e2, decide_false] at ih ⊢
      exact ih
/-- what a dict tells of a key -/
theorem dget_rd {hs : Addr → Prop} {X : Cx} {y : D} {u : V} {st : Sto} {H : Hp} {a : Addr} {t : Bool} {kvs : List (List Key × D)} {k : List Key} {xs : List V} (hx : Rd H a (dHO t (kvs.map (·.1)) xs)) (hk : ∀ p ∈ kvs, p.1.length ≤ sizeLine ∧ (t = false → ∃ q, p.1 = [q])) (rx : Reps ⟨X.K, hs⟩ st H xs (kvs.map (·.2))) (ek : keyOf t y = some k) (ry : Rep ⟨X.K, hs⟩ st H u y) :
    ∃ o, DGet H a u o ∧ (match o, valD kvs k with
    | some x, some d => Rep ⟨X.K, hs⟩ st H x d
    | none, none => True
    | _, _ => False) := by
  cases t with
  | true =>
    cases y <;> simp only [keyOf] at ek <;> first | (cases ek; done) | skip
    cases ry with
    | tup hb rb zb =>
      rw [keys_tup ek rb] at hb
      refine ⟨_, .inr ⟨_, k, _, hx, rfl, hb, rfl⟩, ?_⟩
      exact val_zip (q := k) (fun p => p) (fun p hp => Iff.rfl) rx
  | false =>
    have fin : ∀ (q : Key), k = [q] → u = kV q → ∃ o, DGet H a u o ∧ (match o, valD kvs k with
      | some x, some d => Rep ⟨X.K, hs⟩ st H x d
      | none, none => True
      | _, _ => False) := by
      intro q e1 e2
      refine ⟨_, .inl ⟨_, q, hx, e2, rfl⟩, ?_⟩
      have := val_zip (q := q) (k := k) (fun p => k1 p) (fun p hp => ?_) rx
      · rw [List.map_map] at *
        exact this
      · obtain ⟨q2, h2⟩ := (hk p hp).2 rfl
        rw [h2, e1]
        simp [k1]
    cases y <;> simp only [keyOf] at ek <;> first | (cases ek; done) | skip
    · cases ry
      cases ek
      exact fin _ rfl rfl
    · cases ry
      cases ek
      exact fin _ rfl rfl
theorem dctR_ok {hs : Addr → Prop} {X : Cx} {x y : D} {v u : V} {st : Sto} {H : Hp} {Q : List (List Key × D) → List Key → Prop} (so : StoOk ⟨X.K, hs⟩ st H) (h : dctR x y st Q) (rx : Rep ⟨X.K, hs⟩ st H v x) (ry : Rep ⟨X.K, hs⟩ st H u y) :
    ∃ a kvs k o, v = .ref a ∧ Q kvs k ∧ DGet H a u o ∧ (match o, valD kvs k with
    | some x, some d => Rep ⟨X.K, hs⟩ st H x d
    | none, none => True
    | _, _ => False) := by
  cases x <;> first | exact h.elim | skip
  · obtain ⟨t, kvs, k, e, ek, h⟩ := h
    cases rx
    obtain ⟨hz, hk, xs, hx, rr⟩ := so.c _ _ e
    obtain ⟨o, g, m⟩ := dget_rd (.inl hx) hk rr ek ry
    exact ⟨_, kvs, k, o, rfl, h, g, m⟩
  · obtain ⟨k, ek, h⟩ := h
    cases rx with
    | fd hx hk rr hz =>
      obtain ⟨o, g, m⟩ := dget_rd (.inr ⟨_, hx⟩) hk rr ek ry
      exact ⟨_, _, k, o, rfl, h, g, m⟩
theorem isDc_ok {hs : Addr → Prop} {X : Cx} {x : D} {v : V} {st : Sto} {H : Hp} (so : StoOk ⟨X.K, hs⟩ st H) (h : isDc x st) (rx : Rep ⟨X.K, hs⟩ st H v x) : ∃ a, v = .ref a ∧ IsD H a := by
  cases x <;> first | exact h.elim | skip
  · obtain ⟨t, kvs, e⟩ := h
    cases rx
    obtain ⟨_, _, xs, hx, _⟩ := so.c _ _ e
    refine ⟨_, rfl, ?_⟩
    cases t with
    | true => exact .inr ⟨_, .inl hx⟩
    | false => exact .inl ⟨_, .inl hx⟩
  · rename_i t kvs
    cases rx with
    | fd hx hk rr hz =>
      refine ⟨_, rfl, ?_⟩
      cases t with
      | true => exact .inr ⟨_, .inr ⟨_, hx⟩⟩
      | false => exact .inl ⟨_, .inr ⟨_, hx⟩⟩
/-- a table with a new value -/
theorem put_zip {κ : Type} [DecidableEq κ] {k : List Key} {q : κ} (f : List Key → κ) {v : V} {w : D} (rw_ : Rep K st H v w) (fk : f k = q) {kvs : List (List Key × D)} {xs : List V} (hf : ∀ p ∈ kvs, f p.1 = q ↔ p.1 = k) (r : Reps K st H xs (kvs.map (·.2))) :
    ∃ ys, putK ((kvs.map fun p => f p.1).zip xs) q v = ((putD kvs k w).map fun p => f p.1).zip ys ∧ Reps K st H ys ((putD kvs k w).map (·.2)) := by
  have any : (((kvs.map fun p => f p.1).zip xs).any fun kv => decide (kv.1 = q)) = kvs.any fun p => decide (p.1 = k) := by
    clear rw_
    induction kvs generalizing xs with
    | nil => rfl
    | cons p kvs ih =>
      cases r with
      | cons r t =>
        simp only [List.map_cons, List.zip_cons_cons, List.any_cons]
        rw [ih (fun p hp => hf p (List.mem_cons_of_mem _ hp)) t]
        congr 1
        have := hf p List.mem_cons_self
        by_cases e : p.1 = k
        · simp [e, this.mpr e]
          rw [← e]
          exact this.mpr e
        · have : ¬ f p.1 = q := fun z => e (this.mp z)
          simp [e, this]
  unfold putK putD
  rw [any]
  by_cases c : (kvs.any fun p => decide (p.1 = k)) = true
  · rw [if_pos c, if_pos c]
    clear any c
    induction kvs generalizing xs with
    | nil => cases r; exact ⟨[], rfl, .nil⟩
    | cons p kvs ih =>
      cases r with
      | cons r t =>
        rename_i x0 xs0
        obtain ⟨ys, e1, e2⟩ := ih (fun p hp => hf p (List.mem_cons_of_mem _ hp)) t
        have := hf p List.mem_cons_self
        by_cases e : p.1 = k
        · refine ⟨v :: ys, ?_, ?_⟩
          · simp only [List.map_cons, List.zip_cons_cons]
            rw [if_pos (this.mpr e), if_pos e, e1]
          · simp only [List.map_cons]
            rw [if_pos e]
            exact .cons rw_ e2
        · refine ⟨x0 :: ys, ?_, ?_⟩
          · simp only [List.map_cons, List.zip_cons_cons]
            rw [if_neg fun z => e (this.mp z), if_neg e, e1]
          · simp only [List.map_cons]
            rw [if_neg e]
            exact .cons r e2
  · rw [if_neg c, if_neg c]
    refine ⟨xs ++ [v], ?_, ?_⟩
    · have l : (kvs.map fun p => f p.1).length = xs.length := by
        rw [List.length_map, r.length, List.length_map]
      rw [List.map_append, List.zip_append l, List.map_singleton, fk]
      rfl
    · rw [List.map_append]
      exact r.append (.cons rw_ .nil)
theorem putD_len {kvs : List (List Key × D)} {k : List Key} {w : D} : (putD kvs k w).length ≤ kvs.length + 1 := by
  unfold putD
  split <;> simp
theorem putD_keys {kvs : List (List Key × D)} {k : List Key} {w : D} {P : List Key → Prop} (h : ∀ p ∈ kvs, P p.1) (hk : P k) : ∀ p ∈ putD kvs k w, P p.1 := by
  unfold putD
  split
  · intro p hp
    obtain ⟨q, hq, rfl⟩ := List.mem_map.mp hp
    split
    · exact h q hq
    · exact h q hq
  · intro p hp
    rcases List.mem_append.mp hp with hp | hp
    · exact h p hp
    · simp at hp
      rw [hp]
      exact hk
/-- d[k] = v -/
theorem dput_ok {hs : Addr → Prop} {X : Cx} {y w : D} {v u : V} {st : Sto} {H : Hp} {a : Addr} {t : Bool} {kvs : List (List Key × D)} {k : List Key} (so : StoOk ⟨X.K, hs⟩ st H) (e : st a = some (.dct t kvs)) (ek : keyOf t y = some k) (ry : Rep ⟨X.K, hs⟩ st H u y) (rv : Rep ⟨X.K, hs⟩ st H v w) (hz : kvs.length < sizeLine) :
    ∃ H2, DPut H a u v H2 ∧ Step ⟨X.K, hs⟩ st H (put st a (.dct t (putD kvs k w))) H2 ∧ StoOk ⟨X.K, hs⟩ (put st a (.dct t (putD kvs k w))) H2 := by
  obtain ⟨_, hk, xs, hx, rx⟩ := so.c a _ e
  have hl : xs.length = kvs.length := by rw [rx.length, List.length_map]
  have lz : (putD kvs k w).length ≤ sizeLine := Nat.le_trans putD_len (by omega)
  cases t with
  | true =>
    cases y <;> simp only [keyOf] at ek <;> first | (cases ek; done) | skip
    cases ry with
    | tup hb rb zb =>
      rw [keys_tup ek rb] at hb
      obtain ⟨ys, e1, e2⟩ := put_zip (q := k) (fun p => p) rv rfl (fun p hp => Iff.rfl) rx
      have hkl : k.length ≤ sizeLine := by
        have := congrArg List.length (keys_tup ek rb)
        rw [rb.length, List.length_map] at this
        omega
      obtain ⟨so2, t2⟩ := so.setDct (t := true) e e2 lz (putD_keys (P := fun l => l.length ≤ sizeLine ∧ (true = false → ∃ q, l = [q])) hk ⟨hkl, fun z => by cases z⟩)
      refine ⟨_, .inr ⟨_, k, _, hx, rfl, hb, ?_, rfl⟩, ?_⟩
      · rw [List.length_zip, List.length_map]
        omega
      · have e3 : upd H a (.dT (putK ((kvs.map (·.1)).zip xs) k v)) = upd H a (dHO true ((putD kvs k w).map (·.1)) ys) := by
          rw [show dHO true ((putD kvs k w).map (·.1)) ys = .dT (((putD kvs k w).map (·.1)).zip ys) from rfl, ← e1]
        rw [e3]
        exact ⟨t2, so2⟩
  | false =>
    have fin : ∀ (q : Key), k = [q] → u = kV q → ∃ H2, DPut H a u v H2 ∧ Step ⟨X.K, hs⟩ st H (put st a (.dct false (putD kvs k w))) H2 ∧ StoOk ⟨X.K, hs⟩ (put st a (.dct false (putD kvs k w))) H2 := by
      intro q e1 e2
      have key : ∀ p ∈ kvs, k1 p.1 = q ↔ p.1 = k := fun p hp => by
        obtain ⟨q2, h2⟩ := (hk p hp).2 rfl
        rw [h2, e1]
        simp [k1]
      obtain ⟨ys, e3, e4⟩ := put_zip (q := q) (k := k) (fun p => k1 p) rv (by rw [e1]; rfl) key rx
      obtain ⟨so2, t2⟩ := so.setDct (t := false) e e4 lz (putD_keys (P := fun l => l.length ≤ sizeLine ∧ (false = false → ∃ q, l = [q])) hk ⟨by rw [e1]; show 1 ≤ sizeLine; decide, fun _ => ⟨q, e1⟩⟩)
      refine ⟨_, .inl ⟨_, q, hx, e2, ?_, rfl⟩, ?_⟩
      · rw [List.length_zip, List.length_map, List.length_map]
        omega
      · have e5 : upd H a (.dK (putK (((kvs.map (·.1)).map k1).zip xs) q v)) = upd H a (dHO false ((putD kvs k w).map (·.1)) ys) := by
          rw [show dHO false ((putD kvs k w).map (·.1)) ys = .dK ((((putD kvs k w).map (·.1)).map k1).zip ys) from rfl, List.map_map, List.map_map]
          rw [show ((putD kvs k w).map (k1 ∘ fun x => x.1)).zip ys = ((putD kvs k w).map fun p => k1 p.1).zip ys from rfl, ← e3]
          rfl
        rw [e5]
        exact ⟨t2, so2⟩
    cases y <;> simp only [keyOf] at ek <;> first | (cases ek; done) | skip
    · cases ry
      cases ek
      exact fin _ rfl rfl
    · cases ry
      cases ek
      exact fin _ rfl rfl
end
section
variable {X : Cx} {B : BP} {C : Cl} {ES : XS} {a b c : Expr} {pos : Pos} {ia ib ic : IE}
theorem snd_dnew {t : Bool} : PE X (.Dict [] [] pos) (liftE B X.K (wpE C ES (.dnew t))) := by
  cases t with
  | true =>
    refine pe_imp pe_dnewT ?_
    rintro s H Q ⟨hs, z, st, R, sr, so, h, q⟩ p hp
    simp only [wpE] at h
    exact q _ _ _ _ (h p (so.free hp)) (.newPut hp) (.ref p) (so.newDct (t := true) hp)
  | false =>
    refine pe_imp pe_dnewK ?_
    rintro s H Q ⟨hs, z, st, R, sr, so, h, q⟩ p hp
    simp only [wpE] at h
    exact q _ _ _ _ (h p (so.free hp)) (.newPut hp) (.ref p) (so.newDct (t := false) hp)
theorem snd_dg (hu : X.A.units + 65 < cLine) (ha : PE X a (liftE B X.K (wpE C ES ia))) (hb : PE X b (liftE B X.K (wpE C ES ib))) (hs : NoSl b) : PE X (.Subscript a b pos) (liftE B X.K (wpE C ES (.dg ia ib))) := by
  refine pe_imp (pe_dget (by omega) ha hb hs) ?_
  rintro s H Q ⟨hs, z, st, R, sr, so, h, q⟩
  simp only [wpE] at h
  refine ⟨hs, z, st, _, sr, so, h, fun d st1 v H1 h1 t1 r1 so1 => ⟨hs, z, st1, _, sr.mono t1, so1, h1, fun d2 st2 v2 H2 h2 t2 r2 so2 => ?_⟩⟩
  obtain ⟨a, kvs, k, o, rfl, ⟨w, ew, h2⟩, g, m⟩ := dctR_ok so2 h2 (r1.mono t2) r2
  rw [ew] at m
  cases o with
  | none => exact m.elim
  | some x => exact ⟨_, x, rfl, g, q _ st2 _ H2 h2 (t1.trans t2) m so2⟩
def rDIn (n : Bool) : R2 := fun x y H Q => ∃ a o, y = .ref a ∧ DGet H a x o ∧ Q (.bl (o.isSome != n)) H
theorem op_din (hu : X.A.units + 65 < cLine) : OpR X (compareOp .In) (rDIn false) := fun pins s σ H x y v u Q I rx ry h => by
  obtain ⟨a, o, rfl, g, q⟩ := h
  obtain rfl : u = Value.ref a := ry
  refine d_in (by omega) I g rx fun s' I' => ⟨.bl o.isSome, H, I', rfl, ?_⟩
  simpa using q
theorem op_dnotin (hu : X.A.units + 65 < cLine) : OpR X (compareOp .NotIn) (rDIn true) := fun pins s σ H x y v u Q I rx ry h => by
  obtain ⟨a, o, rfl, g, q⟩ := h
  obtain rfl : u = Value.ref a := ry
  refine d_notIn (by omega) I g rx fun s' I' => ⟨.bl (!o.isSome), H, I', rfl, ?_⟩
  have e : (o.isSome != true) = !o.isSome := by cases o.isSome <;> rfl
  rw [e] at q
  exact q
theorem din_ok {n : Bool} : OpOk X (fun y x st R => dctR x y st fun kvs q => R (.bl ((valD kvs q).isSome != n)) st) (rDIn n) := by
  intro hs x y st H Q R v u h so rx ry q
  obtain ⟨a, kvs, k, o, rfl, h, g, m⟩ := dctR_ok so h ry rx
  refine ⟨_, o, rfl, g, q _ st _ H h .refl ?_ so⟩
  have : o.isSome = (valD kvs k).isSome := by
    cases o <;> cases e2 : valD kvs k <;> rw [e2] at m <;> first | rfl | exact m.elim
  rw [this]
  exact .bl _
theorem snd_din {n : Bool} {op : CmpOp} (hop : op = if n then .NotIn else .In) (hu : X.A.units + 65 < cLine) (hm : behindInMarks op b = false) (ha : PE X a (liftE B X.K (wpE C ES ia))) (hb : PE X b (liftE B X.K (wpE C ES ib))) : PE X (.Compare a [op] [b] pos) (liftE B X.K (wpE C ES (.din n ia ib))) := by
  cases n with
  | true =>
    subst hop
    exact snd_two (pe_cmpR (op_dnotin hu) ha hb hm) (din_ok (n := true)) fun s st R h => by simpa only [wpE] using h
  | false =>
    subst hop
    exact snd_two (pe_cmpR (op_din hu) ha hb hm) (din_ok (n := false)) fun s st R h => by simpa only [wpE] using h
theorem snd_dinT {n : Bool} {op : CmpOp} (hop : op = if n then .NotIn else .In) (hu : X.A.units + 65 < cLine) (hm : behindInMarks op b = false) (ha : PE X a (liftE B X.K (wpE C ES ia))) (hb : PE X b (liftE B X.K (wpE C ES ib))) : PT X (.Compare a [op] [b] pos) (liftT B X.K (wpT C ES (.din n ia ib))) := by
  have key : ∀ {r : R2}, OpR X (compareOp op) r → OpOk X (fun y x st R => dctR x y st fun kvs q => R (.bl ((valD kvs q).isSome != n)) st) r → PT X (.Compare a [op] [b] pos) (liftT B X.K (wpT C ES (.din n ia ib))) := by
    intro r ho hr
    refine pt_imp (pt_cmpR ho ha hb hm) ?_
    rintro s H Q ⟨hs, z, st, R, sr, so, h, q⟩
    simp only [wpT, wpE] at h
    refine ⟨hs, z, st, _, sr, so, h, fun d st1 v H1 h1 t1 r1 so1 => ⟨hs, z, st1, _, sr.mono t1, so1, h1, fun d2 st2 v2 H2 h2 t2 r2 so2 => ?_⟩⟩
    refine hr hs d d2 st2 H2 _ (fun r st3 => truP r st3 fun c => R c st3) v v2 h2 so2 (r1.mono t2) r2 fun d3 st3 v3 H3 h3 t3 r3 so3 => ?_
    cases d3 <;> first | exact h3.elim | skip
    cases r3
    exact ⟨_, rfl, q _ st3 H3 h3 ((t1.trans t2).trans t3) so3⟩
  cases n with
  | true => subst hop; exact key (op_dnotin hu) (din_ok (n := true))
  | false => subst hop; exact key (op_din hu) (din_ok (n := false))
theorem snd_dgt {e f o : Expr} {io ie ix : IE} {apos cpos : Pos} (hu : X.A.units + 65 < cLine) (ho : PE X o (liftE B X.K (wpE C ES io))) (he : PE X e (liftE B X.K (wpE C ES ie))) (hf : PE X f (liftE B X.K (wpE C ES ix))) (m : M2 X o "get" apos e f cpos) :
    PE X (.Call (.Attribute o "get" apos) [e, f] [] cpos) (liftE B X.K (wpE C ES (.dgt io ie ix))) := by
  refine pe_imp (pe_dget2 (by omega) ho he hf m) ?_
  rintro s H Q ⟨hs, z, st, R, sr, so, h, q⟩
  simp only [wpE] at h
  refine ⟨hs, z, st, _, sr, so, h, fun d st1 v H1 h1 t1 r1 so1 => ?_⟩
  obtain ⟨hd, h1⟩ := h1
  obtain ⟨a, rfl, isd⟩ := isDc_ok so1 hd r1
  refine ⟨a, rfl, isd, hs, z, st1, _, sr.mono t1, so1, h1, fun d2 st2 v2 H2 h2 t2 r2 so2 => ⟨hs, z, st2, _, (sr.mono t1).mono t2, so2, h2, fun d3 st3 v3 H3 h3 t3 r3 so3 => ?_⟩⟩
  obtain ⟨a2, kvs4, k, o, e4, h4, g, m⟩ := dctR_ok so3 h3 ((r1.mono t2).mono t3) (r2.mono t3)
  cases e4
  refine ⟨o, g, q _ st3 _ H3 h4 ((t1.trans t2).trans t3) ?_ so3⟩
  cases o with
  | none =>
    cases e5 : valD kvs4 k with
    | none => exact r3
    | some w => rw [e5] at m; exact m.elim
  | some x =>
    cases e5 : valD kvs4 k with
    | none => rw [e5] at m; exact m.elim
    | some w => rw [e5] at m; exact m
theorem snd_dset {p : Pos} (hu : X.A.units + 65 < cLine) (ha : PE X a (liftE B X.K (wpE C ES ia))) (hb : PE X b (liftE B X.K (wpE C ES ib))) (hcc : PE X c (liftE B X.K (wpE C ES ic))) (hs : swapsWith c (some (.Subscript a b p)) pos.line X.env = pure false) (hw : swappedStores [.Subscript a b p] c X.env = pure none) (hn : noSlice b = true) :
    PS X (.Assign [.Subscript a b p] c pos) (liftS B X.K (wpS C ES (.dset ia ib ic))) := by
  refine ps_imp (ps_dput (by omega) ha hb hcc hs) ?_
  rintro d s H ⟨hs, z, st, k, sr, so, h, q⟩
  simp only [wpS] at h
  refine ⟨hs, z, st, _, sr, so, h, fun x st1 v H1 h1 t1 r1 so1 => ⟨hs, z, st1, _, sr.mono t1, so1, h1, fun x2 st2 v2 H2 h2 t2 r2 so2 => ⟨hs, z, st2, _, (sr.mono t1).mono t2, so2, h2, fun x3 st3 v3 H3 h3 t3 r3 so3 => ?_⟩⟩⟩
  unfold dctP at h3
  split at h3
  · obtain ⟨t, kvs, kk, e, ek, hz, h3⟩ := h3
    cases r2
    obtain ⟨H4, dp, t4, so4⟩ := dput_ok so3 e ek r3 (r1.mono (t2.trans t3)) hz
    have t14 := ((t1.trans t2).trans t3).trans t4
    exact ⟨_, H4, rfl, dp, q.nx z _ s _ h3 t14 (sr.mono t14).r so4⟩
  · exact h3.elim
end
end Fy

set_option maxHeartbeats 2000000
/-! == of dicts whose keys are tuples: where they are alike -/
namespace Fy
open PySem PySem.Calls PyProof.Rows PyProof.V PySem.Spec L2
section
variable {prog : Program} {w : World} {K : Type} [DecidableEq K] {knd : HeapKind prog w K} {A : Around} {E : Value → Shared → Prop} {s : Shared}
/-- each entry is found in the other dict, with a value that is equal -/
def Alk (A : Around) (s : Shared) (yb : List (K × Addr × Value)) (x : K × Addr × Value) : Prop := ∃ (j : Nat) (p : Addr × Value), yb[j]? = some (x.1, p) ∧ SeqAt.EqAt A s x.2.2 p.2 true
theorem same_H {nm : String} {a b : Addr} {ya yb : List (K × Addr × Value)} {Q : Bool → Shared → Prop} (hu : knd.room A) (na : (a == sysModules) = false) (nb : (b == sysModules) = false)
    (ta : s.heap.DictOfH knd a ya) (tb : s.heap.DictOfH knd b yb) (hl : ya.length = yb.length) (al : ∀ x ∈ ya, Alk A s yb x) (h : Q true s) :
    wpAny (model prog w) A (Builtin.Dict.samePairs nm a b) Q E s := by
  obtain ⟨o1, e1, n1, g1, _, d1, l1, k1, _⟩ := ta
  obtain ⟨o2, e2, n2, g2, _, d2, l2, k2, u2⟩ := tb
  have s1 : e1.size = ya.length := size_of_entries l1
  have s2 : e2.size = yb.length := size_of_entries l2
  have es : e1.size = e2.size := by rw [s1, s2, hl]
  unfold Builtin.Dict.samePairs Builtin.Dict.showsAll
  rw [if_neg (by rw [na]; exact Bool.false_ne_true), if_neg (by rw [nb]; exact Bool.false_ne_true)]
  refine wpAny_bind (wpAny_pure (wpAny_bind (wpAny_pure ?_)))
  refine wpAny_bind (wpAny_dictEntries g1 d1 ?_)
  dsimp only
  refine wpAny_bind (wpAny_dictEntries g2 d2 ?_)
  rw [if_neg (by rw [es]; simp)]
  refine wpAny_bind (wpAny_dictEpoch g1 d1 ?_)
  refine wpAny_bind ?_
  rw [Std.Legacy.Range.forIn_eq_forIn_range']
  simp only [Std.Legacy.Range.size, Nat.sub_zero, Nat.add_sub_cancel, Nat.div_one]
  refine wpAny_forIn_list _ (fun r z t => t = s ∧ z = (none, ()) ∧ ∀ i ∈ r, i < e1.size) _ ?_ ?_ _ _ ⟨rfl, rfl, fun i hi => ?_⟩
  · rintro i r z t ⟨rfl, rfl, hi⟩
    have lt : i < e1.size := hi i List.mem_cons_self
    have lt2 : i < ya.length := by omega
    refine wpAny_bind (wpAny_dictEntries g1 d1 ?_)
    have ee : e1[i]? = some (entryOfKey knd ya[i]) := by rw [entry_at l1 i, List.getElem?_eq_getElem lt2]; rfl
    rw [ee]
    obtain ⟨j, p, hj, he⟩ := al ya[i] (List.getElem_mem lt2)
    have ljt : j < yb.length := (List.getElem?_eq_some_iff.mp hj).1
    refine wpAny_bind (wpAny_holding (wpAny_bind (wpAny_dictFind_heap hu (k1 _ (List.getElem_mem lt2)) g2 d2 l2 k2 u2 (fun no => absurd hj (no j p)) fun j2 p2 hj2 => ?_)))
    have ej : j2 = j := idxH_unique u2 hj2 hj
    subst ej
    have ee2 : e2[j2]? = some (entryOfKey knd (ya[i].1, p)) := by rw [entry_at l2 j2, hj]; rfl
    refine wpAny_bind (wpAny_dictEntries g2 d2 ?_)
    rw [ee2]
    refine wpAny_holding (he prog w _ _ ?_)
    show wpAny _ _ (if (!true) = true then _ else _) _ _ _
    rw [if_neg (by decide)]
    refine wpAny_bind (wpAny_dictEpoch g1 d1 ?_)
    rw [if_neg (by simp)]
    exact wpAny_pure ⟨rfl, rfl, fun k hk => hi k (List.mem_cons_of_mem _ hk)⟩
  · rintro z t ⟨rfl, rfl, _⟩
    exact wpAny_pure h
  · have := List.mem_range'_1.mp hi
    omega
theorem eq_H {a b : Addr} {ya yb : List (K × Addr × Value)} {Q : Value → Shared → Prop} (hr : knd.room A.in1) (na : (a == sysModules) = false) (nb : (b == sysModules) = false)
    (ta : s.heap.DictOfH knd a ya) (tb : s.heap.DictOfH knd b yb) (hu : A.units < cLine) (hl : ya.length = yb.length) (al : ∀ x ∈ ya, Alk A.in1 s yb x) (h : Q (.bool true) s) :
    wpAny (model prog w) A (compareOp .Eq (.ref a) (.ref b)) Q E s := by
  refine wpAny_richCompare_same_room (op := .Eq) ta.typeIs tb.typeIs PySem.F.slot_dict_eq (wpAny_call_entry PySem.F.slot_dict_eq ta.typeIs PySem.F.entry_dict_eq ?_ (PySem.F.args_dict_eq_2 _ _)) hu
  show wpAny _ _ (Builtin.Dict.dictSlotArgs "__eq__" ⟨[.ref a, .ref b], []⟩ >>= _) _ _ s
  refine wpAny_bind ?_
  unfold Builtin.Dict.dictSlotArgs
  refine wpAny_bind (wpAny_notOrdered_dict ta.typeIs ?_)
  show wpAny _ _ (pure (Value.ref a, Value.ref b)) _ _ s
  refine wpAny_pure ?_
  refine wpAny_bind (wpAny_isInstance (T := "dict") tb.typeIs PySem.F.sub_dict_dict ?_)
  simp only [Bool.not_true, Bool.false_eq_true, if_false]
  refine wpAny_bind (wpAny_pure (wpAny_bind (wpAny_pure ?_)))
  refine wpAny_bind (same_H hr na nb ta tb hl al ?_)
  exact wpAny_pure ⟨_, rfl, (fun x => nomatch x), h⟩
theorem ne_H {a b : Addr} {ya yb : List (K × Addr × Value)} {Q : Value → Shared → Prop} (hr : knd.room A.in1) (na : (a == sysModules) = false) (nb : (b == sysModules) = false)
    (ta : s.heap.DictOfH knd a ya) (tb : s.heap.DictOfH knd b yb) (hu : A.units < cLine) (hl : ya.length = yb.length) (al : ∀ x ∈ ya, Alk A.in1 s yb x) (h : Q (.bool false) s) :
    wpAny (model prog w) A (compareOp .NotEq (.ref a) (.ref b)) Q E s := by
  refine wpAny_richCompare_same_room (op := .NotEq) ta.typeIs tb.typeIs PySem.F.slot_dict_ne (wpAny_call_entry PySem.F.slot_dict_ne ta.typeIs PySem.F.entry_dict_ne ?_ (PySem.F.args_dict_ne_2 _ _)) hu
  show wpAny _ _ (Builtin.Dict.dictSlotArgs "__ne__" ⟨[.ref a, .ref b], []⟩ >>= _) _ _ s
  refine wpAny_bind ?_
  unfold Builtin.Dict.dictSlotArgs
  refine wpAny_bind (wpAny_notOrdered_dict ta.typeIs ?_)
  show wpAny _ _ (pure (Value.ref a, Value.ref b)) _ _ s
  refine wpAny_pure ?_
  refine wpAny_bind (wpAny_isInstance (T := "dict") tb.typeIs PySem.F.sub_dict_dict ?_)
  simp only [Bool.not_true, Bool.false_eq_true, if_false]
  refine wpAny_bind (wpAny_pure (wpAny_bind (wpAny_pure ?_)))
  refine wpAny_bind (same_H hr na nb ta tb hl al ?_)
  exact wpAny_pure ⟨_, rfl, (fun x => nomatch x), h⟩
end
theorem alk_all {A : Around} {s : Shared} {H : Hp} {kvs : List (List Key × V)} {vb : List (List Key × Addr × Value)} (rb : KT H kvs vb) (nd : (vb.map (·.1)).Nodup) {ks : List (List Key × V)} {va : List (List Key × Addr × Value)} (ra : KT H ks va)
    (hp : ∀ p ∈ ks, valV kvs p.1 = some p.2 ∧ flatB p.2 = true) : ∀ x ∈ va, Alk A s vb x := by
  unfold KT at ra
  induction ra with
  | nil => exact fun x z => nomatch z
  | @cons p q ps qs h t ih =>
    intro x hx
    rcases List.mem_cons.mp hx with rfl | hx
    · obtain ⟨h1, _, h3⟩ := h
      obtain ⟨e, f⟩ := hp p List.mem_cons_self
      have rr : RelO (some p.2) ((atKey vb p.1).map (·.2)) := by rw [← e]; exact rb.val p.1
      obtain ⟨y, hy, ry⟩ := rr.some_of
      obtain ⟨pp, hpp, rfl⟩ := Option.map_eq_some_iff.mp hy
      rw [h1] at hpp
      unfold atKey at hpp
      obtain ⟨z, hz, rfl⟩ := Option.map_eq_some_iff.mp hpp
      have hk : z.1 = x.1 := by simpa using List.find?_some hz
      obtain ⟨j, hj⟩ := List.getElem?_of_mem (List.mem_of_find?_eq_some hz)
      refine ⟨j, z.2, ?_, eqAt_same h3 ry f⟩
      rw [hj, ← hk]
    · exact ih (fun p' hm => hp p' (List.mem_cons_of_mem _ hm)) x hx
def rEqDT (n : Bool) : R2 := fun x y H Q => ∃ a b ks ls, x = .ref a ∧ y = .ref b ∧ Rd H a (.dT ks) ∧ Rd H b (.dT ls) ∧ ks.length = ls.length ∧ (∀ p ∈ ks, valV ls p.1 = some p.2 ∧ flatB p.2 = true) ∧ Q (.bl (!n)) H
variable {X : Cx}
theorem op_eqDT (hu : X.A.units + 1 < cLine) : OpR X (compareOp .Eq) (rEqDT false) := by
  intro pins s σ H x y v u Q I rx ry h
  obtain ⟨a, b, ks, ls, rfl, rfl, ea, eb, hlen, hp, q⟩ := h
  obtain rfl : v = Value.ref a := rx
  obtain rfl : u = Value.ref b := ry
  obtain ⟨_, ya, va, ra, da⟩ := dt_rd I.hok ea
  obtain ⟨_, yb, vb, rb, db⟩ := dt_rd I.hok eb
  have nd : (vb.map (·.1)).Nodup := let ⟨_, _, _, _, _, _, _, _, z⟩ := db; z
  exact eq_H (tupleKind_room_in1 hu) ya yb da db (by omega) ((Paired.length ra).symm.trans (hlen.trans (Paired.length rb))) (alk_all rb nd ra hp) ⟨.bl true, H, I, rfl, q⟩
theorem op_neDT (hu : X.A.units + 1 < cLine) : OpR X (compareOp .NotEq) (rEqDT true) := by
  intro pins s σ H x y v u Q I rx ry h
  obtain ⟨a, b, ks, ls, rfl, rfl, ea, eb, hlen, hp, q⟩ := h
  obtain rfl : v = Value.ref a := rx
  obtain rfl : u = Value.ref b := ry
  obtain ⟨_, ya, va, ra, da⟩ := dt_rd I.hok ea
  obtain ⟨_, yb, vb, rb, db⟩ := dt_rd I.hok eb
  have nd : (vb.map (·.1)).Nodup := let ⟨_, _, _, _, _, _, _, _, z⟩ := db; z
  exact ne_H (tupleKind_room_in1 hu) ya yb da db (by omega) ((Paired.length ra).symm.trans (hlen.trans (Paired.length rb))) (alk_all rb nd ra hp) ⟨.bl false, H, I, rfl, q⟩
end Fy

/-! dicts: displays, copies, dicts that no one changes any more -/
namespace Fy
open PySem PySem.Spec PyProof.Rows L2
variable [LamT]
section
variable {X : Cx} {e : Expr} {ss : List Stmt}
def tKeep (t : TE) : TE := fun σ H Q => t σ H fun v H1 => ∃ d u, H1 d = some u ∧ Mut (some u) ∧ ∀ od, Q v (upd H1 d (.frz od u))
theorem pe_keep {t : TE} (h : PE X e t) : PE X e (tKeep t) := ⟨fun pins s σ H Q I q => thn (h.run pins s σ H _ I q) fun w s1 ⟨x, H1, I1, r1, d, u, hd, mu, k⟩ => by
  obtain ⟨od, I2⟩ := I1.lock hd mu
  exact ⟨x, _, I2, r1, k od⟩⟩
theorem pss_keep {t : TS} (h : PSs X ss t) : PSs X ss (fun D σ H => ∃ d u, H d = some u ∧ Mut (some u) ∧ ∀ od, t D σ (upd H d (.frz od u))) := ⟨fun pins s σ H D I q => by
  obtain ⟨d, u, hd, mu, k⟩ := q
  obtain ⟨od, I2⟩ := I.lock hd mu
  exact h.run pins s σ _ D I2 (k od)⟩
theorem mut_dHO {t : Bool} {ks : List (List Key)} {xs : List V} : Mut (some (dHO t ks xs)) := by cases t <;> trivial
end
section
variable {X : Cx} {B : BP} {C : Cl} {ES : XS} {a b c : Expr} {pos : Pos} {ia ib ic : IE}
theorem snd_fzd {ie : IE} (ha : PE X a (liftE B X.K (wpE C ES ie))) : PE X a (liftE B X.K (wpE C ES (.fzd ie))) := by
  refine pe_imp (pe_keep ha) ?_
  rintro s H Q ⟨hs, z, st, R, sr, so, h, q⟩
  simp only [wpE] at h
  refine ⟨hs, z, st, _, sr, so, h, fun d st1 v H1 h1 t1 r1 so1 => ?_⟩
  cases d <;> first | exact h1.elim | skip
  rename_i p
  obtain ⟨t, kvs, e, h1⟩ := h1
  cases r1
  obtain ⟨xs, hx, k⟩ := so1.lockDct e
  refine ⟨p, _, hx, mut_dHO, fun od => ?_⟩
  obtain ⟨k1, k2, k3⟩ := k od
  exact q _ _ _ _ h1 (t1.trans k1) k3 k2
theorem snd_ghd {i : Nat} {s2 : List Stmt} {i2 : ISs} (h2 : PSs X s2 (liftS B X.K (wpSs C ES i2))) : PSs X s2 (liftS B X.K (wpSs C ES (.cons (.ghd i) i2))) := by
  refine pss_imp (pss_keep h2) ?_
  rintro d s H ⟨hs, z, st, k, sr, so, h, q⟩
  simp only [wpSs, wpS, getP] at h
  split at h
  · rename_i y e
    cases y <;> first | exact h.elim | skip
    rename_i p
    obtain ⟨t, kvs, e1, h⟩ := h
    obtain ⟨xs, hx, kk⟩ := so.lockDct e1
    refine ⟨p, _, hx, mut_dHO, fun od => ?_⟩
    obtain ⟨k1, k2, k3⟩ := kk od
    obtain ⟨v, e2, rv⟩ := sr.r.2 i _ e
    cases rv
    refine ⟨hs, z.set i (some (.fd t kvs)), del st p, k, ⟨?_, B.step sr.b k1⟩, k2, h, q.step k1⟩
    have m := sr.r.mono k1
    refine ⟨by rw [List.length_set]; exact m.1, fun j x ex => ?_⟩
    by_cases c : i = j
    · subst c
      have hl : i < z.length := by
        obtain ⟨hl, _⟩ := List.getElem?_eq_some_iff.mp e
        exact hl
      rw [List.getElem?_set_self hl] at ex
      cases ex
      exact ⟨_, e2, k3⟩
    · rw [List.getElem?_set_ne c] at ex
      exact m.2 j x ex
  · exact h.elim
/-- a dict, whole -/
theorem dctA_ok {hs : Addr → Prop} {x : D} {v : V} {st : Sto} {H : Hp} {Q : Bool → List (List Key × D) → Prop} (so : StoOk ⟨X.K, hs⟩ st H) (h : dctA x st Q) (rx : Rep ⟨X.K, hs⟩ st H v x) :
    ∃ a t kvs xs, v = .ref a ∧ Q t kvs ∧ Rd H a (dHO t (kvs.map (·.1)) xs) ∧ (∀ p ∈ kvs, p.1.length ≤ sizeLine ∧ (t = false → ∃ q, p.1 = [q])) ∧ Reps ⟨X.K, hs⟩ st H xs (kvs.map (·.2)) ∧ kvs.length ≤ sizeLine := by
  cases x <;> first | exact h.elim | skip
  · obtain ⟨t, kvs, e, h⟩ := h
    cases rx
    obtain ⟨hz, hk, xs, hx, rr⟩ := so.c _ _ e
    exact ⟨_, t, kvs, xs, rfl, h, .inl hx, hk, rr, hz⟩
  · cases rx with
    | fd hx hk rr hz => exact ⟨_, _, _, _, rfl, h, .inr ⟨_, hx⟩, hk, rr, hz⟩
theorem zip_lenD {α β γ : Type} {f : α → γ} {kvs : List α} {xs : List β} (h : xs.length = kvs.length) : ((kvs.map f).zip xs).length = kvs.length := by
  rw [List.length_zip, List.length_map, h, Nat.min_self]
/-- len of a dict that may be locked -/
theorem call_lenDR : CallR X (.builtin "len") (fun vs H Q => ∃ a t kvs, ∃ xs : List V, vs = [.ref a] ∧ Rd H a (dHO t kvs xs) ∧ xs.length = kvs.length ∧ Q (.int ((kvs.length : Nat) : Int)) H) := by
  intro pins s σ H vs us Q I r h
  obtain ⟨p, t, kvs, xs, rfl, hp, hl, q⟩ := h
  obtain ⟨u, rfl, rx⟩ := vals1 r
  obtain rfl : u = .ref p := rx
  cases t with
  | true =>
    obtain ⟨z, hd, ys, rel, dd⟩ := dt_rd I.hok hp
    have h2 : (kvs.zip xs).length = ys.length := Paired.length rel
    have h3 : (kvs.zip xs).length = kvs.length := by rw [List.length_zip, hl, Nat.min_self]
    refine call_len_dictH hd dd (by rw [← h2]; rw [sizeLine_eq] at z; omega) ?_
    rw [← h2, h3]
    exact ⟨.int ((kvs.length : Nat) : Int), H, I.tok _, ⟨_, rfl⟩, q⟩
  | false =>
    have h3 : ((kvs.map k1).zip xs).length = kvs.length := zip_lenD hl
    refine d_len I hp fun t s' I' => ⟨.int ((kvs.length : Nat) : Int), H, I', ⟨t, by rw [h3]⟩, q⟩
theorem snd_dln {p : Pos} (hg : Gl X "len") (hm : X.mg "len" = none) (hn : noStar a = true) (ha : PA X [a] (liftA B X.K 1 (wpEs C ES (.cons ia .nil)))) : PE X (.Call (.Name "len" p) [a] [] pos) (liftE B X.K (wpE C ES (.dln ia))) := by
  refine pe_imp (pe_callB call_lenDR hg hm (by decide +kernel) ha (by decide) (by decide) (star_cons hn) (by rfl)) ?_
  rintro s H Q ⟨hs, z, st, R, sr, so, h, q⟩
  simp only [wpE] at h
  refine ⟨hs, z, st, fun ds st1 => match ds with | [d] => dctA d st1 fun _ kvs => R (.int kvs.length) st1 | _ => False, sr, so, ?_, fun ds st1 vs H1 h1 n1 t1 r1 so1 => ?_⟩
  · simp only [wpEs]
    exact h
  · obtain _ | ⟨d, _ | ⟨d2, ds⟩⟩ := ds <;> first | exact h1.elim | skip
    cases r1 with
    | cons r1 rr =>
      cases rr
      obtain ⟨a, t, kvs, xs, rfl, h2, rd, hk, rr, hz⟩ := dctA_ok so1 h1 r1
      have hl := rr.length
      rw [List.length_map] at hl
      refine ⟨a, t, _, xs, rfl, rd, by rw [List.length_map]; exact hl, ?_⟩
      rw [List.length_map]
      exact q _ st1 _ H1 h2 t1 (.int _) so1

/-! ### dicts compared -/
def rEqDR (n : Bool) : R2 := fun x y H Q => ∃ a b ks ls, x = .ref a ∧ y = .ref b ∧ Rd H a (.dK ks) ∧ Rd H b (.dK ls) ∧ ks.length = ls.length ∧ (∀ p ∈ ks, valV ls p.1 = some p.2 ∧ flatB p.2 = true) ∧ Q (.bl (!n)) H
theorem op_eqDR (hu : X.A.units < cLine) : OpR X (compareOp .Eq) (rEqDR false) := by
  intro pins s σ H x y v u Q I rx ry h
  obtain ⟨a, b, ks, ls, rfl, rfl, ea, eb, hlen, hp, q⟩ := h
  obtain rfl : v = Value.ref a := rx
  obtain rfl : u = Value.ref b := ry
  obtain ⟨_, ya, va, ra, da⟩ := dk_rd I.hok ea
  obtain ⟨_, yb, vb, rb, db⟩ := dk_rd I.hok eb
  have hl : va.length = vb.length := by rw [← ra.length, ← rb.length]; exact hlen
  exact PySem.W.keq_eq (knd := mixKind X.prog X.w) (r := true) ya yb da db hu (fun _ => hits_all rb ra hp) (fin_bl I q (by simp [hl]))
theorem op_neDR (hu : X.A.units < cLine) : OpR X (compareOp .NotEq) (rEqDR true) := by
  intro pins s σ H x y v u Q I rx ry h
  obtain ⟨a, b, ks, ls, rfl, rfl, ea, eb, hlen, hp, q⟩ := h
  obtain rfl : v = Value.ref a := rx
  obtain rfl : u = Value.ref b := ry
  obtain ⟨_, ya, va, ra, da⟩ := dk_rd I.hok ea
  obtain ⟨_, yb, vb, rb, db⟩ := dk_rd I.hok eb
  have hl : va.length = vb.length := by rw [← ra.length, ← rb.length]; exact hlen
  exact PySem.W.keq_ne (knd := mixKind X.prog X.w) (r := true) ya yb da db hu (fun _ => hits_all rb ra hp) (fin_bl I q (by simp [hl]))
theorem flat_V {K : KH} {st : Sto} {H : Hp} {v u : V} {d : D} (hf : flatD d = true) (r1 : Rep K st H v d) (r2 : Rep K st H u d) : v = u ∧ flatB v = true := by
  cases d <;> first | (cases hf; done) | skip
  all_goals (cases r1; cases r2; exact ⟨rfl, rfl⟩)
def deqP (n : Bool) (x y : D) (st : Sto) (R : D → Sto → Prop) : Prop := dctA x st fun t ks => dctA y st fun u ls => t = u ∧ ks.length = ls.length ∧ (∀ p ∈ ks, valD ls p.1 = some p.2 ∧ flatD p.2 = true) ∧ R (.bl (!n)) st
theorem deq_zip {κ : Type} [DecidableEq κ] {K : KH} {st : Sto} {H : Hp} (f : List Key → κ) {ks ls : List (List Key × D)} {xs ys : List V} (rra : Reps K st H xs (ks.map (·.2))) (rrb : Reps K st H ys (ls.map (·.2)))
    (hp : ∀ p ∈ ks, valD ls p.1 = some p.2 ∧ flatD p.2 = true) (hf : ∀ p ∈ ks, ∀ q ∈ ls, f q.1 = f p.1 ↔ q.1 = p.1) : ∀ p ∈ (ks.map fun p => f p.1).zip xs, valV ((ls.map fun p => f p.1).zip ys) p.1 = some p.2 ∧ flatB p.2 = true := by
  intro p hm
  obtain ⟨i, hi⟩ := List.getElem?_of_mem hm
  rw [List.getElem?_zip_eq_some] at hi
  obtain ⟨e1, e2⟩ := hi
  rw [List.getElem?_map] at e1
  obtain ⟨w, hk, e1⟩ := Option.map_eq_some_iff.mp e1
  have hw := List.mem_of_getElem? hk
  obtain ⟨h1, h2⟩ := hp w hw
  have rw2 : Rep K st H p.2 w.2 := by
    obtain ⟨v2, e3, r3⟩ := rra.get (i := i) (d := w.2) (by rw [List.getElem?_map, hk]; rfl)
    rw [e2] at e3
    cases e3
    exact r3
  have m := val_zip (q := f w.1) (k := w.1) f (fun q hq => hf w hw q hq) rrb
  rw [h1] at m
  rw [← e1]
  generalize valV ((ls.map fun p => f p.1).zip ys) (f w.1) = o at m
  cases o with
  | none => exact m.elim
  | some x =>
    obtain ⟨z1, z2⟩ := flat_V h2 rw2 m
    rw [z1]
    rw [z1] at z2
    exact ⟨rfl, z2⟩
def rEqDB (n : Bool) : R2 := fun x y H Q => rEqDR n x y H Q ∨ rEqDT n x y H Q
theorem op_eqDB (hu : X.A.units + 1 < cLine) : OpR X (compareOp .Eq) (rEqDB false) := OpR.or (op_eqDR (by omega)) (op_eqDT hu)
theorem op_neDB (hu : X.A.units + 1 < cLine) : OpR X (compareOp .NotEq) (rEqDB true) := OpR.or (op_neDR (by omega)) (op_neDT hu)
theorem deq_ok {n : Bool} : OpOk X (deqP n) (rEqDB n) := by
  intro hs x y st H Q R v u h so rx ry q
  unfold deqP at h
  obtain ⟨a, t, ks, xs, rfl, h, rda, hka, rra, hza⟩ := dctA_ok so h rx
  obtain ⟨b, t2, ls, ys, rfl, ⟨rfl, hl, hp, h⟩, rdb, hkb, rrb, hzb⟩ := dctA_ok so h ry
  have la := rra.length
  have lb := rrb.length
  rw [List.length_map] at la lb
  have fin := q _ st _ H h .refl (.bl _) so
  cases t with
  | false =>
    have z := deq_zip k1 rra rrb hp fun p hp q hq => by
      obtain ⟨a, ha⟩ := (hka p hp).2 rfl
      obtain ⟨c, hc⟩ := (hkb q hq).2 rfl
      rw [ha, hc]
      simp [k1]
    refine .inl ⟨a, b, _, _, rfl, rfl, rda, rdb, ?_, ?_, fin⟩
    · rw [List.length_zip, List.length_zip]
      simp only [List.length_map]
      omega
    · have e1 : (ks.map (·.1)).map k1 = ks.map fun p => k1 p.1 := by rw [List.map_map]; rfl
      have e2 : (ls.map (·.1)).map k1 = ls.map fun p => k1 p.1 := by rw [List.map_map]; rfl
      rw [e1, e2]
      exact z
  | true =>
    have z := deq_zip (fun k => k) rra rrb hp fun p hp q hq => Iff.rfl
    refine .inr ⟨a, b, _, _, rfl, rfl, rda, rdb, ?_, z, fin⟩
    rw [List.length_zip, List.length_zip]
    simp only [List.length_map]
    omega
theorem snd_deq {n : Bool} {op : CmpOp} (hop : op = if n then .NotEq else .Eq) (hu : X.A.units + 65 < cLine) (hm : behindInMarks op b = false) (ha : PE X a (liftE B X.K (wpE C ES ia))) (hb : PE X b (liftE B X.K (wpE C ES ib))) : PE X (.Compare a [op] [b] pos) (liftE B X.K (wpE C ES (.deq n ia ib))) := by
  cases n with
  | true =>
    subst hop
    exact snd_two (pe_cmpR (op_neDB (by omega)) ha hb hm) (deq_ok (n := true)) fun s st R h => by simp only [wpE] at h; exact h
  | false =>
    subst hop
    exact snd_two (pe_cmpR (op_eqDB (by omega)) ha hb hm) (deq_ok (n := false)) fun s st R h => by simp only [wpE] at h; exact h
theorem snd_deqT {n : Bool} {op : CmpOp} (hop : op = if n then .NotEq else .Eq) (hu : X.A.units + 65 < cLine) (hm : behindInMarks op b = false) (ha : PE X a (liftE B X.K (wpE C ES ia))) (hb : PE X b (liftE B X.K (wpE C ES ib))) : PT X (.Compare a [op] [b] pos) (liftT B X.K (wpT C ES (.deq n ia ib))) := by
  have key : ∀ {r : R2}, OpR X (compareOp op) r → OpOk X (deqP n) r → PT X (.Compare a [op] [b] pos) (liftT B X.K (wpT C ES (.deq n ia ib))) := by
    intro r ho hr
    refine pt_imp (pt_cmpR ho ha hb hm) ?_
    rintro s H Q ⟨hs, z, st, R, sr, so, h, q⟩
    simp only [wpT, wpE] at h
    refine ⟨hs, z, st, _, sr, so, h, fun d st1 v H1 h1 t1 r1 so1 => ⟨hs, z, st1, _, sr.mono t1, so1, h1, fun d2 st2 v2 H2 h2 t2 r2 so2 => ?_⟩⟩
    refine hr hs d d2 st2 H2 _ (fun r st3 => truP r st3 fun c => R c st3) v v2 h2 so2 (r1.mono t2) r2 fun d3 st3 v3 H3 h3 t3 r3 so3 => ?_
    cases d3 <;> first | exact h3.elim | skip
    cases r3
    exact ⟨_, rfl, q _ st3 H3 h3 ((t1.trans t2).trans t3) so3⟩
  cases n with
  | true => subst hop; exact key (op_neDB (by omega)) (deq_ok (n := true))
  | false => subst hop; exact key (op_eqDB (by omega)) (deq_ok (n := false))
/-! ### one argument that is a dict -/
theorem snd_d1 {e : Expr} {es : List Expr} {r : List V → Hp → VK → Prop} {ie : IE} {P : D → Sto → (D → Sto → Prop) → Prop} (h0 : PE X e (tCB r (liftA B X.K 1 (wpEs C ES (.cons ia .nil)))))
    (hw : ∀ s st R, wpE C ES ie s st R → wpE C ES ia s st fun d st1 => P d st1 R)
    (hr : ∀ (hs : Addr → Prop) d st H Q R v, P d st R → StoOk ⟨X.K, hs⟩ st H → Rep ⟨X.K, hs⟩ st H v d → QOk ⟨X.K, hs⟩ st H R Q → r [v] H Q) : PE X e (liftE B X.K (wpE C ES ie)) := by
  refine pe_imp h0 ?_
  rintro s H Q ⟨hs, z, st, R, sr, so, h, q⟩
  refine ⟨hs, z, st, fun ds st1 => match ds with | [d] => P d st1 R | _ => False, sr, so, ?_, fun ds st1 vs H1 h1 n1 t1 r1 so1 => ?_⟩
  · simp only [wpEs]
    exact hw _ _ _ h
  · obtain _ | ⟨d, _ | ⟨d2, ds⟩⟩ := ds <;> first | exact h1.elim | skip
    cases r1 with
    | cons r1 rr =>
      cases rr
      exact hr hs d st1 H1 Q R _ h1 so1 r1 (QOk.step q t1)
theorem snd_dcp {p : Pos} (hg : Gl X "dict") (hm : X.mg "dict" = none) (hn : noStar a = true) (ha : PA X [a] (liftA B X.K 1 (wpEs C ES (.cons ia .nil)))) : PE X (.Call (.Name "dict" p) [a] [] pos) (liftE B X.K (wpE C ES (.dcp ia))) := by
  refine snd_d1 (es := []) (P := fun d st1 R => dctA d st1 fun t kvs => t = false ∧ ∀ a, st1 a = none → R (.ref a) (put st1 a (.dct t kvs))) (pe_callTy call_dictD hg hm (by decide +kernel) ha (by decide) (by decide) (star_cons hn) (by rfl)) (fun s st R h => by simpa only [wpE] using h) ?_
  intro hs d st H Q R v h so r q
  obtain ⟨a, t, kvs, xs, rfl, ⟨rfl, h⟩, rd, hk, rr, hz⟩ := dctA_ok so h r
  have hl := rr.length
  rw [List.length_map] at hl
  refine ⟨a, _, rfl, rd, fun p hp => ?_⟩
  have so0 := so.newDct (t := false) hp
  have t0 : Step ⟨X.K, hs⟩ st H (put st p (.dct false [])) (upd H p (dHO false [] [])) := .newPut hp
  obtain ⟨so2, t2⟩ := so0.setDct (t := false) (kvs := kvs) (xs := xs) put_same (rr.mono t0) hz hk
  rw [put_put, upd_upd] at so2 t2
  refine q _ _ _ _ (h p (so.free hp)) (.newPut hp) (.ref p) so2
theorem snd_dks {z : Bool} {p : Pos} (hc : X.calm = true) (hg : Gl X "sorted") (hm : X.mg "sorted" = none) (hn : noStar a = true) (ha : PA X [a] (liftA B X.K 1 (wpEs C ES (.cons ia .nil)))) : PE X (.Call (.Name "sorted" p) [a] [] pos) (liftE B X.K (wpE C ES (.dks z ia))) := by
  refine snd_d1 (es := []) (P := fun d st1 R => dctA d st1 fun t kvs => ∃ xs : List Str, t = false ∧ kvs.map (·.1) = xs.map (fun x => [.inr x]) ∧ xs.length < 64 ∧ ∀ ys : List Str, ys.Perm xs → sortedS ys = true → newL z (ys.map D.str) st1 R) (pe_callB (call_sortedD hc) hg hm (by decide +kernel) ha (by decide) (by decide) (star_cons hn) (by rfl)) (fun s st R h => by simpa only [wpE] using h) ?_
  intro hs d st H Q R v h so r q
  obtain ⟨a, t, kvs, xs, rfl, ⟨zs, rfl, he, h64, h⟩, rd, hk, rr, hz⟩ := dctA_ok so h r
  have hl := rr.length
  rw [List.length_map] at hl
  refine ⟨a, _, zs, rfl, rd, ?_, h64, fun ys p h1 h2 hp => ?_⟩
  · rw [List.map_fst_zip (by simp only [List.length_map]; omega), he, List.map_map]
    rfl
  · refine newL_ok (h ys h1 h2) so (ds := ys.map D.str) (xs := ys.map V.str) ?_ (by rw [List.length_map, h1.length_eq]; have : 64 ≤ sizeLine := by decide
                                                                                    omega) q p hp
    clear h2 h1
    induction ys with
    | nil => exact .nil
    | cons y ys ih => exact .cons (.str y) ih
theorem snd_dpo {o f : Expr} {io ie : IE} {apos cpos : Pos} (ho : PE X o (liftE B X.K (wpE C ES io))) (he : PE X f (liftE B X.K (wpE C ES ie))) (m : M1 X o "pop" apos f cpos) :
    PE X (.Call (.Attribute o "pop" apos) [f] [] cpos) (liftE B X.K (wpE C ES (.dpo io ie))) := by
  refine pe_imp (pe_dpop1 ho he m) ?_
  rintro s H Q ⟨hs, z, st, R, sr, so, h, q⟩
  simp only [wpE] at h
  refine ⟨hs, z, st, _, sr, so, h, fun d st1 v H1 h1 t1 r1 so1 => ?_⟩
  obtain ⟨hd, h1⟩ := h1
  obtain ⟨a, rfl, isd⟩ := isDc_ok so1 hd r1
  refine ⟨a, rfl, isd, hs, z, st1, _, sr.mono t1, so1, h1, fun d2 st2 v2 H2 h2 t2 r2 so2 => ?_⟩
  cases d <;> first | exact h2.elim | skip
  cases r1
  obtain ⟨kvs, k, w, e, ek, ew, h2⟩ := h2
  obtain ⟨hz, hk, xs, hx, rx⟩ := so2.c _ _ e
  have hl := rx.length
  rw [List.length_map] at hl
  obtain ⟨o, g, mm⟩ := dget_rd (.inl hx) hk rx ek r2
  rw [ew] at mm
  cases o with
  | none => exact mm.elim
  | some x =>
    have fin : ∀ (qq : Key), k = [qq] → v2 = kV qq → ∃ kvs' k' v', H2 a = some (.dK kvs') ∧ v2 = kV k' ∧ valV kvs' k' = some v' ∧ Q v' (upd H2 a (.dK (dropK kvs' k'))) := by
      intro qq e1 e2
      rcases g with ⟨kvs2, k2, rd2, e3, e4⟩ | ⟨kvs2, k2, b2, rd2, e3, _⟩
      · rw [e2] at e3
        have e3 := kV_inj e3
        subst e3
        have : H2 a = some (.dK ((((kvs.map (·.1)).map k1)).zip xs)) := hx
        refine ⟨_, qq, x, this, e2, ?_, ?_⟩
        · rcases rd2 with rd2 | ⟨o2, rd2⟩
          · rw [this] at rd2; cases rd2; exact e4.symm
          · rw [this] at rd2; cases rd2
        · have key : ∀ p ∈ kvs, k1 p.1 = qq ↔ p.1 = k := fun p hp => by
            obtain ⟨q2, h2⟩ := (hk p hp).2 rfl
            rw [h2, e1]
            simp [k1]
          have dz : ∀ {kvs : List (List Key × D)} {xs : List V}, (∀ p ∈ kvs, k1 p.1 = qq ↔ p.1 = k) → Reps ⟨X.K, hs⟩ st2 H2 xs (kvs.map (·.2)) → ∃ ys, dropK (((kvs.map (·.1)).map k1).zip xs) qq = (((dropD kvs k).map (·.1)).map k1).zip ys ∧ Reps ⟨X.K, hs⟩ st2 H2 ys ((dropD kvs k).map (·.2)) := by
            intro kvs
            induction kvs with
            | nil => intro xs _ r; cases r; exact ⟨[], rfl, .nil⟩
            | cons p kvs ih =>
              intro xs key r
              cases r with
              | cons r t =>
                rename_i x0 xs0
                obtain ⟨ys, y1, y2⟩ := ih (fun p hp => key p (List.mem_cons_of_mem _ hp)) t
                have kp := key p List.mem_cons_self
                by_cases c : p.1 = k
                · refine ⟨ys, ?_, ?_⟩
                  · simp only [List.map_cons, List.zip_cons_cons, dropK, dropD, List.filter_cons] at y1 ⊢
                    rw [if_neg (by simp [kp.mpr c]), if_neg (by simp [c])]
                    exact y1
                  · simp only [dropD, List.filter_cons] at y2 ⊢
                    rw [if_neg (by simp [c])]
                    exact y2
                · have c2 : ¬ k1 p.1 = qq := fun z => c (kp.mp z)
                  refine ⟨x0 :: ys, ?_, ?_⟩
                  · simp only [List.map_cons, List.zip_cons_cons, dropK, dropD, List.filter_cons] at y1 ⊢
                    rw [if_pos (by simp [c2]), if_pos (by simp [c])]
                    simp only [List.map_cons, List.zip_cons_cons]
                    rw [y1]
                  · simp only [dropD, List.filter_cons] at y2 ⊢
                    rw [if_pos (by simp [c])]
                    exact .cons r y2
          obtain ⟨ys, y1, y2⟩ := dz key rx
          obtain ⟨so3, t3⟩ := so2.setDct (t := false) (kvs := dropD kvs k) e y2 (Nat.le_trans (List.length_filter_le _ _) hz) (fun p hp => hk p (List.mem_filter.mp hp).1)
          rw [y1]
          exact q _ _ _ _ h2 ((t1.trans t2).trans t3) (mm.mono t3) so3
      · rw [e2] at e3
        cases qq <;> cases e3
    cases d2 <;> simp only [keyOf] at ek <;> first | (cases ek; done) | skip
    · cases r2
      cases ek
      exact fin _ rfl rfl
    · cases r2
      cases ek
      exact fin _ rfl rfl
end
end Fy

/-! displays of dicts -/
namespace Fy
open PySem PySem.Spec PyProof.Rows L2
variable [LamT]
section
variable {X : Cx}
def mergeT (kvs more : List (List Key × V)) : List (List Key × V) := more.foldl (fun acc kv => putK acc kv.1 kv.2) kvs
theorem KT_put {H : Hp} {kvs : List (List Key × V)} {xs : List (List Key × Addr × Value)} (r : KT H kvs xs) (k : List Key) {b : Addr} {y : V} {u : Value} (hb : H b = some (.tup (k.map kV))) (ry : RelV y u) : KT H (putK kvs k y) (storedH xs k b u) := r.put k hb ry
theorem KT_merge {H : Hp} : ∀ {more : List (List Key × V)} {ps : List (List Key × Addr × Value)} {kvs : List (List Key × V)} {xs : List (List Key × Addr × Value)}, KT H more ps → KT H kvs xs → KT H (mergeT kvs more) (storedAllH xs ps) := by
  intro more ps kvs xs r
  unfold KT at r
  induction r generalizing kvs xs with
  | nil => intro q; exact q
  | @cons p q ps qs h t ih =>
    intro r0
    have e : KT H (putK kvs p.1 p.2) (storedH xs q.1 q.2.1 q.2.2) := by
      have := KT_put r0 p.1 h.2.1 h.2.2
      rw [← h.1]; exact this
    exact ih e
theorem length_mergeT : ∀ (more kvs : List (List Key × V)), (mergeT kvs more).length ≤ kvs.length + more.length
  | [], kvs => by show kvs.length ≤ kvs.length + 0; omega
  | p :: r, kvs => by
    have h1 := length_mergeT r (putK kvs p.1 p.2)
    have h2 := length_putK kvs p.1 p.2
    show (mergeT (putK kvs p.1 p.2) r).length ≤ _
    rw [List.length_cons]; omega
/-- pairs whose keys are tuples -/
def PairT (H : Hp) (p : V × V) (kv : List Key × V) : Prop := ∃ b, p.1 = .ref b ∧ H b = some (.tup (kv.1.map kV)) ∧ p.2 = kv.2
theorem carriesT {P : Program} {w : World} {H : Hp} {h : Heap} (ok : HOk P w H h) : ∀ {ps : List (V × V)} {kvs : List (List Key × V)} {ws : List (Value × Value)}, Paired (PairT H) ps kvs → VV ps ws → ∃ xs, CarriesH (tupleKind (mixKind P w)) h ws xs ∧ KT H kvs xs
  | _, _, _, .nil, .nil => ⟨[], trivial, .nil⟩
  | _, _, _, .cons c t, .cons (b := (u1, u2)) r rs => by
    obtain ⟨xs, c1, k1⟩ := carriesT ok t rs
    obtain ⟨b, e1, e2, e3⟩ := c
    obtain ⟨r1, r2⟩ := r
    rw [e1] at r1
    have r1 : u1 = Value.ref b := r1
    subst r1
    rw [e3] at r2
    exact ⟨(_, b, u2) :: xs, ⟨rfl, rfl, key_of ok e2, c1⟩, .cons ⟨rfl, e2, r2⟩ k1⟩
def tDispT (trs : List (TE × TE)) : TE := fun σ H Q => ∀ p, H p = none → tPairs trs σ (upd H p (.dT [])) fun ps H2 => H2 p = some (.dT []) ∧ ∃ kvs : List (List Key × V), Paired (PairT H2) ps kvs ∧ kvs.length ≤ 15 ∧ Q (.ref p) (upd H2 p (.dT (mergeT [] kvs)))
theorem pe_dispT {pos : Pos} {keys : List (Option Expr)} {values : List Expr} {trs : List (TE × TE)} (hu : X.A.units + 65 < cLine) (h : PPs X pos keys values trs) (hall : keys.all (·.isSome) = true) (hl : keys.length = values.length) (h0 : keys ≠ [])
    (h15 : keys.length ≤ 15) : PE X (.Dict keys values pos) (tDispT trs) := by
  refine ⟨fun pins s σ H Q I q => ?_⟩
  have hn := I.hok.fresh (Nat.le_refl s.heap.objs.size)
  have I1 := I.laid (a := s.heap.objs.size) (o := .dT []) (h' := s.heap.push { cls := .type "dict", data := .dict #[] }) (t' := s.toks) (fun _ _ q => Heap.get?_push_of_some _ q) (Nat.le_refl _) (dt_empty s.heap I.big)
  have hn2 := pairTrees_length keys values X.env pos hall hl
  have h02 : pairTrees keys values X.env pos ≠ [] := by
    intro he
    rw [he] at hn2
    exact h0 (List.length_eq_zero_iff.mp hn2.symm)
  rw [arm_eval_Dict, zip_pairTrees keys values X.env pos hall hl, dictDisplay_pairs (pairTrees keys values X.env pos) h02 (by omega)]
  refine wpAny_bind (wpAny_standAt (wpAny_bind (wpAny_subDictH (knd := tupleKind (mixKind X.prog X.w)) (hu := (show X.A.units < cLine by omega)) (by omega) (thn (h.run pins _ σ _ _ I1 (q _ hn)) fun ws s2 ⟨ps, H2, I2, rel, e, kvs, ep, lk, q2⟩ => ?_))))
  obtain ⟨rs, c, rk⟩ := carriesT I2.hok ep rel
  obtain ⟨z, hd, vs0, r0, dd⟩ := dt_of I2.hok e
  cases r0
  refine ⟨rs, c, dd, fun h' tk dd' hs => wpAny_pure ⟨.ref s.heap.objs.size, _, ?_, rfl, q2⟩⟩
  have hz : (mergeT [] kvs).length ≤ sizeLine := by
    have h1 := length_mergeT kvs []
    rw [List.length_nil] at h1
    rw [sizeLine_eq]; omega
  obtain ⟨q, es, ep, hq, h2, h3, h4, _, h5⟩ := dd'
  refine d_write I2 (by rw [e]; exact True.intro) hs ⟨q, hq⟩ ⟨hz, hd, _, (KT_merge rk .nil).keeps fun c ys ec => ?_, q, es, ep, hq, h2, h3, h4, h5⟩
  rw [upd_ne (ne_of ec e (fun z => nomatch z))]
  exact ec
end
section
variable {X : Cx} {B : BP} {C : Cl} {ES : XS} {pos : Pos}
/-- the readings of a display's pairs -/
def trsOf (B : BP) (K : PySem.W.Frag) (C : Cl) (ES : XS) : IEs → List (TE × TE)
  | .cons k (.cons v r) => (liftE B K (wpE C ES k), liftE B K (wpE C ES v)) :: trsOf B K C ES r
  | _ => []
def evenI : IEs → Bool
  | .cons _ (.cons _ r) => evenI r
  | .nil => true
  | .cons _ .nil => false
def prV : List V → List (V × V)
  | k :: v :: r => (k, v) :: prV r
  | _ => []
theorem pairs_of : ∀ (es : IEs), evenI es = true → ∀ {hs : Addr → Prop} {s : L2.St} {z : DSt} {st : Sto} {H : Hp} {R : List D → Sto → Prop} {Q : List (V × V) → Hp → Prop}, SR B ⟨X.K, hs⟩ st H s z → StoOk ⟨X.K, hs⟩ st H → wpEs C ES es z st R →
    (∀ xs st2 vs H2, R xs st2 → Step ⟨X.K, hs⟩ st H st2 H2 → Reps ⟨X.K, hs⟩ st2 H2 vs xs → StoOk ⟨X.K, hs⟩ st2 H2 → Q (prV vs) H2) → tPairs (trsOf B X.K C ES es) s H Q
  | .nil, _, hs, s, z, st, H, R, Q, sr, so, h, q => by
    simp only [wpEs] at h
    exact q [] st [] H h .refl .nil so
  | .cons k .nil, hv, _, _, _, _, _, _, _, _, _, _, _ => by cases hv
  | .cons k (.cons v r), hv, hs, s, z, st, H, R, Q, sr, so, h, q => by
    simp only [wpEs] at h
    refine ⟨hs, z, st, _, sr, so, h, fun d st1 v1 H1 h1 t1 r1 so1 => ⟨hs, z, st1, _, sr.mono t1, so1, h1, fun d2 st2 v2 H2 h2 t2 r2 so2 => ?_⟩⟩
    refine pairs_of r hv ((sr.mono t1).mono t2) so2 h2 fun xs st3 vs H3 h3 t3 r3 so3 => ?_
    exact q _ st3 (v1 :: v2 :: vs) H3 h3 ((t1.trans t2).trans t3) (.cons ((r1.mono t2).mono t3) (.cons (r2.mono t3) r3)) so3
theorem pairs_len {t : Bool} : ∀ {xs : List D} {kvs : List (List Key × D)}, pairsD t xs = some kvs → 2 * kvs.length = xs.length
  | [], kvs, h => by cases h; rfl
  | [_], kvs, h => by cases h
  | k :: v :: r, kvs, h => by
    simp only [pairsD] at h
    split at h
    · rename_i q l e1 e2
      cases h
      have := pairs_len e2
      simp only [List.length_cons]
      omega
    · cases h
theorem pairs_repT {K : KH} {st : Sto} {H : Hp} : ∀ {xs : List D} {kvs : List (List Key × D)} {vs : List V}, pairsD true xs = some kvs → Reps K st H vs xs → ∃ ys, Paired (PairT H) (prV vs) ((kvs.map (·.1)).zip ys) ∧ Reps K st H ys (kvs.map (·.2)) ∧ ∀ p ∈ kvs, p.1.length ≤ sizeLine
  | [], kvs, _, h, .nil => by cases h; exact ⟨[], .nil, .nil, fun p hp => by cases hp⟩
  | [_], kvs, _, h, _ => by cases h
  | k :: v :: r, kvs, _, h, .cons rk (.cons rv rr) => by
    simp only [pairsD] at h
    split at h
    · rename_i q l e1 e2
      cases h
      obtain ⟨ys, h1, h2, h3⟩ := pairs_repT e2 rr
      cases k <;> simp only [keyOf] at e1 <;> first | (cases e1; done) | skip
      cases rk with
      | tup hb rb zb =>
        have hkl : q.length ≤ sizeLine := by
          have := congrArg List.length (keys_tup e1 rb)
          rw [rb.length, List.length_map] at this
          omega
        rw [keys_tup e1 rb] at hb
        refine ⟨_ :: ys, .cons ⟨_, rfl, hb, rfl⟩ h1, .cons rv h2, fun p hp => ?_⟩
        rcases List.mem_cons.mp hp with rfl | hp
        · exact hkl
        · exact h3 p hp
    · cases h
theorem pairs_repK {K : KH} {st : Sto} {H : Hp} : ∀ {xs : List D} {kvs : List (List Key × D)} {vs : List V}, pairsD false xs = some kvs → Reps K st H vs xs → ∃ ys, prV vs = (((kvs.map (·.1)).map k1).zip ys).map (fun kv => (kV kv.1, kv.2)) ∧ Reps K st H ys (kvs.map (·.2)) ∧ ∀ p ∈ kvs, ∃ q, p.1 = [q]
  | [], kvs, _, h, .nil => by cases h; exact ⟨[], rfl, .nil, fun p hp => by cases hp⟩
  | [_], kvs, _, h, _ => by cases h
  | k :: v :: r, kvs, _, h, .cons rk (.cons (vs := vv) rv rr) => by
    simp only [pairsD] at h
    split at h
    · rename_i q l e1 e2
      cases h
      obtain ⟨ys, h1, h2, h3⟩ := pairs_repK e2 rr
      have fin : ∀ (qq : Key) (u : V), q = [qq] → u = kV qq → ∀ (v1 : V), Rep K st H v1 v → ∃ zs, prV (u :: v1 :: vv) = ((((((q, v) :: l).map (·.1)).map k1).zip zs).map (fun kv => (kV kv.1, kv.2))) ∧ Reps K st H zs ((((q, v) :: l)).map (·.2)) ∧ ∀ p ∈ ((q, v) :: l), ∃ q, p.1 = [q] := by
        intro qq u e3 e4 v1 rv
        subst e3 e4
        refine ⟨v1 :: ys, ?_, .cons rv h2, fun p hp => ?_⟩
        · simp only [prV, List.map_cons, List.zip_cons_cons, h1]
          rfl
        · rcases List.mem_cons.mp hp with rfl | hp
          · exact ⟨_, rfl⟩
          · exact h3 p hp
      cases k <;> simp only [keyOf] at e1 <;> first | (cases e1; done) | skip
      · cases rk
        cases e1
        exact fin _ _ rfl rfl _ rv
      · cases rk
        cases e1
        exact fin _ _ rfl rfl _ rv
    · cases h
/-- merging, place by place -/
theorem merge_zip {κ : Type} [DecidableEq κ] {K : KH} {st : Sto} {H : Hp} (f : List Key → κ) (P : List Key → Prop) (hP : ∀ a b, P a → P b → (f a = f b ↔ a = b)) : ∀ {more : List (List Key × D)} {ys : List V} {kvs : List (List Key × D)} {xs : List V}, (∀ p ∈ more, P p.1) → (∀ p ∈ kvs, P p.1) → Reps K st H ys (more.map (·.2)) → Reps K st H xs (kvs.map (·.2)) →
    ∃ zs, (((more.map fun p => f p.1).zip ys).foldl (fun acc kv => putK acc kv.1 kv.2) ((kvs.map fun p => f p.1).zip xs)) = ((mergeD kvs more).map fun p => f p.1).zip zs ∧ Reps K st H zs ((mergeD kvs more).map (·.2)) ∧ ∀ p ∈ mergeD kvs more, P p.1
  | [], _, kvs, xs, _, hk, .nil, r => ⟨xs, rfl, r, hk⟩
  | p :: more, _, kvs, xs, hm, hk, .cons (v := y) (vs := ys) ry rys, r => by
    obtain ⟨zs, h1, h2⟩ := put_zip (k := p.1) (q := f p.1) f ry rfl (fun q hq => hP q.1 p.1 (hk q hq) (hm p List.mem_cons_self)) r
    obtain ⟨ws, h3, h4⟩ := merge_zip f P hP (more := more) (ys := ys) (kvs := putD kvs p.1 p.2) (xs := zs) (fun q hq => hm q (List.mem_cons_of_mem _ hq)) (putD_keys hk (hm p List.mem_cons_self)) rys h2
    refine ⟨ws, ?_, h4⟩
    simp only [List.map_cons, List.zip_cons_cons, List.foldl_cons]
    rw [h1]
    exact h3
theorem mergeD_len : ∀ {more kvs : List (List Key × D)}, (mergeD kvs more).length ≤ kvs.length + more.length
  | [], kvs => by show kvs.length ≤ kvs.length + 0; omega
  | p :: more, kvs => by
    have h1 := mergeD_len (more := more) (kvs := putD kvs p.1 p.2)
    have h2 := putD_len (kvs := kvs) (k := p.1) (w := p.2)
    show (mergeD (putD kvs p.1 p.2) more).length ≤ _
    rw [List.length_cons]
    omega
theorem snd_dis {t : Bool} {es : IEs} {keys : List (Option Expr)} {values : List Expr} (hu : X.A.units + 65 < cLine) (h : PPs X pos keys values (trsOf B X.K C ES es)) (hv : evenI es = true) (hall : keys.all (·.isSome) = true) (hl : keys.length = values.length) (h0 : keys ≠ [])
    (h15 : keys.length ≤ 15) : PE X (.Dict keys values pos) (liftE B X.K (wpE C ES (.dis t es))) := by
  cases t with
  | false =>
    refine pe_imp (pe_disp h hall hl h0 h15) ?_
    rintro s H Q ⟨hs, z, st, R, sr, so, h, q⟩ p hp
    simp only [wpE] at h
    have so0 := so.newDct (t := false) hp
    have t0 : Step ⟨X.K, hs⟩ st H (put st p (.dct false [])) (upd H p (dHO false [] [])) := .newPut hp
    refine pairs_of es hv (sr.mono t0) so0 (h p (so.free hp)) fun xs st2 vs H2 h2 t2 r2 so2 => ?_
    obtain ⟨e, hx, kvs, ek, h2⟩ := h2
    obtain ⟨_, _, ws, hw, rw0⟩ := so2.c p _ e
    cases rw0
    obtain ⟨ys, h3, h4, h5⟩ := pairs_repK ek r2
    obtain ⟨zs, h6, h7, h8⟩ := merge_zip (fun l => k1 l) (fun l => ∃ q, l = [q]) (fun a b ⟨q1, e1⟩ ⟨q2, e2⟩ => by rw [e1, e2]; simp [k1]) (kvs := []) (xs := []) h5 (fun p hp => by cases hp) h4 .nil
    have hlen := pairs_len ek
    have ml := mergeD_len (more := kvs) (kvs := [])
    rw [List.length_nil] at ml
    have sz : 30 ≤ sizeLine := by decide
    obtain ⟨so3, t3⟩ := so2.setDct (t := false) e h7 (by omega) (fun p hp => by
      obtain ⟨q, e⟩ := h8 p hp
      exact ⟨by rw [e]; show 1 ≤ sizeLine; decide, fun _ => ⟨q, e⟩⟩)
    refine ⟨hw, _, h3, ?_, ?_⟩
    · rw [List.length_zip, List.length_map, List.length_map]
      omega
    · have e9 : mergeK [] (((kvs.map (·.1)).map k1).zip ys) = ((((mergeD [] kvs).map (·.1)).map k1)).zip zs := by
        rw [List.map_map, List.map_map]
        exact h6
      rw [e9]
      exact q _ _ _ _ h2 ((t0.trans t2).trans t3) (.ref p) so3
  | true =>
    refine pe_imp (pe_dispT hu h hall hl h0 h15) ?_
    rintro s H Q ⟨hs, z, st, R, sr, so, h, q⟩ p hp
    simp only [wpE] at h
    have so0 := so.newDct (t := true) hp
    have t0 : Step ⟨X.K, hs⟩ st H (put st p (.dct true [])) (upd H p (dHO true [] [])) := .newPut hp
    refine pairs_of es hv (sr.mono t0) so0 (h p (so.free hp)) fun xs st2 vs H2 h2 t2 r2 so2 => ?_
    obtain ⟨e, hx, kvs, ek, h2⟩ := h2
    obtain ⟨_, _, ws, hw, rw0⟩ := so2.c p _ e
    cases rw0
    obtain ⟨ys, h3, h4, h5⟩ := pairs_repT ek r2
    obtain ⟨zs, h6, h7, h8⟩ := merge_zip (fun l => l) (fun l => l.length ≤ sizeLine) (fun a b _ _ => Iff.rfl) (kvs := []) (xs := []) h5 (fun p hp => by cases hp) h4 .nil
    have hlen := pairs_len ek
    have ml := mergeD_len (more := kvs) (kvs := [])
    rw [List.length_nil] at ml
    have sz : 30 ≤ sizeLine := by decide
    obtain ⟨so3, t3⟩ := so2.setDct (t := true) e h7 (by omega) (fun p hp => ⟨h8 p hp, fun z => by cases z⟩)
    refine ⟨hw, _, h3, ?_, ?_⟩
    · rw [List.length_zip, List.length_map]
      omega
    · have e9 : mergeT [] ((kvs.map (·.1)).zip ys) = (((mergeD [] kvs).map (·.1))).zip zs := h6
      rw [e9]
      exact q _ _ _ _ h2 ((t0.trans t2).trans t3) (.ref p) so3
end
end Fy

/-! places, removals, backward walks -/
namespace Fy
open PySem PySem.Spec PyProof.Rows L2
variable [LamT]
/-! ### the first place -/
theorem first_of {α : Type} [DecidableEq α] : ∀ {l : List α} {k : α}, k ∈ l → ∃ j, j < l.length ∧ l[j]? = some k ∧ (∀ i, i < j → l[i]? ≠ some k) ∧ l.eraseIdx j = l.erase k
  | a :: r, k, h => by
    by_cases e : a = k
    · subst e
      exact ⟨0, by simp, rfl, fun i hi => by omega, by simp⟩
    · obtain ⟨j, h1, h2, h3, h4⟩ := first_of ((List.mem_cons.mp h).resolve_left fun z => e z.symm)
      refine ⟨j + 1, by simp; omega, by simpa using h2, fun i hi => ?_, ?_⟩
      · cases i with
        | zero => simpa using e
        | succ i => simpa using h3 i (by omega)
      · rw [List.eraseIdx_cons_succ, h4, List.erase_cons_tail (by simpa using e)]
section
variable {X : Cx}
/-! ### list.remove of texts -/
def eqs (k : Str) (v : Value) : Bool := match v with
  | .str n _ => n.cps.toList == k.cps.toList
  | _ => false
theorem str_eqs {a b : Str} : (a.cps.toList == b.cps.toList) = decide (a = b) := by
  rw [Bool.eq_iff_iff, beq_iff_eq, decide_eq_true_eq]
  constructor
  · intro h
    cases a
    cases b
    simp at h
    simp [h]
  · rintro rfl; rfl
theorem eqs_gives {k : Str} {t : Tok} : ∀ {us : List Value} {xs : List Str}, Vals (xs.map V.str) us → ∀ y ∈ us, MeetsSeq.EqGives y (.str k t) (eqs k y)
  | _, [], .nil => fun y hy => by cases hy
  | _, x :: xs, .cons r h => fun y hy => by
    obtain ⟨t', rfl⟩ := r
    rcases List.mem_cons.mp hy with e | e
    · rw [e]
      exact PySem.SeqRoads2.EqGives.str x k t' t
    · exact eqs_gives h y e
theorem erase_mapS : ∀ (l : List Str) (j : Nat), (l.map V.str).eraseIdx j = (l.eraseIdx j).map V.str
  | [], j => by simp
  | a :: r, 0 => by simp
  | a :: r, j + 1 => by
    have ih := erase_mapS r j
    simp [ih]
def rRemS : V → List V → Hp → VK → Prop := fun x xs H Q => ∃ (l : Addr) (ns : List Str) (k : Str) (j : Nat), x = .ref l ∧ xs = [.str k] ∧ H l = some (.lst (ns.map V.str)) ∧ ns[j]? = some k ∧ (∀ m : Nat, m < j → ns[m]? ≠ some k) ∧ Q .non (upd H l (.lst ((ns.eraseIdx j).map V.str)))
theorem mt_removeS : MtM X "list.remove" rRemS := by
  intro pins s σ H x xs v us Q I rx rxs h
  obtain ⟨l, ns, k, j, rfl, rfl, hH, hj, hno, q⟩ := h
  cases rx
  obtain ⟨u, rfl, ru⟩ := rxs.one
  obtain ⟨t, rfl⟩ := ru
  obtain ⟨z, its, n, r, hl, e⟩ := I.lstM hH
  rw [List.length_map] at hl z
  have hjn : j < ns.length := (List.getElem?_eq_some_iff.mp hj).1
  have hjl : j < its.toArray.size := by rw [List.size_toArray]; omega
  have at_ : ∀ (m : Nat) (hm : m < its.toArray.size), ∃ y t, ns[m]? = some y ∧ its.toArray[m] = .str y t := fun m hm => by
    have hml : m < its.length := by simpa using hm
    have hmn : m < ns.length := by omega
    obtain ⟨u, hu, ru⟩ := r.get (i := m) (x := V.str ns[m]) (by rw [List.getElem?_map, List.getElem?_eq_getElem hmn]; rfl)
    obtain ⟨t', rfl⟩ := ru
    obtain ⟨_, h2⟩ := List.getElem?_eq_some_iff.mp hu
    exact ⟨ns[m], t', List.getElem?_eq_getElem hmn, by simpa using h2⟩
  refine call_meets PySem.F.slot_list_remove ⟨_, e, rfl⟩ PySem.F.entry_list_remove (PySem.F.args_list_remove_2 _ _)
    (MeetsSeq.list_remove l its.toArray n (.str k t) (eqs k) (fun y hy => eqs_gives r y (by simpa using hy)) j hjl ?_ ?_ (by rw [List.size_toArray]; omega)) ⟨e, ?_⟩
  · obtain ⟨y, t', h1, h2⟩ := at_ j hjl
    rw [hj] at h1
    cases h1
    rw [h2]
    exact beq_self_eq_true _
  · intro m hm hmj
    obtain ⟨y, t', h1, h2⟩ := at_ m hm
    rw [h2]
    show (y.cps.toList == k.cps.toList) = false
    rw [str_eqs, decide_eq_false_iff_not]
    rintro rfl
    exact hno m hmj h1
  · have rr := r.eraseIdx j
    rw [erase_mapS] at rr
    refine ⟨.non, _, I.lset (its' := its.eraseIdx j) (t' := s.toks) hH e ?_ rr ?_, rfl, q⟩
    · show its.toArray.eraseIdxIfInBounds j = (its.eraseIdx j).toArray
      rw [List.eraseIdxIfInBounds_toArray]
    · have z2 : (ns.eraseIdx j).length ≤ ns.length := List.length_eraseIdx_le ns j
      rw [List.length_map]
      omega
def rRem : V → List V → Hp → VK → Prop := fun x xs H Q => rRemI x xs H Q ∨ rRemS x xs H Q
theorem mt_rem : MtR X "list.remove" rRem := fun pins s σ H x xs v us Q I rx rxs h => by
  rcases h with h | h
  · exact mt_remove pins s σ H x xs v us Q I rx rxs h
  · exact mt_removeS pins s σ H x xs v us Q I rx rxs h
/-! ### index -/
def rIdx (K : PySem.W.Frag) : V → List V → Hp → VK → Prop := fun x xs H Q => rIndex K x xs H Q ∨ rIndexD K x xs H Q
theorem mt_idx (hu : X.A.units + 65 < cLine) : MtR X "list.index" (rIdx X.K) := fun pins s σ H x xs v us Q I rx rxs h => by
  rcases h with h | h
  · exact mt_index pins s σ H x xs v us Q I rx rxs h
  · exact mt_indexD hu pins s σ H x xs v us Q I rx rxs h
end
theorem Reps.ints_eq {K : KH} {st : Sto} {H : Hp} : ∀ {ns : List Int} {xs : List V}, Reps K st H xs (ns.map D.int) → xs = ns.map V.int
  | [], _, .nil => rfl
  | n :: ns, _, .cons r t => by
    cases r
    rw [List.map_cons, Reps.ints_eq t]
theorem Reps.strs_eq {K : KH} {st : Sto} {H : Hp} : ∀ {ns : List Str} {xs : List V}, Reps K st H xs (ns.map D.str) → xs = ns.map V.str
  | [], _, .nil => rfl
  | n :: ns, _, .cons r t => by
    cases r
    rw [List.map_cons, Reps.strs_eq t]
theorem Reps.strs {K : KH} {st : Sto} {H : Hp} : ∀ ns : List Str, Reps K st H (ns.map V.str) (ns.map D.str)
  | [] => .nil
  | n :: r => .cons (.str n) (Reps.strs r)
/-! ### backward walks -/
theorem itc_ok {K : PySem.W.Frag} (hi : Int) (n : Nat) : ItOk K (Itc hi (-1) n) ⟨downD hi n, none⟩ (fun _ _ _ => True) where
  step := fun _ _ _ _ _ _ _ _ _ _ => trivial
  go := fun hs i st H _ h => by
    show i < n
    simpa [downD] using h
  yld := fun hs i st H x H2 _ so h y => by
    obtain ⟨e, rfl⟩ := y
    subst e
    have h' : i < n := by simpa [downD] using h
    refine ⟨.refl, so, .int (hi - i), by simp [downD, h'], ?_⟩
    rw [show hi + (i : Int) * -1 = hi - i by omega]
    exact .int _
  stop := fun hs i st H _ h => by
    show n ≤ i
    simpa [downD] using h
theorem rev_get {xs : List V} {x : V} {n i : Nat} (hn : xs.length = n) (hi : i < n) (h : xs[n - 1 - i]? = some x) : xs.reverse[i]? = some x := by
  rw [List.getElem?_reverse (by omega), hn]
  exact h
theorem Reps.rvs {K : KH} {st : Sto} {H : Hp} : ∀ {vs : List V} {ds : List D}, Reps K st H vs ds → Reps K st H vs.reverse ds.reverse
  | _, _, .nil => .nil
  | _, _, .cons q r => by
    rw [List.reverse_cons, List.reverse_cons]
    exact (Reps.rvs r).append (.cons q .nil)
theorem itv_ok {K : PySem.W.Frag} {p : Addr} {ds : List D} {own : Option (Addr × List D)} {n : Nat} {L : (Addr → Prop) → Sto → Hp → Prop} (hn : ds.length = n) (h : ∀ hs st H, L hs st H → ∃ xs, SqL K H p xs ∧ Reps ⟨K, hs⟩ st H xs ds)
    (hst : ∀ hs hs2 st H st2 H2, L hs st H → RSt ⟨K, hs⟩ ⟨K, hs2⟩ st H st2 H2 → StoOk ⟨K, hs2⟩ st2 H2 → (⟨ds.reverse, own⟩ : Src).ok st2 → L hs2 st2 H2) : ItOk K (Itv K p n) ⟨ds.reverse, own⟩ L where
  step := hst
  go := fun hs i st H l hi => by
    obtain ⟨xs, hx, r⟩ := h hs st H l
    have hl := r.length
    have hi : i < ds.length := by simpa using hi
    exact ⟨by omega, xs, xs[n - 1 - i]'(by omega), hx, List.getElem?_eq_getElem _⟩
  yld := fun hs i st H x H2 l so hi y => by
    obtain ⟨xs, hx, r⟩ := h hs st H l
    obtain ⟨e, y⟩ := y
    subst e
    have hl := r.length
    have hi : i < ds.length := by simpa using hi
    exact ⟨.refl, so, r.rvs.get' (rev_get (by omega) (by omega) (y xs hx))⟩
  stop := fun hs i st H l hi => by
    have hi : ds.length ≤ i := by simpa using hi
    show n ≤ i
    omega
theorem itvt_ok {K : PySem.W.Frag} {p : Addr} {ds : List D} {n : Nat} {L : (Addr → Prop) → Sto → Hp → Prop} (hn : ds.length = n) (h : ∀ hs st H, L hs st H → ∃ xs, SqT K H p xs ∧ Reps ⟨K, hs⟩ st H xs ds)
    (hst : ∀ hs hs2 st H st2 H2, L hs st H → RSt ⟨K, hs⟩ ⟨K, hs2⟩ st H st2 H2 → L hs2 st2 H2) : ItOk K (RT.ItvT K p n) ⟨ds.reverse, none⟩ L where
  step := fun hs hs2 st H st2 H2 l t _ _ => hst hs hs2 st H st2 H2 l t
  go := fun hs i st H l hi => by
    obtain ⟨xs, hx, r⟩ := h hs st H l
    have hl := r.length
    have hi : i < ds.length := by simpa using hi
    exact ⟨by omega, xs, xs[n - 1 - i]'(by omega), hx, List.getElem?_eq_getElem _⟩
  yld := fun hs i st H x H2 l so hi y => by
    obtain ⟨xs, hx, r⟩ := h hs st H l
    obtain ⟨e, y⟩ := y
    subst e
    have hl := r.length
    have hi : i < ds.length := by simpa using hi
    exact ⟨.refl, so, r.rvs.get' (rev_get (by omega) (by omega) (y xs hx))⟩
  stop := fun hs i st H l hi => by
    have hi : ds.length ≤ i := by simpa using hi
    show n ≤ i
    omega
section
variable {B : BP} {X : Cx} {C : Cl} {ES : XS} {a b c tg : Expr} {ia ib ic : IE} {pos : Pos}
theorem snd_rvd {p : Pos} (hg : Gl X "reversed") (hm : X.mg "reversed" = none) (hn : noStar a = true) (ha : PE X a (liftE B X.K (wpE C ES ia))) : PI X tg (.Call (.Name "reversed" p) [a] [] pos) (liftI B X.K (wpI C ES (.rvd ia))) := by
  refine pi_imp (RT.pi_revA hg hm ha (star_cons hn)) ?_
  rintro s H Q ⟨hs, z, st, R, sr, so, h, q⟩
  simp only [wpI] at h
  refine ⟨hs, z, st, _, sr, so, h, fun d st1 v H1 h1 t1 r1 so1 => ?_⟩
  unfold rvdP at h1
  split at h1
  · cases r1 with
    | tup hq r hz =>
      have hq := SqT.of (K := X.K) hq
      refine ⟨_, _, rfl, .inr ⟨hq, q _ st1 H1 _ (fun hs st H => ∃ xs, SqT X.K H _ xs ∧ Reps ⟨X.K, hs⟩ st H xs _) h1 t1 so1 (itvt_ok r.length.symm (fun _ _ _ l => l) ?_) ⟨_, hq, r⟩ (by simpa using hz)⟩⟩
      rintro hs hs2 st H st2 H2 ⟨xs, hx, r⟩ t
      exact ⟨xs, t.sqT hx, r.mon t⟩
  · cases r1 with
    | tix hq _ _ r hz =>
      have hq := sqT_fz (K := X.K) hq
      refine ⟨_, _, rfl, .inr ⟨hq, q _ st1 H1 _ (fun hs st H => ∃ xs, SqT X.K H _ xs ∧ Reps ⟨X.K, hs⟩ st H xs _) h1 t1 so1 (itvt_ok r.length.symm (fun _ _ _ l => l) ?_) ⟨_, hq, r⟩ (by simpa using hz)⟩⟩
      rintro hs hs2 st H st2 H2 ⟨xs, hx, r⟩ t
      exact ⟨xs, t.sqT hx, r.mon t⟩
  · cases r1 with
    | fl hq r hz =>
      refine ⟨_, _, rfl, .inl ⟨hq.sq, q _ st1 H1 _ (fun hs st H => ∃ xs, FlL ⟨X.K, hs⟩ st H _ xs ∧ Reps ⟨X.K, hs⟩ st H xs _) h1 t1 so1 (itv_ok r.length.symm (fun _ _ _ ⟨xs, hx, r⟩ => ⟨xs, hx.sq, r⟩) ?_) ⟨_, hq, r⟩ (by simpa using hz)⟩⟩
      rintro hs hs2 st H st2 H2 ⟨xs, hx, r⟩ t so2 _
      exact ⟨xs, t.fz _ _ hx.1 hx.2.1 hx.2.2, r.mon t⟩
  · rename_i p
    obtain ⟨ds, e, h1⟩ := h1
    cases r1
    obtain ⟨hz, xs, hx, r⟩ := so1.c p _ e
    refine ⟨_, _, rfl, .inl ⟨SqL.of hx, q _ st1 H1 _ (fun hs st H => ∃ xs, H p = some (.lst xs) ∧ Reps ⟨X.K, hs⟩ st H xs ds) h1 t1 so1 (itv_ok r.length.symm (fun _ _ _ ⟨xs, hx, r⟩ => ⟨xs, SqL.of hx, r⟩) ?_) ⟨_, hx, r⟩ (by simpa using hz)⟩⟩
    rintro hs hs2 st H st2 H2 _ t so2 ok
    obtain ⟨_, xs, hx, r⟩ := so2.c p _ ok
    exact ⟨xs, hx, r⟩
  · exact h1.elim
theorem snd_rngd {p : Pos} (hg : Gl X "range") (hm : X.mg "range" = none) (hn : noStar a = true) (hn2 : noStar b = true) (hn3 : noStar c = true) (ha : PE X a (liftE B X.K (wpE C ES ia))) (hb : PE X b (liftE B X.K (wpE C ES ib))) (hc : PE X c (liftE B X.K (wpE C ES ic))) :
    PI X tg (.Call (.Name "range" p) [a, b, c] [] pos) (liftI B X.K (wpI C ES (.rngd ia ib ic))) := by
  have nb : ([b, c] : List Expr).all noStar = true := by rw [List.all_cons, List.all_cons, hn2, hn3]; rfl
  refine pi_imp (pi_range3 hg hm (snd_cons hn ha (snd_cons hn2 hb (snd_cons hn3 hc snd_nil))) (by rw [star_cons hn]) (any_back nb)) ?_
  rintro s H Q ⟨hs, z, st, R, sr, so, h, q⟩
  simp only [wpI] at h
  refine ⟨hs, z, st, fun ds st1 => ∃ d e f, ds = [d, e, f] ∧ rngdP d e f st1 R, sr, so, ?_, fun ds st1 vs H1 h1 n1 t1 r1 so1 => ?_⟩
  · simp only [wpEs]
    refine (congrArg (wpE C ES ia z st) ?_).mp h
    funext x st1
    refine congrArg (wpE C ES ib z st1) ?_
    funext y st2
    refine congrArg (wpE C ES ic z st2) ?_
    funext w st3
    simp
    constructor
    · intro h
      exact ⟨x, y, w, ⟨rfl, rfl, rfl⟩, h⟩
    · rintro ⟨_, _, _, ⟨rfl, rfl, rfl⟩, h⟩
      exact h
  · obtain ⟨d, e, f, rfl, h1⟩ := h1
    cases d <;> cases e <;> cases f <;> first | exact h1.elim | skip
    cases r1 with
    | cons r1 rr =>
      cases rr with
      | cons r2 rr =>
        cases rr with
        | cons r3 rr =>
          cases rr
          cases r1
          cases r2
          cases r3
          rename_i i j c
          obtain ⟨rfl, hb, h1⟩ := h1
          exact ⟨i, j, -1, (i - j).toNat, rfl, RgC.neg (by omega) (by omega) (by omega) (by omega), q _ st1 H1 _ _ h1 t1 so1 (itc_ok i _) trivial (by show (downD i (i - j).toNat).length ≤ _; unfold downD; rw [List.length_map, List.length_range, sizeLine_eq]; omega)⟩
theorem snd_trv {p p2 pos2 : Pos} (hc : X.calm = true) (hg : Gl X "tuple") (hm : X.mg "tuple" = none) (hg2 : Gl X "reversed") (hm2 : X.mg "reversed" = none) (hn : noStar a = true) (ha : PE X a (liftE B X.K (wpE C ES ia))) :
    PE X (.Call (.Name "tuple" p) [.Call (.Name "reversed" p2) [a] [] pos2] [] pos) (liftE B X.K (wpE C ES (.trv ia))) := by
  refine pe_imp (RT.pe_tupRev hc hg hm hg2 hm2 ha (star_cons hn)) ?_
  rintro s H Q ⟨hs, w, st, R, sr, so, h, q⟩
  simp only [wpE] at h
  refine ⟨hs, w, st, _, sr, so, h, fun d st1 v H1 h1 t1 r1 so1 => ?_⟩
  unfold lstP at h1
  split at h1
  · cases r1 with
    | fl hq r hz => exact ⟨_, _, rfl, hq.sq, fun p hp => q _ st1 _ _ h1 (t1.trans (.new hp)) (.tup upd_same (r.rvs.mono (.new hp)) (by simpa using hz)) (so1.new hp)⟩
  · obtain ⟨ds, e, h1⟩ := h1
    cases r1
    obtain ⟨hz, xs, hx, r⟩ := so1.c _ _ e
    exact ⟨_, _, rfl, SqL.of hx, fun p hp => q _ st1 _ _ h1 (t1.trans (.new hp)) (.tup upd_same (r.rvs.mono (.new hp)) (by simpa using hz)) (so1.new hp)⟩
  · exact h1.elim
end
end Fy

set_option maxHeartbeats 2000000
/-! an own class of errors: __init__(self, f) says super().__init__(text), then self.f = f -/
namespace Fy
open PySem PySem.Spec PyProof.Rows L2
variable [LamT]
namespace XI
open PySem.W PySem.Calls PySem.HandSPX
def prm (f : Str) (p1 p2 : Pos) : Arguments :=
  ⟨[], [⟨"self", none, p1⟩, ⟨f, none, p2⟩], none, [], [], none, []⟩
def bod (m f : Str) (j : Nat) (a1 a2 a3 a4 a5 a6 q1 q2 q3 q4 : Pos) : List Stmt :=
  [.Expr (.Call (.Attribute (.Call (.Name "super" a1) [] [] a2) "__init__" a3) [.Constant (.str m) j a4] [] a5) a6,
   .Assign [.Attribute (.Name "self" q1) f q2] (.Name f q3) q4]
def scOk (sc : Scope) (f : Str) : Bool := sc.kind == .function && !sc.isCoroutine && !sc.isGenerator && sc.names.all (fun y => match y.2 with | .cell => false | _ => true) &&
  decide (sc.names.lookup ("self" : Str) = some .local) && decide (sc.names.lookup f = some .local) && decide (sc.names.lookup ("super" : Str) = some .globalImplicit) && decide (sc.names.lookup ("__class__" : Str) = some .free) && !(f == ("self" : Str)) && !(f == ("__debug__" : Str))
/-- what stands of such a class, at C, its __init__ at fi, the cell of __class__ at cc, the code at co -/
structure Txt (P : Program) (K : Frag) (f : Str) (C fi cc co : Addr) : Prop where
  cls : ∃ nm q N bs bm sn sub ab col dd k0 k1 k2 k3 k5, K.lookup C = some (excClassObj nm q C N bs bm true sn sub ab col dd k0 k1 k2 k3 k5 "ValueError.__new__") ∧ refsVE bm = true
  sa : findIn K (.ref C) "__setattr__" = some (some (.builtin "object.__setattr__"))
  nof : findIn K (.ref C) f = some none
  ini : findIn K (.ref C) "__init__" = some (some (.ref fi))
  tfi : typeIn K (.ref fi) = some (.type "function")
  fn : ∃ (oc : Value) (od : Option Addr) (doc pm : Value) (an : Option Addr) (ct : Value) (osl : Array (Option Value)) (qual m : Str) (j : Nat) (sc : Scope) (p1 p2 a1 a2 a3 a4 a5 a6 q1 q2 q3 q4 : Pos),
    K.lookup fi = some ⟨oc, od, .func (ksFn "__init__" qual (prm f p1 p2) (bod m f j a1 a2 a3 a4 a5 a6 q1 q2 q3 q4) sc .none .none doc pm an (.ref co) ct cc), osl⟩ ∧ codeIn K (.ref co) qual = true ∧ scOk sc f = true ∧ (a3.endLine == a5.line) = true ∧
    ∀ a b : Value, bindArgs (ksFn "__init__" qual (prm f p1 p2) (bod m f j a1 a2 a3 a4 a5 a6 q1 q2 q3 q4) sc .none .none doc pm an (.ref co) ct cc) ⟨[a, b], []⟩ = pure [(("self" : Str), a), (f, b)]
  cod : ∃ c1 c2 vs c3 fl tf, K.lookup co = some ⟨c1, c2, .fields vs, c3⟩ ∧ vs[2]? = some (.str fl tf) ∧ ((P.main.file : Str) == fl) = true
  cel : ∃ c1 c2 c3, K.lookup cc = some ⟨c1, c2, .cell (some (.ref C)), c3⟩
  mro : mroIn K C (.ref C) = some true
  top : (P.main.scope.names.lookup ("super" : Str)).isSome = false
  opq : nsIn K cStatics "thirdparty.any" = some none
  sup : ks_superIn K C C "__init__" = some (some (.builtin "ValueError.__init__"))
  sub : subIn K (.ref C) (.type "ValueError") = some true
/-- what the __init__ leaves -/
structure End (h h' : Heap) (x C dx : Addr) (f : Str) (v : Value) : Prop where
  keep : ∀ b o, b ≠ x → h.get? b = some o → h'.get? b = some o
  obj : ∃ t1, h'.get? x = some { cls := .ref C, dict := some dx, data := .fields #[.ref t1, .none, .none, .none, .bool false, .none] }
  big : h.objs.size ≤ dx
  ne : dx ≠ x
  ns : h'.Ns1 dx (fun y => if y = f then some v else none)
section
variable {prog : Program} {w : World} {A : Around} {E : Value → Shared → Prop} {R : Result → Shared → Prop} {s : Shared} {K : Frag} {mg : Str → Option Value} {f : Str} {C fi cc co : Addr}
/-- the bound ValueError.__init__ called -/
theorem call_mw {nm q : Str} {N : Addr} {bs bm : List Value} {hd : Bool} {sn : List Str} {sub : List Value} {ab : Bool} {col : Option Bool} {dd : Option Addr} {k0 k1 k2 k3 k5 : Option Value} {u e t0 : Addr} {us : List Value} {Q : Value → Shared → Prop}
    (hC : s.heap.get? C = some (excClassObj nm q C N bs bm hd sn sub ab col dd k0 k1 k2 k3 k5 "ValueError.__new__")) (he : s.heap.get? e = some (excO C t0)) (hu : s.heap.get? u = some (kxs_mw "ValueError.__init__" e)) (hz : us.length ≤ sizeLine)
    (fin : ∀ h2 t1, (∀ b o, b ≠ e → s.heap.get? b = some o → h2.get? b = some o) → h2.get? e = some (excO C t1) → Q .none { s with heap := h2 }) :
    wpAny (model prog w) A (call (.ref u) us) Q E s := by
  obtain ⟨hp, g, d, tk, os⟩ := s
  apply wpAny_call
  apply codeAny_of_tree
  show wpAny _ A.in1 (callAny (.ref u) ⟨us, []⟩) _ _ _
  simp only [callAny]
  apply wpAny_bind
  apply wpAny_load hu
  have c1 : (Value.type "method-wrapper" == Value.type "method" || Value.type "method-wrapper" == Value.type "builtin_function_or_method" || Value.type "method-wrapper" == Value.type "method-wrapper") = true := by decide
  simp only [kxs_mw, c1, if_true]
  refine KFB.if_so (by decide) <| wpAny_bind <| check_bound_init PySem.F.excBase_ValueError.toExcCallFacts hC he rfl <| wpAny_bind <| wpAny_pure <| wpAny_pure ?_
  refine ⟨plainId_quiet PySem.F.excBase_ValueError.init.plain _, codeAny_builtin PySem.F.excBase_ValueError.initEntry ?_⟩
  exact exc_init_tree (cls := .ref C) (t0 := t0) (dv := none) (c2 := .none) (c3 := .none) (b4 := .bool false) he hz fun h2 k2 e2 _ => fin h2 _ k2 e2
theorem init_run (T : Txt prog K f C fi cc co) (hsu : mg "super" = none) {x t0 : Addr} {v : Value} (X : K.In s.heap) (G : s.heap.Ns mainGlobals mg) (Bt : ∃ mb, s.heap.Ns builtinsNs mb ∧ ∀ y : Str, y ≠ "__name__" → mb y = bootBuiltins y) (hlim : s.heap.NoLimit)
    (hx : s.heap.get? x = some (excO C t0)) (hnx : K.lookup x = none) (hroom : A.depth < recursionLimit) (hq : ∀ h' tk dx, End s.heap h' x C dx f v → R (.ok (.ret .none)) { s with heap := h', toks := tk }) :
    codeAny (model prog w) A (.call (.ref fi) ⟨[.ref x, v], []⟩) R s := by
  obtain ⟨oc, od, doc, pm, an, ct, osl, qual, m, j, sc, p1, p2, a1, a2, a3, a4, a5, a6, q1, q2, q3, q4, ho, hcd, hsc, hli, hbi⟩ := T.fn
  obtain ⟨nm, q, N, bs, bm, sn, sub, ab, col, dd, k0, k1, k2, k3, k5, hC, hbm⟩ := T.cls
  obtain ⟨c1, c2, vs, c3, fl, tf, hco, hvs, hfl⟩ := T.cod
  obtain ⟨e1, e2, e3, hce⟩ := T.cel
  obtain ⟨mb, hb1, hb2⟩ := Bt
  simp only [scOk, Bool.and_eq_true, decide_eq_true_eq, Bool.not_eq_true', List.all_eq_true, beq_iff_eq] at hsc
  obtain ⟨⟨⟨⟨⟨⟨⟨⟨⟨sk, sco⟩, sg⟩, scl⟩, ss⟩, sf⟩, su⟩, scc⟩, fns⟩, fnd⟩ := hsc
  obtain ⟨sk0, sn0, sg0, sc0, sm0⟩ := sc
  dsimp only at sk sco sg scl ss sf su scc
  subst sk
  have fns2 : ("self" == f) = false := by
    rw [beq_eq_false_iff_ne] at fns ⊢
    exact fun z => fns z.symm
  have hcl : ∃ cd, clsIn K C = some cd ∧ refsVE cd.mro = true ∧ cd.hasDict = true := ⟨{ name := nm, bases := bs, mro := .ref C :: bm, ns := N, qualname := q, hasDict := true, slotNames := sn, subclasses := sub, abstract := ab, collection := col, hasDel := false }, by unfold clsIn; rw [hC] <;> rfl, hbm, rfl⟩
  obtain ⟨cd, hcd1, hcd2, hcd3⟩ := hcl
  refine ks_codeAny_call_defAt (binds := [("self", .ref x), (f, v)]) hroom (X _ _ ho) rfl hlim (codeRec_of X hcd) rfl (.of_eq (hbi _ _)) (fun y hy z => ?_) (fun y hy => ?_) (fun h1 hn kp => ?_) sco sg rfl
  · have := scl y hy
    rw [z] at this
    cases this
  · simp only [List.mem_cons, List.not_mem_nil, or_false] at hy
    rcases hy with rfl | rfl
    · exact ss
    · exact sf
  have hn' : h1.Ns s.heap.objs.size (fun y => [(f, v), (("self" : Str), Value.ref x)].lookup y) := hn
  have X1 : K.In h1 := X.keeps kp
  have hx1 := kp _ _ hx
  have m1 : [(f, v), (("self" : Str), Value.ref x)].lookup ("self" : Str) = some (.ref x) := by simp [List.lookup, fns2]
  have m2 : [(f, v), (("self" : Str), Value.ref x)].lookup f = some v := by simp [List.lookup]
  show _root_.PySem.wpAt _ (A.deeper (ksEnv qual ⟨.function, sn0, sg0, sc0, sm0⟩ s.heap.objs.size fi (.ref co) cc)) (.func _ (ksEnv qual ⟨.function, sn0, sg0, sc0, sm0⟩ s.heap.objs.size fi (.ref co) cc)) (execs (bod m f j a1 a2 a3 a4 a5 a6 q1 q2 q3 q4) (ksEnv qual ⟨.function, sn0, sg0, sc0, sm0⟩ s.heap.objs.size fi (.ref co) cc)) _ _ _
  refine ks_wpAt_execs_cons <| ks_wpAt_Expr_any <| ks_wpAt_MethodCall (pl := L2.plainOf (.Call (.Name "super" a1) [] [] a2) (ksEnv qual ⟨.function, sn0, sg0, sc0, sm0⟩ s.heap.objs.size fi (.ref co) cc)) ?_ (by
    conv => lhs; unfold eval
    refine congrArg (fun t => attributeBase _ _ _ _ >>= t) (funext fun ov => congrArg (fun t => standAt _ >>= t) (funext fun _ => ?_))
    exact L2.mcall_line rfl hli)
  refine ks_wpAt_super_base (env := ksEnv qual ⟨.function, sn0, sg0, sc0, sm0⟩ s.heap.objs.size fi (.ref co) cc) su scc (by decide) rfl (X1 _ _ ho) rfl rfl rfl (X1 _ _ hco) rfl hvs hfl T.top ?_
  refine ks_loadName_global rfl su (loadGlobal_builtin (env := ksEnv qual ⟨.function, sn0, sg0, sc0, sm0⟩ s.heap.objs.size fi (.ref co) cc) (G.keeps kp) hsu (hb1.keeps kp) ((hb2 _ (by decide)).trans (by first | boot_by_name | rfl | kernel_rfl)) ⟨rfl, ?_⟩)
  refine wpAny_loadName_free rfl scc rfl ⟨_, X1 _ _ hce, rfl⟩ <| wpAny_loadName_local rfl ss hn' m1 ?_
  refine ks_wpAny_isType_cls (X1 _ _ hC) rfl ⟨rfl, ?_⟩
  refine ks_wpAny_call_super (X1 _ _ hC) rfl hx1 rfl (fun c z => nomatch z) (looks_mroIn X1 T.mro) fun h2 so k2 => ?_
  have X2 : K.In h2 := X1.keeps k2
  have hx2 := k2 _ _ hx1
  have sup := T.sup
  unfold ks_superIn at sup
  rw [hcd1] at sup
  have I2 : InstAt h2 x (excO C t0) C none := ⟨hx2, rfl, rfl, trivial⟩
  refine kxs_getMethod kxs_ValueError so (looks_opaque X2 T.opq) (l₀ := cd.mro) ?_ rfl X2 sup (I2.type.andThen (looks_subIn X2 T.sub)) (ks_ne X2 I2 hcd1) (by decide) ?_
  · exact fun _ _ _ _ k y => wpAny_bind ((looks_clsIn X2 hcd1) _ _ _ _ k (wpAny_pure y))
  refine kxs_callWith (i := "ValueError.__init__") (x := x) rfl <| evalArgs_plain <| spliced_more (Calls.Constant_str <| spliced_none ?_)
  have k3' : ∀ b o, h2.get? b = some o → (h2.push (kxs_mw "ValueError.__init__" x)).get? b = some o := fun b o y => Heap.get?_push_of_some _ y
  refine ⟨Heap.get?_push_at rfl rfl, call_mw (C := C) (X2.keeps k3' _ _ hC) (k3' _ _ hx2) (Heap.get?_push_at rfl rfl) (by rw [sizeLine_eq]; exact (by decide : 1 ≤ 16777216)) fun h4 t1 k4 hx4 => ?_⟩
  have all4 : ∀ b o, b ≠ x → s.heap.get? b = some o → h4.get? b = some o := fun b o hb y => k4 b o hb (k3' _ _ (k2 _ _ (kp _ _ y)))
  have X4 : K.In h4 := fun b o y => all4 b o (fun z => by rw [z, hnx] at y; cases y) (X _ _ y)
  have hn4 : h4.Ns s.heap.objs.size (fun y => [(f, v), (("self" : Str), Value.ref x)].lookup y) := by
    obtain ⟨oL, es, ep, hL, r⟩ := hn'
    exact ⟨oL, es, ep, k4 _ _ (Nat.ne_of_gt (Heap.lt_size hx)) (k3' _ _ (k2 _ _ hL)), r⟩
  have sz : s.heap.objs.size < h4.objs.size := hn4.lt
  refine ks_wpAt_execs_cons <| _root_.PySem.wpAt_of_wpAny <| plainObj_wpAny_Assign_Attribute ?_
  refine wpAny_Name (wpAny_loadName_local rfl sf hn4 m2 ?_) fnd
  refine wpAny_Name (wpAny_loadName_local rfl ss hn4 m1 ?_) (by decide)
  refine set_plain X4 (ox := excO C t1) (od := none) ⟨hx4, rfl, rfl, trivial⟩ T.sa ?_
  refine exc_osa X4 hx4 hcd1 hcd2 hcd3 T.nof fun h5 tk5 dx k5 dn dne hx5 hn5 => ?_
  show _root_.PySem.wpAt _ _ _ (execs [] _) _ _ _
  refine _root_.PySem.wpAt_of_wpAny <| wpAny_execs_nil ?_
  exact hq h5 tk5 dx ⟨fun b o hb y => k5 b o hb (all4 b o hb y), ⟨t1, hx5⟩, Nat.le_of_lt (Nat.lt_of_lt_of_le sz dn), dne, hn5⟩
/-- a made one -/
structure Made (h h' : Heap) (e C d : Addr) (f : Str) (v : Value) : Prop where
  keep : ∀ b o, h.get? b = some o → h'.get? b = some o
  new : h.objs.size ≤ e
  obj : ∃ oe vs, h'.get? e = some oe ∧ oe.cls = .ref C ∧ oe.dict = some d ∧ oe.data = .fields vs ∧ vs[1]? = some .none
  big : h.objs.size ≤ d
  ne : d ≠ e
  ns : h'.Ns1 d (fun y => if y = f then some v else none)
theorem made (T : Txt prog K f C fi cc co) (hsu : mg "super" = none) {v : Value} (X : K.In s.heap) (G : s.heap.Ns mainGlobals mg) (Bt : ∃ mb, s.heap.Ns builtinsNs mb ∧ ∀ y : Str, y ≠ "__name__" → mb y = bootBuiltins y) (hlim : s.heap.NoLimit) (hroom : A.depth + 1 < recursionLimit)
    (hq : ∀ h' tk e d, Made s.heap h' e C d f v → R (.ok (.ret (.ref e))) { s with heap := h', toks := tk }) : codeAny (model prog w) A (.call (.ref C) ⟨[v], []⟩) R s := by
  obtain ⟨nm, q, N, bs, bm, sn, sub, ab, col, dd, k0, k1, k2, k3, k5, hC, hbm⟩ := T.cls
  obtain ⟨hp, g, dr, tk, os⟩ := s
  have kp : ∀ b o, hp.get? b = some o → ((hp.push (kdv_tup [v])).push (excO C hp.objs.size)).get? b = some o := fun b o z => Heap.get?_push_of_some _ <| Heap.get?_push_of_some _ z
  have hx : ((hp.push (kdv_tup [v])).push (excO C hp.objs.size)).get? (hp.objs.size + 1) = some (excO C hp.objs.size) := by heap_get
  have hno : K.lookup (hp.objs.size + 1) = none := by
    cases z : K.lookup (hp.objs.size + 1) with
    | none => rfl
    | some o => exact absurd (Nat.lt_of_succ_lt (Heap.lt_size (show hp.get? (hp.objs.size + 1) = some o from X _ _ z))) (Nat.lt_irrefl _)
  obtain ⟨mb, hb1, hb2⟩ := Bt
  have one : [v].length ≤ sizeLine := by rw [sizeLine_eq]; exact (by decide : 1 ≤ 16777216)
  refine call_own PySem.F.excBase_ValueError (fun y => refsVE_contains y bm hbm) (X _ _ hC) (looks_findIn X T.ini) (fun self => bind_fn X self T.tfi) one ?_
  refine init_run (mg := mg) (s := ⟨(hp.push (kdv_tup [v])).push (excO C hp.objs.size), g, dr, tk, os⟩) T hsu (X.keeps kp) (G.keeps kp) ⟨mb, hb1.keeps kp, hb2⟩ (hlim.keeps kp) hx hno hroom fun h2 tk2 dx M => ?_
  obtain ⟨t1, ho⟩ := M.obj
  have big : hp.objs.size + 1 + 1 ≤ dx := by
    have y := M.big
    rw [Heap.size_push, Heap.size_push] at y
    exact y
  refine ⟨rfl, hq h2 tk2 _ dx ⟨fun b o z => M.keep b o (Nat.ne_of_lt (Nat.lt_succ_of_lt (Heap.lt_size z))) (kp b o z), Nat.le_succ _, ⟨_, _, ho, rfl, rfl, rfl, rfl⟩, (by show hp.objs.size ≤ dx; omega), M.ne, M.ns⟩⟩
end
end XI
theorem rel_one {v : V} {u : Value} (r : RelV v u) (f g : Str) : RelO ([(f, v)].lookup g) (if g = f then some u else none) := by
  by_cases z : g = f
  · subst z
    simp only [List.lookup, beq_self_eq_true, if_true]
    exact r
  · simp only [List.lookup, beq_eq_false_iff_ne.mpr z, if_neg z]
    trivial
section
variable {X : Cx} {B : BP} {C : Cl} {ES : XS} {pos : Pos}
def tMk1 (cl : Addr) (f : Str) (ta : TA) : L2.St → Hp → XK → Prop := fun s H Q => ta s H fun vs H1 => ∃ v, vs = [v] ∧ ∀ d, H1 d = none → Q (.ref cl) (some d) (upd H1 d (.xd [(f, v)]))
theorem pmk_1 {a : Expr} {ta : TA} {p pos : Pos} {k : Nat} {x f : Str} {cl fi cc co : Addr} (T : XI.Txt X.prog X.K f cl fi cc co) (hsu : X.mg "super" = none) (gC : X.mg x = some (.ref cl)) (kC : PySem.W.keepIn X.K (.ref cl) = true) (r : Raises X (.ref cl)) (hr : Room k X.A) (ha : PA X [a] ta) (hg : Gl X x)
    (hdb : (x == ("__debug__" : Str)) = false) (he : starEach (a :: []) X.env = (false, eval a X.env) :: starEach [] X.env) : PMk X (.Call (.Name x p) [a] [] pos) (tMk1 cl f ta) := by
  intro pins s z H Q I h
  refine wpAny_Call_Name_kw (ld_glob I hg gC ?_ hdb)
  refine PySem.W.callWith_K (h₀ := X.base) I.ok.mod.kin kC (thn (ha.run pos pins s z H _ I h) fun us s1 hh => ?_) he rfl
  obtain ⟨vs, H1, I1, r1, v, ev, q1⟩ := hh
  subst ev
  refine ⟨I1.kIn, ?_⟩
  cases r1 with
  | cons rv rn =>
    rename_i u us2
    cases rn
    show wpAny _ _ (call (.ref cl) [u]) _ _ _
    have hlim := I1.nolimit
    have kI := I1.kIn
    have hG : s1.heap.Ns mainGlobals X.mg := I1.mod.glob.keeps I1.bk
    obtain ⟨mb, hb1, hb2⟩ := I1.mod.blt
    have hb := hb1.keeps I1.bk
    obtain ⟨hp, g, dr, tk, os⟩ := s1
    refine wpAny_call (XI.made (mg := X.mg) T hsu kI hG ⟨mb, hb, hb2⟩ hlim (by have := hr.dp; omega) fun h2 tk2 e d M => ?_)
    show MkP X pins z Q (.ref e) ⟨h2, g, dr, tk2, os⟩
    obtain ⟨oe, fv, hoe, hc, hd, hdat, h1⟩ := M.obj
    have hns := M.ns
    obtain ⟨G2, g1, g2⟩ := restrict h2 fun b => decide (b ≠ e)
    have gk : ∀ b, b ≠ e → G2.get? b = h2.get? b := fun b hb => g1 b (decide_eq_true hb)
    have ge : G2.get? e = none := g2 e (by simp)
    have ob : ObjOk X.prog X.w (upd H1 d (.xd [(f, v)])) G2 d (.xd [(f, v)]) := ⟨_, hns.at (fun o y => (gk d M.ne).trans y), rel_one rv f⟩
    have J : Inv X pins z (upd H1 d (.xd [(f, v)])) ⟨G2, g, dr, tk2, os⟩ := I1.laid (t' := tk2) (fun b o y => (gk b (Nat.ne_of_lt (Nat.lt_of_lt_of_le (Heap.lt_size y) M.new))).trans (M.keep b o y)) M.big ob
    refine ⟨e, oe, fv, ⟨G2, g, dr, tk2, os⟩, _, .ref cl, some d, rfl, J, fun b o y => ?_, ge, hoe, ⟨hc, hd⟩, hdat, h1, ?_, rfl, I1.bare, r, q1 d (I1.hok.fresh M.big)⟩
    · by_cases hb : b = e
      · have y2 : G2.get? b = some o := y
        rw [hb, ge] at y2
        cases y2
      · exact (gk b hb).symm.trans y
    · rw [upd_ne (Ne.symm M.ne)]
      exact I1.hok.fresh M.new
theorem XI.Txt.fld {P : Program} {K : PySem.W.Frag} {f : Str} {C fi cc co : Addr} (T : XI.Txt P K f C fi cc co) : FldOk K (.ref C) f := by
  intro C2 fi2 oc od fd osl f2 p1 p2 e h1 h2 h3
  cases e
  rw [T.ini] at h1
  cases h1
  obtain ⟨_, _, _, _, _, _, _, _, _, _, _, p3, p4, _, _, _, _, _, _, _, _, _, _, ho, _⟩ := T.fn
  rw [ho] at h2
  cases h2
  have h4 : XI.prm f p3 p4 = _ := h3
  unfold XI.prm at h4
  simp only [Arguments.mk.injEq, List.cons.injEq, Arg.mk.injEq, true_and, and_true] at h4
  exact h4.2.1.symm
theorem XI.Txt.one {P : Program} {K : PySem.W.Frag} {f g : Str} {C fi cc co : Addr} (T : XI.Txt P K f C fi cc co) (h : FldOk K (.ref C) g) : g = f := by
  obtain ⟨_, _, _, _, _, _, _, _, _, _, _, p3, p4, _, _, _, _, _, _, _, _, _, _, ho, _⟩ := T.fn
  exact (h C fi _ _ _ _ f p3 p4 rfl T.ini ho rfl).symm
theorem snd_rs1 {ct : CT} {n k : Nat} {cl fi cc co : Addr} {x f : Str} {a : Expr} {ia : IE} {p p3 : Pos} (hc : X.calm = true) (tk : Takes X (wx ct B X.K ES)) (hct : ct n = some (.ref cl)) (T : XI.Txt X.prog X.K f cl fi cc co) (hsu : X.mg "super" = none) (gC : X.mg x = some (.ref cl)) (kC : PySem.W.keepIn X.K (.ref cl) = true)
    (r : Raises X (.ref cl)) (hr : Room k X.A) (hg : Gl X x) (hdb : (x == ("__debug__" : Str)) = false) (hn : noStar a = true) (ha : PA X [a] (liftA B X.K 1 (wpEs C ES (.cons ia .nil)))) : PS X (.Raise (some (.Call (.Name x p) [a] [] p3)) none pos) (liftS B X.K (wpS C ES (.rs n (.cons ia .nil)))) := by
  refine ps_imp (ps_raise hc tk (pmk_1 T hsu gC kC r hr ha hg hdb (star_cons hn))) ?_
  rintro d s H ⟨hs, z, st, k, sr, so, h, _⟩
  simp only [wpS] at h
  refine ⟨hs, z, st, _, sr, so, h, fun ds st1 vs H1 h1 n1 t1 r1 so1 => ?_⟩
  match ds, n1, vs, r1 with
  | [y], _, [v], r1 =>
    refine ⟨v, rfl, fun d hd => ⟨hs, z, ⟨n, some y⟩, st1, (sr.mono t1).mono (Step.new hd), so1.new hd, ⟨hct, d, f, v, rfl, upd_same, ?_, T.fld⟩, h1⟩⟩
    obtain ⟨y2, e, q⟩ := r1.one
    cases e
    exact q.mono (Step.new hd)
end
end Fy
namespace Fy
open PySem PySem.Spec PyProof.Rows L2
variable [LamT]
/-- the one def of a class's text -/
def clsInit : Stmt → Stmt
  | .ClassDef _ _ _ (s :: _) _ _ _ _ _ _ _ => s
  | s => s
namespace XI
open PySem.W PySem.HandSPX
structure InitOk (st : Stmt) (qual f : Str) : Prop where
  ex : ∃ (m : Str) (j : Nat) (p1 p2 a1 a2 a3 a4 a5 a6 q1 q2 q3 q4 : Pos), defArgs st = prm f p1 p2 ∧ defBody st = bod m f j a1 a2 a3 a4 a5 a6 q1 q2 q3 q4 ∧ (a3.endLine == a5.line) = true
  sc : scOk (defScope st) f = true
  bi : ∀ (doc pm ct a b : Value) (an : Option Addr) (co cc : Addr), bindArgs (ksFn "__init__" qual (defArgs st) (defBody st) (defScope st) .none .none doc pm an (.ref co) ct cc) ⟨[a, b], []⟩ = pure [(("self" : Str), a), (f, b)]
theorem txt_of {P : Program} {K : Frag} {f qual : Str} {C fi cc co : Addr} {st : Stmt} (S : InitOk st qual f)
    {nm q : Str} {N : Addr} {bs bm : List Value} {sn : List Str} {sub : List Value} {ab : Bool} {col : Option Bool} {dd : Option Addr} {k0 k1 k2 k3 k5 : Option Value} {oc doc pm ct c1 d1 : Value} {od an c2 d2 : Option Addr} {osl c3 d3 : Array (Option Value)} {vs : Array Value} {fl : Str} {tf : Tok}
    (h1 : K.lookup C = some (excClassObj nm q C N bs bm true sn sub ab col dd k0 k1 k2 k3 k5 "ValueError.__new__")) (h2 : refsVE bm = true) (h3 : findIn K (.ref C) "__setattr__" = some (some (.builtin "object.__setattr__"))) (h4 : findIn K (.ref C) f = some none)
    (h5 : findIn K (.ref C) "__init__" = some (some (.ref fi))) (h6 : typeIn K (.ref fi) = some (.type "function"))
    (h7 : K.lookup fi = some ⟨oc, od, .func (ksFn "__init__" qual (defArgs st) (defBody st) (defScope st) .none .none doc pm an (.ref co) ct cc), osl⟩) (h8 : codeIn K (.ref co) qual = true)
    (h9 : K.lookup co = some ⟨c1, c2, .fields vs, c3⟩) (h10 : vs[2]? = some (.str fl tf)) (h11 : ((P.main.file : Str) == fl) = true) (h12 : K.lookup cc = some ⟨d1, d2, .cell (some (.ref C)), d3⟩) (h13 : mroIn K C (.ref C) = some true)
    (h14 : (P.main.scope.names.lookup ("super" : Str)).isSome = false) (h15 : nsIn K cStatics "thirdparty.any" = some none) (h16 : ks_superIn K C C "__init__" = some (some (.builtin "ValueError.__init__"))) (h17 : subIn K (.ref C) (.type "ValueError") = some true) : Txt P K f C fi cc co := by
  obtain ⟨m, j, p1, p2, a1, a2, a3, a4, a5, a6, q1, q2, q3, q4, e1, e2, e3⟩ := S.ex
  refine ⟨⟨_, _, _, _, _, _, _, _, _, _, _, _, _, _, _, h1, h2⟩, h3, h4, h5, h6, ⟨oc, od, doc, pm, an, ct, osl, qual, m, j, defScope st, p1, p2, a1, a2, a3, a4, a5, a6, q1, q2, q3, q4, ?_, h8, S.sc, e3, fun a b => ?_⟩, ⟨_, _, _, _, _, _, h9, h10, h11⟩, ⟨_, _, _, h12⟩, h13, h14, h15, h16, h17⟩
  · rw [← e1, ← e2]; exact h7
  · rw [← e1, ← e2]; exact S.bi _ _ _ _ _ _ _ _
end XI
end Fy

set_option maxHeartbeats 2000000
/-! several except clauses, some with a name -/
namespace Fy
open PySem PySem.Spec PyProof.Rows L2
/-- the slot of the name, while the suite runs -/
def setN (i : Option Nat) (z : L2.St) (a : Addr) : L2.St := match i with
  | none => z
  | some i => z.set i (some (.ref a))
def unN (i : Option Nat) (D : Ends) : Ends := match i with
  | none => D
  | some i => { nx := fun z H => D.nx (z.set i none) H, rt := D.rt, bk := fun z H => D.bk (z.set i none) H, ct := fun z H => D.ct (z.set i none) H }
theorem unN_rt {i : Option Nat} {D : Ends} : (unN i D).rt = D.rt := by cases i <;> rfl
abbrev Cls1 := Value × Option Nat × (Addr → Value → Option Addr → TS)
def wNamed (K : PySem.W.Frag) (Wo : WX) (D : Ends) : List Cls1 → WX
  | [] => Wo
  | (c, i, ts) :: r => fun cls d z H => ∃ b, PySem.W.exmOne K cls c = some b ∧ (b = true → ∀ a, H a = none → ts a cls d (unN i D) (setN i z a) H) ∧ (b = false → wNamed K Wo D r cls d z H)
inductive HdsN (X : Cx) : List ExceptHandler → List Cls1 → Prop
  | nil : HdsN X [] []
  | cons {x : Str} {m : Option Str} {i : Option Nat} {c : Value} {ts : Addr → Value → Option Addr → TS} {b0 : Stmt} {su : List Stmt} {np p2 : Pos} {hds : List ExceptHandler} {l : List Cls1} (hc : Names X x c) (hm : (m = none ∧ i = none) ∨ ∃ n j, m = some n ∧ i = some j ∧ X.N[j]? = some n ∧ X.env.kindOf n = some .local)
      (hsu : ∀ (a : Addr) (oe : Obj) (cls : Value) (d : Option Addr) (pn : List (Addr × Obj)), Zc cls d oe → (∃ vs, oe.data = .fields vs) → PSs (X.suite a ((a, oe) :: pn)) (b0 :: su) (ts a cls d)) (r : HdsN X hds l) :
      HdsN X (.ExceptHandler (some (.Name x np)) m (b0 :: su) p2 :: hds) ((c, i, ts) :: l)
section
variable {X : Cx} {body : List Stmt} {h0 : ExceptHandler} {hds : List ExceptHandler} {l : List Cls1} {pos : Pos} {tb : WX → TS} {Wo : WX}
theorem ps_try_named (hN : X.N.Nodup) (hst : X.stack = X.env :: X.outer) (hfr : X.env.frame = some X.env.locals) (tk : Takes X Wo)
    (hb : ∀ (W : WX) (pn : List (Addr × Obj)) (xe : Value → Shared → Prop), Takes (X.tr pn xe) W → PassesOwn (model X.prog X.w) X.A X.env xe → PSs (X.tr pn xe) body (tb W))
    (hh : HdsN X (h0 :: hds) l) : PS X (.Try body (h0 :: hds) [] [] pos) (fun D z H => tb (wNamed X.K Wo D l) D z H) := by
  refine ⟨fun pz s z H D G w0 => ?_⟩
  have gok := G.ok
  have afr : X.A.frames = some (X.env :: X.outer) := by rw [gok.frames, hst]
  refine wpAny_Try_except ?_
  refine wpAny_mono ((hb (wNamed X.K Wo D l) (X.pn ++ pz) (fun e t1 => wpAny (model X.prog X.w) X.A (noteFrame e X.env) (fun _ t2 => wpAny (model X.prog X.w) X.A (setFlight e none) (fun _ t3 =>
    wpAny (model X.prog X.w) X.A (handleBy e X.env (h0 :: hds)) (SP X pz D) X.xe t3) X.xe t2) X.xe t1) (fun u t0 xx => ?_) PassesOwn.looking).run [] s z H D (G.toTry _) w0) (fun f t1 q1 => ?_) (fun e t1 he => he)
  · obtain ⟨a, bs, g0, pz2, z2, H2, cls, d, rfl, G0, nb, up, sk, na, os, ag, w⟩ := xx
    have G1 : Inv X pz z2 H2 g0 := G0.ofTry gok
    have sk1 : Sky bs (X.env :: X.outer) a (Zc cls d) X.env.locals t0.heap := by rw [← hst]; exact sk
    show wpAny (model X.prog X.w) X.A (noteFrame (.ref a) X.env) _ _ _
    refine Sky.land Zc.steady afr hfr sk1 fun w3 l3 u3 => ?_
    have G3 : Inv X pz z2 H2 { t0 with heap := w3 } := G1.landed nb l3.1 (up.trans u3) os ag
    obtain ⟨o3, f3, o3e, o3z, o3d⟩ := l3.there
    have off : ∀ {w : Heap} {o : Obj} {fs : Array Value}, w.FunFrames bs (X.env :: X.outer) → w.get? a = some o → o.data = .fields fs → a ∉ frs (X.env :: X.outer) := fun {w o fs} ff e dd hm => by
      obtain ⟨_, o1, e1, nf⟩ := ff.mem hm
      rw [e] at e1
      cases e1
      exact nf _ dd
    have off3 := off l3.2.2.1 o3e o3d
    have n1 : a ≠ X.env.locals := fun y => off3 (List.mem_filterMap.mpr ⟨X.env, List.mem_cons_self, by rw [hfr, y]⟩)
    have n2 : a ∉ X.fs := fun y => by
      obtain ⟨e, he, q⟩ := List.mem_filterMap.mp y
      exact off3 (List.mem_filterMap.mpr ⟨e, List.mem_cons_of_mem _ he, q⟩)
    have R3 := G3.suite o3e o3d na n1 n2
    have go : ∀ {hd2 : List ExceptHandler} {l2 : List Cls1}, HdsN X hd2 l2 → wNamed X.K Wo D l2 cls d z2 H2 → wpAny (model X.prog X.w) X.A (handleBy (.ref a) X.env hd2) (SP X pz D) X.xe { t0 with heap := w3 } := by
      intro hd2 l2 hk
      induction hk with
      | nil =>
        intro w
        refine wpAny_handleBy_nil ?_
        obtain ⟨k1, k2, k3, oe, fs, T, oT, us, he, hz, hd, h1, hr⟩ := id l3
        unfold PySem.passOn
        refine wpAny_bind (wpAny_field he hd h1 ?_)
        rw [if_neg (show ¬ ((Value.ref T == Value.none) = true) by simp)]
        have fin : wpAny (model X.prog X.w) X.A (setFlight (.ref a) X.env.frame) (fun _ t4 => wpAny (model X.prog X.w) X.A (throw (.ref a) : Sem Flow) (SP X pz D) X.xe t4) X.xe { t0 with heap := w3 } := by
          rw [hfr]
          refine HandSPX.setFlight_upZ l3 fun w4 l4 u4 => wpAny_throw (tk _ _ ?_)
          exact ⟨a, bs, g0, pz, z2, H2, cls, d, rfl, G1, nb, (up.trans u3).trans u4, .inr (.inr (by rw [hst]; exact l4)), na, os, ag, w⟩
        first
          | exact wpAny_bind (wpAny_pure (wpAny_bind fin))
          | exact wpAny_bind fin
      | @cons x m i c ts b0 su np p2 hd3 l3' hc hm hsu r ih =>
        intro w
        obtain ⟨b, b1, yes, no⟩ := w
        refine wpAny_handleBy_cons (codeAny_handlers_test ?_) (by intro q; cases q)
        have lkT : PySem.W.Looks (model X.prog X.w) w3 (typeOf (.ref a)) cls := fun A Q E s k q => wpAny_typeOf_ref (k _ _ o3e) (by rw [o3z.1]; exact q)
        have lkM := PySem.W.exm_one (M := model X.prog X.w) (G3.kIn) lkT b1
        have tst : ∀ {Q : Value → Shared → Prop} {E : Value → Shared → Prop}, Q c { t0 with heap := w3 } → wpAny (model X.prog X.w) (X.A.mark (some (.ref a))) (eval (.Name x np) X.env) Q E { t0 with heap := w3 } := fun {Q E} q => by
          obtain ⟨y1, y2, y3 | ⟨y3, y4, y5⟩⟩ := hc
          · exact ld_glob (X := X.suite a ((a, o3) :: (X.pn ++ pz))) R3 y1 y3 q y2
          · exact ld_blt (X := X.suite a ((a, o3) :: (X.pn ++ pz))) R3 y1 y3 y4 q y5 y2
        refine tst (lkM.here ?_)
        cases b with
        | true =>
          rcases hm with ⟨rfl, rfl⟩ | ⟨n, j, rfl, rfl, hj, hl⟩
          · refine codeAny_handlers_suite ?_
            refine HandSPX.lands_againZ l3 fun w4 l4 u4 => ?_
            have G4 : Inv X pz z2 H2 { t0 with heap := w4 } := G1.landed nb l4.1 ((up.trans u3).trans u4) os ag
            obtain ⟨o4, f4, o4e, o4z, o4d⟩ := l4.there
            have R4 := G4.suite o4e o4d na n1 n2
            refine wpAny_mono ((hsu a o4 cls d (X.pn ++ pz) o4z ⟨_, o4d⟩).run [] _ _ H2 _ R4 (yes rfl a na)) (fun f t6 q1 => ?_) (fun _ _ y => False.elim y)
            cases f with
            | next =>
              obtain ⟨z6, H6, R6, q6⟩ := q1
              exact ⟨z6, H6, R6.unsuite gok, q6⟩
            | brk =>
              obtain ⟨z6, H6, R6, q6⟩ := q1
              exact ⟨z6, H6, R6.unsuite gok, q6⟩
            | cont =>
              obtain ⟨z6, H6, R6, q6⟩ := q1
              exact ⟨z6, H6, R6.unsuite gok, q6⟩
            | ret u =>
              obtain ⟨v6, z6, H6, R6, r6, q6⟩ := q1
              exact ⟨v6, z6, H6, R6.unsuite gok, r6, q6⟩
          · refine codeAny_handlers_suite_as ?_
            refine HandSPX.lands_againZ l3 fun w4 l4 u4 => ?_
            have G4 : Inv X pz z2 H2 { t0 with heap := w4 } := G1.landed nb l4.1 ((up.trans u3).trans u4) os ag
            obtain ⟨o4, f4, o4e, o4z, o4d⟩ := l4.there
            have R4 := G4.suite o4e o4d na n1 n2
            refine store_ok (X := X.suite a ((a, o4) :: (X.pn ++ pz))) (v := .ref a) R4 hN hj (.inl hl) rfl (fun t5 R5 => ?_) (.inr hl)
            refine wpAny_mono ((hsu a o4 cls d (X.pn ++ pz) o4z ⟨_, o4d⟩).run [] t5 _ H2 _ R5 (yes rfl a na)) (fun f t6 q1 => ?_) (fun _ _ y => False.elim y)
            have out : ∀ {z6 : L2.St} {H6 : Hp} {Q : Shared → Prop}, Inv (X.suite a ((a, o4) :: (X.pn ++ pz))) [] z6 H6 t6 → (∀ t7, Inv X pz (z6.set j none) H6 t7 → Q t7) → wpAny (model X.prog X.w) X.A (do bindName X.env n .none; unbindBehindTheSuite X.env n p2) (fun _ t7 => Q t7) X.xe t6 := fun {z6 H6 Q} R6 hq => gone_ok (R6.unsuite gok) hN hj hl hq
            cases f with
            | next =>
              obtain ⟨z6, H6, R6, q6⟩ := q1
              exact out R6 fun t7 G7 => ⟨_, H6, G7, q6⟩
            | brk =>
              obtain ⟨z6, H6, R6, q6⟩ := q1
              exact out R6 fun t7 G7 => ⟨_, H6, G7, q6⟩
            | cont =>
              obtain ⟨z6, H6, R6, q6⟩ := q1
              exact out R6 fun t7 G7 => ⟨_, H6, G7, q6⟩
            | ret u =>
              obtain ⟨v6, z6, H6, R6, r6, q6⟩ := q1
              exact out R6 fun t7 G7 => ⟨v6, _, H6, G7, r6, q6⟩
        | false =>
          show wpAny _ X.A (handleBy (.ref a) X.env hd3) _ _ _
          exact ih (no rfl)
    exact go hh w
  · cases f with
    | next =>
      obtain ⟨z1, H1, G1, q⟩ := q1
      exact wpAny_execs_nil ⟨z1, H1, G1.ofTry gok, q⟩
    | brk =>
      obtain ⟨z1, H1, G1, q⟩ := q1
      exact ⟨z1, H1, G1.ofTry gok, q⟩
    | cont =>
      obtain ⟨z1, H1, G1, q⟩ := q1
      exact ⟨z1, H1, G1.ofTry gok, q⟩
    | ret u =>
      obtain ⟨v, z1, H1, G1, r, q⟩ := q1
      exact ⟨v, z1, H1, G1.ofTry gok, r, q⟩
end
end Fy

set_option maxHeartbeats 2000000
/-! a lambda without parameters, handed to a def of the top -/
namespace Fy
open PySem PySem.Spec PyProof.Rows L2 LamX
variable [LamT]
section
variable {X : Cx} {pins : List (Addr × Obj)} {z : L2.St} {H : Hp} {s : Shared}
abbrev lamQ (X : Cx) : Str := X.env.qual ++ "<lambda>"
abbrev lamO (X : Cx) (ps : Arguments) (b : Expr) (sc : Scope) (pm : Value) (c : Addr) (ct : Value) : Obj := PySem.W.kla_obj "<lambda>" (lamQ X) ps b sc (cloFrom X.env.cells sc.names []) pm c ct
/-- the lambda is made: its code object is new, or stands in the table -/
theorem lam_mk {co P : Addr} {ps : Arguments} {b : Expr} {sc : Scope} {pos : Pos} {E Q : Value → Shared → Prop} (J : Inv X pins z H s) (TB : LamX.TabB X.base X.mg co P) (hcode : X.env.code = .ref co) (nm : LamT.nm P = some (lamQ X)) (lp : LamT.lp P pos.line pos.col = true) (tP : Tb H P)
    (hdef : defaultsOf ps X.env = ([], [])) (hfree : ∀ y ∈ sc.names, y.2 = .free → ∃ c, X.env.cells.lookup y.1 = some c)
    (hk : ∀ (f c2 : Addr) (pm ct : Value) (H2 : Hp) (s2 : Shared), Inv X pins z H2 s2 → ExtN H H2 → (∀ a, H a ≠ none → H2 a ≠ none) → (∀ P2, Tb H P2 → Tb H2 P2) → s2.heap.get? f = some (lamO X ps b sc pm c2 ct) → H2 f = none → f ∉ frs X.stack → H2 c2 = some (CodeO c2 (lamQ X)) → Q (.ref f) s2) :
    wpAny (model X.prog X.w) X.A (eval (.Lambda ps b sc pos) X.env) Q E s := by
  obtain ⟨tb, hP, ht, ha, _⟩ := tP.out
  have ha := ha _ nm
  refine PySem.W.kla_eval hdef ?_
  have gP : s.heap.get? P = some { cls := .none, data := .fields tb } := J.hok P _ hP
  have out : ∀ f, s.heap.objs.size ≤ f → f ∉ frs X.stack := fun f hf y => by
    rcases List.mem_cons.mp (J.stkSub _ y) with e | e
    · have lt := J.lt
      rw [← e] at lt
      exact absurd (Nat.lt_of_lt_of_le lt hf) (Nat.lt_irrefl _)
    · exact J.nofs hf e
  cases hc : codeAmong pos tb.toList with
  | none =>
    refine PySem.W.kla_makeFunction (mg := X.mg) (c := co) (P := P) (ps := tb) (closure_ok hfree) J.ok.glob (J.mod.glob.keeps J.bk) hcode (TB.code.keeps J.bk) gP ht hc TB.gP (TB.bm.keeps J.bk) fun c2 ct h2 tk hx ge lt hrec htb => ?_
    obtain ⟨c3, oc, vs, t, e3, hoc, hd, hv⟩ := hrec
    cases e3
    have sz : s.heap.objs.size ≤ h2.objs.size := Nat.le_trans ge (Nat.le_of_lt lt)
    have nC : H c2 = none := J.hok.fresh ge
    have J2 := inv_table (t' := tk) (more := #[rawInt pos.line, rawInt pos.col, .ref c2]) (h' := h2.push (lamO X ps b sc ((X.mg "__name__").getD .none) c2 ct)) J hP (fun b o hb e => Heap.get?_push_of_some _ (hx b o hb e)) (Heap.get?_push_of_some _ htb) ge ⟨oc, vs, t, Heap.get?_push_of_some _ hoc, hd, hv⟩
    have ex : ExtN H (upd (upd H P (.tbl (tb ++ #[rawInt pos.line, rawInt pos.col, .ref c2]))) c2 (CodeO c2 (lamQ X))) := fun b o e n => by
      rw [upd_ne (ne_of_none e nC), upd_ne (fun y => n tb (Option.some.inj (e.symm.trans (by rw [y]; exact hP))))]
      exact e
    have eL : (tb ++ #[rawInt pos.line, rawInt pos.col, .ref c2]).toList = tb.toList ++ [rawInt pos.line, rawInt pos.col, .ref c2] := by simp
    refine hk h2.objs.size c2 _ ct _ _ J2 ex (fun a ha => ?_) (fun P2 hP2 => ?_) (Heap.get?_push_size _ rfl) ?_ (out _ sz) upd_same
    · by_cases e : a = c2
      · rw [e, upd_same]
        exact fun y => by cases y
      · rw [upd_ne e]
        by_cases e2 : a = P
        · rw [e2, upd_same]
          exact fun y => by cases y
        · rw [upd_ne e2]
          exact ha
    · obtain ⟨S, f1, f2⟩ := hP2
      have ext : ∀ b φ, H b = some (.ext φ) → upd (upd H P (.tbl (tb ++ #[rawInt pos.line, rawInt pos.col, .ref c2]))) c2 (CodeO c2 (lamQ X)) b = some (.ext φ) := fun b φ y => ex _ _ y fun _ z => by cases z
      refine ⟨S, f1, fun Q hQ => ?_⟩
      have old := f2 Q hQ
      by_cases e : Q = P
      · subst e
        obtain ⟨ps0, a1, a2, a3, a4⟩ := old
        rw [hP] at a1
        cases a1
        refine ⟨_, by rw [upd_ne (ne_of_none hP nC), upd_same], by rw [eL]; exact PySem.TriplesOk_snoc _ _ _ _ ht, fun q3 eq3 p2 cv l2 y => ?_, fun p2 cv l2 y => ?_⟩
        · rw [nm] at eq3
          cases eq3
          rw [eL] at y
          rcases among_at _ ht y with y | ⟨_, _, y⟩
          · obtain ⟨c0, e1, e2⟩ := ha p2 cv l2 y
            exact ⟨c0, e1, ex _ _ e2 codeO_ne⟩
          · exact ⟨c2, y, upd_same⟩
        · rw [eL] at y
          rcases among_at _ ht y with y | ⟨y1, y2, _⟩
          · obtain ⟨c0, P0, z1, z2, z3, z4⟩ := a4 p2 cv l2 y
            exact ⟨c0, P0, z1, ext _ _ z2, z3, z4⟩
          · rw [y1, y2, lp] at l2
            cases l2
      · exact old.up (fun ps2 y => by rw [upd_ne (ne_of_none y nC), upd_ne e]; exact y) ext
    · rw [upd_ne (Nat.ne_of_gt lt), upd_ne (Nat.ne_of_gt (Nat.lt_of_lt_of_le (Heap.lt_size gP) sz))]
      exact J.hok.fresh sz
  | some cv =>
    obtain ⟨c2, e, hco⟩ := ha pos cv lp hc
    subst e
    refine PySem.W.kla_makeFunctionHit (mg := X.mg) (c := co) (P := P) (ps := tb) (closure_ok hfree) J.ok.glob (J.mod.glob.keeps J.bk) hcode (TB.code.keeps J.bk) gP ht hc (TB.bm.keeps J.bk) fun ct h2 tk hx sz => ?_
    exact hk h2.objs.size c2 _ ct H _ (J.kept fun b o e => Heap.get?_push_of_some _ (hx b o e)) (ExtN.refl H) (fun _ y => y) (fun _ y => y) (Heap.get?_push_size _ rfl) (J.hok.fresh sz) (out _ sz) hco
/-- as a step of the layer -/
theorem Step.ext {K : KH} {st : Sto} {H2 : Hp} (e : ExtN H H2) (t : ∀ P, Tb H P → Tb H2 P) : Step K st H st H2 :=
  ⟨fun a xs h => e a _ h (fun _ y => by cases y), fun a o u h => e a _ h (fun _ y => by cases y), t, fun a o h n f => ⟨e a o h n, f⟩⟩
theorem StoOk.ext {K : KH} {st : Sto} {H2 : Hp} (so : StoOk K st H) (e : ExtN H H2) (dm : ∀ a, H a ≠ none → H2 a ≠ none) (t : ∀ P, Tb H P → Tb H2 P) : StoOk K st H2 := by
  refine so.mon (Step.ext e t).rst (fun a o q => ?_) fun a y => ⟨dm a (so.h a y).1, (so.h a y).2⟩
  · cases o with
    | lst ds =>
      obtain ⟨_, xs, h1, _⟩ := so.c a _ q
      rw [h1]
      exact e a _ h1 fun _ y => by cases y
    | dct t kvs =>
      obtain ⟨_, _, xs, h1, _⟩ := so.c a _ q
      rw [h1]
      exact e a _ h1 dHO_ne.2.2.1
def telQ (t : Str) (Q : VK) : VK := fun v H => 2 ≤ sizeLine ∧ ∀ p, H p = none → Q (.ref p) (upd H p (.tup [.str t, v]))
/-- a constant is made -/
def TC.tv : TC → Hp → VK → Prop
  | .str r, H, Q => Q (.str r) H
  | .bl b, H, Q => Q (.bl b) H
  | .non, H, Q => Q .non H
  | .int z, H, Q => Q (.int z) H
  | .pr t c, H, Q => c.tv H (telQ t Q)
def TC.te (c : TC) : TE := fun _ H Q => c.tv H Q
theorem TC.te_ok {K : KH} : ∀ (c : TC) {st : Sto} {H : Hp} {Q : VK}, StoOk K st H → (∀ v H2, Step K st H st H2 → Rep K st H2 v c.d → StoOk K st H2 → Q v H2) → c.tv H Q
  | .str r, st, H, Q, so, q => q _ H .refl (.str r) so
  | .bl b, st, H, Q, so, q => q _ H .refl (.bl b) so
  | .non, st, H, Q, so, q => q _ H .refl .non so
  | .int i, st, H, Q, so, q => q _ H .refl (.int i) so
  | .pr t c, st, H, Q, so, q => TC.te_ok c so fun v H2 t2 r2 so2 => ⟨by show 2 ≤ sizeLine; decide, fun p hp => q _ _ (t2.trans (.new hp)) (.tup upd_same (.cons (.str t) (.cons (r2.mono (.new hp)) .nil)) (by show 2 ≤ sizeLine; decide)) (so2.new hp)⟩
def tcB : TC → Expr → Bool
  | .str r, .Constant (.str r2) _ _ => decide (r2 = r)
  | .bl b, .Constant (.bool c) _ _ => decide (c = b)
  | .non, .Constant .none _ _ => true
  | .int z, .Constant (.int y) _ _ => decide (y = z)
  | .pr t c, .Tuple [.Constant (.str t2) _ _, e] _ _ => decide (t2 = t) && noStar e && tcB c e
  | _, _ => false
theorem tcB_ok {Z : Cx} (c : TC) (e : Expr) (h : tcB c e = true) : PE Z e c.te := by
  fun_induction tcB c e with
  | case1 => obtain rfl := of_decide_eq_true h; exact pe_str
  | case2 => obtain rfl := of_decide_eq_true h; exact pe_bl
  | case3 => exact pe_non
  | case4 => obtain rfl := of_decide_eq_true h; exact pe_int
  | case5 t c t2 _ _ e _ _ ih =>
    rw [Bool.and_eq_true, Bool.and_eq_true] at h
    obtain rfl := of_decide_eq_true h.1.1
    exact pe_tup (pa_cons pe_str (pa_cons (ih h.2) pa_nil (star_cons h.1.2)))
  | case6 => cases h
abbrev GC := Addr → Value → Option Addr → Hp → VK → Prop
abbrev CG := Value × Option Nat × GC
def thE (K : PySem.W.Frag) (Q : VK) : List CG → XK
  | [] => fun _ _ _ => False
  | (c, _, g) :: l => fun cls d H => ∃ b, PySem.W.exmOne K cls c = some b ∧ (b = true → ∀ a, g a cls d H Q) ∧ (b = false → thE K Q l cls d H)
def tsG (i : Option Nat) (g : GC) : Addr → Value → Option Addr → TS := fun a cls d D z H => (∀ j, i = some j → j < z.length → z[j]? = some (some (.ref a))) ∧ g a cls d H D.rt
def hdl (l : List CG) : List Cls1 := l.map fun p => (p.1, p.2.1, tsG p.2.1 p.2.2)
def TTh (K : PySem.W.Frag) (m : TM) (l : List CG) : (XK → Hp → VK → Prop) → Hp → VK → Prop := fun tl H Q => tl (thE K Q l) H (match m with
  | .ret => Q
  | .drop fb => fun _ H2 => fb.tv H2 Q
  | .tell t => telQ t Q)
theorem many_of {K : PySem.W.Frag} {Q : VK} {D : Ends} (hD : D.rt = Q) {W : WX} : ∀ (l : List CG) {cls : Value} {d : Option Addr} {z : L2.St} {H : Hp}, thE K Q l cls d H → wNamed K W D (hdl l) cls d z H
  | [], _, _, _, _, h => h.elim
  | (c, i, g) :: l, cls, d, z, H, h => by
    obtain ⟨b, e, h1, h2⟩ := h
    refine ⟨b, e, fun y a _ => ⟨fun j ej hj => ?_, ?_⟩, fun y => many_of hD l (h2 y)⟩
    · subst ej
      show (z.set j _)[j]? = _
      exact List.getElem?_set_self (by simpa [setN] using hj)
    · rw [unN_rt, hD]
      exact h1 y a
theorem gives_ret {Ng : List Str} {x a q : Str} {sg : Scope} {g : Addr} {cdg : Value} {h0 : ExceptHandler} {hds : List ExceptHandler} {l : List CG} {p1 p2 p3 p4 : Pos} (nd : Ng.Nodup) (hn : ∀ f : Addr, (L2.start Ng [V.ref f])[0]? = some (some (V.ref f)))
    (hh : ∀ s H, HdsN (cxOf C8.CX0 X.prog X.w X.K X.mg X.base Ng x sg g cdg X.A X.stack s H C8.E0).nox (h0 :: hds) (hdl l)) :
    GivesTo X Ng x sg g cdg [.Try [.Return (some (.Call (.Name a p1) [] [] p2)) p3] (h0 :: hds) [] [] p4] a q (TTh X.K .ret l) := by
  intro f c2 s H Q tl act hc h
  refine ⟨_, pss_one (ps_try_named (X := (cxOf C8.CX0 X.prog X.w X.K X.mg X.base Ng x sg g cdg X.A X.stack s H C8.E0).nox) (tb := fun W D z H => ∃ Ec : XK, (∀ cls d z2 H2, Ec cls d H2 → W cls d z2 H2) ∧ z[0]? = some (some (.ref f)) ∧ H c2 = some (CodeO c2 q) ∧ tl Ec H D.rt) nd rfl rfl L2.takes0 (fun W pn xe tk _ => ⟨fun pins s2 z2 H2 D J h2 => ?_⟩) (hh s H)), ?_⟩
  · obtain ⟨Ec, hW, y1, y2, y3⟩ := h2
    exact (pss_one (ps_ret (pos := p3) (act W pn xe Ec p1 p2 tk hW))).run pins s2 z2 H2 D J ⟨y1, y2, y3⟩
  · exact ⟨thE X.K Q l, fun cls d z2 H2 y => many_of rfl l y, hn f, hc, h⟩
theorem gives_tell {Ng : List Str} {x a q t : Str} {sg : Scope} {g : Addr} {cdg : Value} {h0 : ExceptHandler} {hds : List ExceptHandler} {l : List CG} {j k : Nat} {p1 p2 p3 p4 p5 p6 : Pos} (nd : Ng.Nodup) (hn : ∀ f : Addr, (L2.start Ng [V.ref f])[0]? = some (some (V.ref f)))
    (hh : ∀ s H, HdsN (cxOf C8.CX0 X.prog X.w X.K X.mg X.base Ng x sg g cdg X.A X.stack s H C8.E0).nox (h0 :: hds) (hdl l)) :
    GivesTo X Ng x sg g cdg [.Try [.Return (some (.Tuple [.Constant (.str t) j p5, .Call (.Name a p1) [] [] p2] k p6)) p3] (h0 :: hds) [] [] p4] a q (TTh X.K (.tell t) l) := by
  intro f c2 s H Q tl act hc h
  refine ⟨_, pss_one (ps_try_named (X := (cxOf C8.CX0 X.prog X.w X.K X.mg X.base Ng x sg g cdg X.A X.stack s H C8.E0).nox) (tb := fun W D z H => ∃ Ec : XK, (∀ cls d z2 H2, Ec cls d H2 → W cls d z2 H2) ∧ z[0]? = some (some (.ref f)) ∧ H c2 = some (CodeO c2 q) ∧ tl Ec H (telQ t D.rt)) nd rfl rfl L2.takes0 (fun W pn xe tk _ => ⟨fun pins s2 z2 H2 D J h2 => ?_⟩) (hh s H)), ?_⟩
  · obtain ⟨Ec, hW, y1, y2, y3⟩ := h2
    exact (pss_one (ps_ret (pos := p3) (pe_tup (pa_cons pe_str (pa_cons (act W pn xe Ec p1 p2 tk hW) pa_nil))))).run pins s2 z2 H2 D J ⟨y1, y2, y3⟩
  · exact ⟨thE X.K Q l, fun cls d z2 H2 y => many_of rfl l y, hn f, hc, h⟩
theorem gives_drop {Ng : List Str} {x a q : Str} {fb : TC} {fe : Expr} {sg : Scope} {g : Addr} {cdg : Value} {h0 : ExceptHandler} {hds : List ExceptHandler} {l : List CG} {p1 p2 p3 p4 p6 : Pos} (nd : Ng.Nodup) (hn : ∀ f : Addr, (L2.start Ng [V.ref f])[0]? = some (some (V.ref f)))
    (hh : ∀ s H, HdsN (cxOf C8.CX0 X.prog X.w X.K X.mg X.base Ng x sg g cdg X.A X.stack s H C8.E0).nox (h0 :: hds) (hdl l)) (hf : tcB fb fe = true) (hsw : ∀ s H, swapsWith (.Call (.Name a p1) [] [] p2) none p3.line (cxOf C8.CX0 X.prog X.w X.K X.mg X.base Ng x sg g cdg X.A X.stack s H C8.E0).env = pure false) :
    GivesTo X Ng x sg g cdg [.Try [.Expr (.Call (.Name a p1) [] [] p2) p3] (h0 :: hds) [] [] p4, .Return (some fe) p6] a q (TTh X.K (.drop fb) l) := by
  intro f c2 s H Q tl act hc h
  refine ⟨_, pss_cons (ps_try_named (X := (cxOf C8.CX0 X.prog X.w X.K X.mg X.base Ng x sg g cdg X.A X.stack s H C8.E0).nox) (tb := fun W D z H => ∃ Ec : XK, (∀ cls d z2 H2, Ec cls d H2 → W cls d z2 H2) ∧ z[0]? = some (some (.ref f)) ∧ H c2 = some (CodeO c2 q) ∧ tl Ec H fun _ H2 => D.nx z H2) nd rfl rfl L2.takes0 (fun W pn xe tk _ => ⟨fun pins s2 z2 H2 D J h2 => ?_⟩) (hh s H)) (pss_one (ps_ret (tcB_ok fb fe hf))), ?_⟩
  · obtain ⟨Ec, hW, y1, y2, y3⟩ := h2
    exact (pss_one (ps_expr (pos := p3) (act W pn xe Ec p1 p2 tk hW) (hsw s H))).run pins s2 z2 H2 D J ⟨y1, y2, y3⟩
  · exact ⟨thE X.K Q l, fun cls d z2 H2 y => many_of rfl l y, hn f, hc, h⟩
/-- x(lambda: body) -/
theorem pe_thk {TT : (XK → Hp → VK → Prop) → Hp → VK → Prop} {x a : Str} {g co P : Addr} {k : Nat} {pg : Arguments} {bg : List Stmt} {sg : Scope} {dV kV doc pm cdv ct oc : Value} {an od : Option Addr} {osl : Array (Option Value)} {Ng : List Str} {ps : Arguments} {body : Expr} {sc : Scope} {t : XK → TE} {p lpos pos : Pos}
    (hg : Gl X x) (hm : X.mg x = some (.ref g)) (hk : PySem.W.keepIn X.K (.ref g) = true) (lk : X.K.lookup g = some ⟨oc, od, .func (PySem.W.fnOf x x pg bg sg dV kV doc pm an cdv ct), osl⟩) (hcg : PySem.W.codeIn X.K cdv x = true) (hb : L2.Binds X.K (PySem.W.fnOf x x pg bg sg dV kV doc pm an cdv ct) [a] [])
    (Sg : FnScope Ng [a] sg) (hNg : Ng[0]? = some a) (hva : Vis sg a) (hG : GivesTo X Ng x sg g cdv bg a (lamQ X) TT) (TB : LamX.TabB X.base X.mg co P) (hcode : X.env.code = .ref co) (nm : LamT.nm P = some (lamQ X)) (lp : LamT.lp P lpos.line lpos.col = true) (hr : Room (k + 2) X.A) (L : LamS X.env.scope sc) (hdef : defaultsOf ps X.env = ([], []))
    (hbind : ∀ (q : Str) (cl : List (Str × Addr)) (pm cv ctv : Value), bindArgs (PySem.W.kla_fn "<lambda>" q ps body sc cl pm cv ctv) ⟨[], []⟩ = pure [])
    (hbody : ∀ (A : Around) (outer : List Env) (s : Shared) (H : Hp) (E : XK) (f c2 : Addr), Room k (A.deeper (lamEnv X sc s.heap.objs.size f c2)) → PE (lamCx X A outer s H E sc f c2) body (t E))
    (hdb : (x == ("__debug__" : Str)) = false) (hd : (a == ("__debug__" : Str)) = false) (hcd : (a == ("__classdict__" : Str)) = false) :
    PE X (.Call (.Name x p) [.Lambda ps body sc lpos] [] pos) (fun z H Q => Tb H P ∧ ∀ H2, ExtN H H2 → (∀ a, H a ≠ none → H2 a ≠ none) → (∀ P2, Tb H P2 → Tb H2 P2) → TT (fun E H3 Q3 => t E z H3 Q3) H2 Q) := by
  refine ⟨fun pins s z H Q J h => ?_⟩
  refine wpAny_Call_Name_kw (ld_glob J hg hm ?_ hdb)
  refine PySem.W.callWith_K (h₀ := X.base) J.ok.mod.kin hk ?_ (by rfl) (by rfl)
  show wpAny _ _ (spliced ((false, eval (.Lambda ps body sc lpos) X.env) :: backTo pos (starEach [] X.env))) _ _ s
  refine Calls.spliced_cons (lam_mk J TB hcode nm lp h.1 hdef (L.has J.ok) fun f c2 pm2 ctv H2 s2 J2 e2 d2 t2 hf hfn hfr hco => Calls.spliced_nil ⟨J2.kIn, ?_⟩)
  have rc : codeAny (model X.prog X.w) X.A (.call (.ref g) ⟨[.ref f], []⟩) (CR C8.CX0 X.stack X.prog X.w H2 s2 Q C8.E0) s2 := by
    refine run_ofS (N := Ng) (ps := [a]) (us := [.ref f]) (vs := [.ref f]) lk hcg Sg hr J2.env0 (hb s2 [.ref f] J2.kIn rfl) (.cons rfl .nil) rfl fun hr2 => ?_
    obtain ⟨t3, ht3, hq3⟩ := hG f c2 s2 H2 Q (fun E H3 Q3 => t E z H3 Q3) (fun W pn xe E p1 p2 tk hW => pe_act (i := 0) J2 L hf hfn hfr (hbind _ _ _ _ _) tk hW hr2 (fun A outer s H hr3 => hbody A outer s H E f c2 hr3) hNg hva hd hcd) hco (h.2 H2 e2 d2 t2)
    exact ⟨t3, ht3.nox, hq3⟩
  refine wpAny_call (codeAny_mono rc fun r s3 hq => ?_)
  cases r with
  | error e => exact (show False from hq).elim
  | ok fl =>
    cases fl with
    | ret u => exact J2.after hq
    | next => exact False.elim hq
    | brk => exact False.elim hq
    | cont => exact False.elim hq
def wpK (C : Cl) (m : TM) (hs : List HC) (ie : IE) (z : DSt) (st : Sto) (R : D → Sto → Prop) : Prop := wpE C (fun y _ st1 => thH hs y st1 R) ie z st fun d st1 => thV m d st1 R
/-- what a suite returns -/
def TX.g (ct : CT) (c : Nat) : TX → GC
  | .cst v, _, _, _, H, Q => v.tv H Q
  | .fld f, _, cls, d, H, Q => ct c = some cls ∧ ∃ da v, d = some da ∧ H da = some (.xd [(f, v)]) ∧ Q v H
  | .prF t f, _, cls, d, H, Q => ct c = some cls ∧ ∃ da v, d = some da ∧ H da = some (.xd [(f, v)]) ∧ telQ t Q v H
  | .isx _ v, _, cls, d, H, Q => ct c = some cls ∧ d = none ∧ v.tv H Q
def hvs (ct : CT) (hs : List HC) : List CG := hs.map fun h => ((ct h.c).getD .none, h.i, h.x.g ct h.c)
/-- what is asked of the classes that a clause takes -/
def HC.Ok (ct : CT) (K : PySem.W.Frag) (h : HC) : Prop := match h.x with
  | .cst _ => True
  | .fld f => h.cs = [h.c] ∧ ∀ cls, ct h.c = some cls → ∀ g, FldOk K cls g → g = f
  | .prF _ f => h.cs = [h.c] ∧ ∀ cls, ct h.c = some cls → ∀ g, FldOk K cls g → g = f
  | .isx _ _ => h.cs = [h.c]
def tLam1 (T : Addr → Prop) (ct : CT) (K : PySem.W.Frag) (C : Cl) (ie : IE) (E : XK) : TE := fun s H Q => ∃ (hs : Addr → Prop) (z : DSt) (st : Sto) (R : D → Sto → Prop) (EE : Exc → Sto → Prop), SRep ⟨K, hs⟩ st H s z ∧ (∀ P, T P → Tb H P) ∧ StoOk ⟨K, hs⟩ st H ∧ wpE C (fun x _ st1 => EE x st1) ie z st R ∧
  (∀ d st2 v H2, R d st2 → Step ⟨K, hs⟩ st H st2 H2 → Rep ⟨K, hs⟩ st2 H2 v d → StoOk ⟨K, hs⟩ st2 H2 → Q v H2) ∧ ∀ x st2 cls dd H2, EE x st2 → Step ⟨K, hs⟩ st H st2 H2 → XRep ct ⟨K, hs⟩ st2 H2 x cls dd → StoOk ⟨K, hs⟩ st2 H2 → E cls dd H2
theorem tel_ok {K : KH} {st : Sto} {H : Hp} {t : Str} {v : V} {y : D} {Q : VK} (so : StoOk K st H) (r : Rep K st H v y) (q : ∀ v H2, Step K st H st H2 → Rep K st H2 v (.tup [.str t, y]) → StoOk K st H2 → Q v H2) : telQ t Q v H :=
  ⟨by decide, fun p hp => q _ _ (.new hp) (.tup upd_same (.cons (.str t) (.cons (r.mono (.new hp)) .nil)) (by show 2 ≤ sizeLine; decide)) (so.new hp)⟩
theorem TX.g_ok {ct : CT} {K : KH} {h : HC} {x : Exc} {cls : Value} {dd : Option Addr} {st : Sto} {H : Hp} {R : D → Sto → Prop} {Q : VK} (ok : h.Ok ct K.K) (xr : XRep ct K st H x cls dd) (so : StoOk K st H) (hc : h.cs.contains x.cls = true) (w : h.x.w x fun y => R y st)
    (q : ∀ d v H2, R d st → Step K st H st H2 → Rep K st H2 v d → StoOk K st H2 → Q v H2) (a : Addr) : h.x.g ct h.c a cls dd H Q := by
  obtain ⟨c, cs, i, x2⟩ := h
  have lone : cs = [c] → x.cls = c := fun e => by
    subst e
    simpa using hc
  cases x2 with
  | cst v => exact v.te_ok so fun u H2 t2 r2 so2 => q _ u H2 w t2 r2 so2
  | fld f =>
    obtain ⟨k1, k2⟩ := ok
    obtain ⟨y, e, w⟩ := w
    obtain ⟨xc, xr⟩ := xr
    rw [e] at xr
    obtain ⟨da, fl, v, h1, h2, h3, h4⟩ := xr
    have ec : ct c = some cls := by rw [← lone k1]; exact xc
    obtain rfl := k2 _ ec fl h4
    exact ⟨ec, da, v, h1, h2, q _ _ _ w .refl h3 so⟩
  | prF t f =>
    obtain ⟨k1, k2⟩ := ok
    obtain ⟨y, e, w⟩ := w
    obtain ⟨xc, xr⟩ := xr
    rw [e] at xr
    obtain ⟨da, fl, v, h1, h2, h3, h4⟩ := xr
    have ec : ct c = some cls := by rw [← lone k1]; exact xc
    obtain rfl := k2 _ ec fl h4
    exact ⟨ec, da, v, h1, h2, tel_ok so h3 fun u H2 t2 r2 so2 => q _ u H2 w t2 r2 so2⟩
  | isx g v =>
    obtain ⟨xc, xr⟩ := xr
    have ec : ct c = some cls := by rw [← lone ok]; exact xc
    obtain ⟨e, w⟩ := w
    rw [e] at xr
    exact ⟨ec, xr, v.te_ok so fun u H2 t2 r2 so2 => q _ u H2 w t2 r2 so2⟩
theorem thk_ok {ct : CT} {B : BP} {C : Cl} {m : TM} {hs : List HC} {ie : IE} {P : Addr} (hP : B.T P) (hx : ∀ h ∈ hs, h.Ok ct X.K ∧ ∀ n cls, ct n = some cls → ∃ cv, ct h.c = some cv ∧ PySem.W.exmOne X.K cls cv = some (h.cs.contains n)) :
    ∀ s H Q, liftE B X.K (wpK C m hs ie) s H Q → Tb H P ∧ ∀ H2, ExtN H H2 → (∀ a, H a ≠ none → H2 a ≠ none) → (∀ P2, Tb H P2 → Tb H2 P2) → TTh X.K m (hvs ct hs) (fun E H3 Q3 => tLam1 B.T ct X.K C ie E s H3 Q3) H2 Q := by
  rintro s H Q ⟨hd, z, st, R, sr, so, h, q⟩
  refine ⟨B.tab sr.b P hP, fun H2 e2 d2 t2 => ?_⟩
  have t := Step.ext (K := ⟨X.K, hd⟩) (st := st) e2 t2
  refine ⟨hd, z, st, _, _, (sr.mono t).r, fun P2 hP2 => t2 P2 (B.tab sr.b P2 hP2), so.ext e2 d2 t2, h, fun d st2 v H3 h3 t3 r3 so3 => ?_, fun x st2 cls dd H3 h3 t3 x3 so3 => ?_⟩
  · cases m with
    | ret => exact q d st2 v H3 h3 (t.trans t3) r3 so3
    | drop fb => exact fb.te_ok so3 fun u H4 t4 r4 so4 => q fb.d st2 u H4 h3 ((t.trans t3).trans t4) r4 so4
    | tell s => exact tel_ok so3 r3 fun u H4 t4 r4 so4 => q _ st2 u H4 h3 ((t.trans t3).trans t4) r4 so4
  · have key : ∀ l : List HC, (∀ h ∈ l, h ∈ hs) → thH l x st2 R → thE X.K Q (hvs ct l) cls dd H3 := by
      intro l
      induction l with
      | nil => exact fun _ y => y.elim
      | cons a r ih =>
        intro hl y
        obtain ⟨ok, hx2⟩ := hx a (hl a (.head _))
        obtain ⟨cv, e1, e3⟩ := hx2 x.cls cls x3.1
        simp only [thH] at y
        refine ⟨a.cs.contains x.cls, by rw [e1]; exact e3, fun b a1 => ?_, fun b => ?_⟩
        · rw [if_pos b] at y
          exact TX.g_ok (R := R) ok x3 so3 b y (fun d v H4 w t4 r4 so4 => q d st2 v H4 w ((t.trans t3).trans t4) r4 so4) a1
        · rw [if_neg (by rw [b]; exact Bool.false_ne_true)] at y
          exact ih (fun h hh => hl h (.tail _ hh)) y
    exact key hs (fun _ y => y) h3
end
end Fy

set_option maxHeartbeats 4000000
/-! sorted(it, key=f): the machine -/
namespace Fy
open PySem PySem.Spec PyProof.Rows L2 SrtO
/-! ### the order of rows of ints -/
theorem lexN_asym : ∀ (xs ys : List Int), lexN xs ys = true → lexN ys xs = false
  | [], _, h => by simp [lexN] at h
  | _ :: _, [], h => by simp [lexN] at h
  | x :: xs, y :: ys, h => by
    simp only [lexN] at h ⊢
    by_cases e : x = y
    · subst e
      rw [if_pos rfl] at h ⊢
      exact lexN_asym xs ys h
    · rw [if_neg e] at h
      rw [if_neg (fun z => e z.symm)]
      have := of_decide_eq_true h
      exact decide_eq_false (by omega)
theorem lexN_tr : ∀ (xs ys zs : List Int), xs.length = ys.length → ys.length = zs.length → lexN xs ys = false → lexN ys zs = false → lexN xs zs = false
  | [], _, _, _, _, _, _ => by simp [lexN]
  | x :: xs, [], _, h, _, _, _ => by simp at h
  | x :: xs, y :: ys, [], _, h, _, _ => by simp at h
  | x :: xs, y :: ys, z :: zs, h1, h2, h3, h4 => by
    simp only [lexN] at h3 h4 ⊢
    by_cases e : x = y
    · subst e
      rw [if_pos rfl] at h3
      by_cases e2 : x = z
      · subst e2
        rw [if_pos rfl] at h4 ⊢
        exact lexN_tr xs ys zs (by simpa using h1) (by simpa using h2) h3 h4
      · rw [if_neg e2] at h4 ⊢
        exact h4
    · rw [if_neg e] at h3
      have h3 := of_decide_eq_false h3
      by_cases e2 : y = z
      · subst e2
        rw [if_neg e]
        exact decide_eq_false h3
      · rw [if_neg e2] at h4
        have h4 := of_decide_eq_false h4
        rw [if_neg (by omega)]
        exact decide_eq_false (by omega)
/-- rows of d ints; others are like the row of noughts -/
def cutK (d : Nat) (l : List Int) : List Int := if l.length = d then l else List.replicate d 0
theorem cutK_len {d : Nat} {l : List Int} : (cutK d l).length = d := by
  unfold cutK
  split
  · assumption
  · simp
theorem cutK_eq {d : Nat} {l : List Int} (h : l.length = d) : cutK d l = l := if_pos h
theorem swoN {α : Type} (d : Nat) (k : α → List Int) : Swo fun v u => lexN (cutK d (k v)) (cutK d (k u)) :=
  ⟨fun x y h => lexN_asym _ _ h, fun x y z h1 h2 => lexN_tr _ (cutK d (k y)) _ (cutK_len.trans cutK_len.symm) (cutK_len.trans cutK_len.symm) h2 h1⟩
/-- a tuple of ints -/
def IsTupI (h : Heap) (v : Value) (ns : List Int) : Prop := ∃ a o its n, v = .ref a ∧ h.get? a = some o ∧ o.cls = .type "tuple" ∧ o.data = .seq (its : List Value).toArray n ∧ IntsAre its ns
theorem IsTupI.keeps {h h' : Heap} {v : Value} {ns : List Int} (p : IsTupI h v ns) (k : ∀ b o, h.get? b = some o → o.cls = .type "tuple" → h'.get? b = some o) : IsTupI h' v ns := by
  obtain ⟨a, o, its, n, e, ho, hc, hd⟩ := p
  exact ⟨a, o, its, n, e, k _ _ ho hc, hc, hd⟩
section
variable {prog : Program} {w : World} {A : Around} {E : Value → Shared → Prop} {s : Shared}
theorem lex_all {Q : Bool → Shared → Prop} {b : Bool} : ∀ {xs ys : List Value} {ns ms : List Int} (i : Nat), IntsAre xs ns → IntsAre ys ms → ns.length = ms.length → Q (lexN ns ms) s → PySem.W.KatLex prog w A b false Q (xs.zip ys) i s
  | _, _, _, _, i, .nil, .nil, _, h => PySem.W.kat_nil h
  | _, _, _, _, i, .nil, .cons _ _ _, e, _ => by simp at e
  | _, _, _, _, i, .cons _ _ _, .nil, e, _ => by simp at e
  | _, _, _, _, i, .cons x t hx, .cons y u hy, e, h => by
    refine PySem.W.kat_cons (SeqAt.EqAt.int_int x t y u prog w _ _ ?_)
    simp only [lexN] at h
    refine PySem.W.kat_go (fun e1 => ?_) (fun e1 => ?_)
    · have ex : x = y := by simpa using e1
      rw [if_pos ex] at h
      exact PySem.W.kat_yes (lex_all (i + 1) hx hy (by simpa using e) h)
    · have ex : ¬ x = y := by simpa using e1
      rw [if_neg ex] at h
      exact PySem.W.kat_no (TS.oneLt_ints _ h)
theorem tup_cmp {vs : List Value} {k : Value → List Int} {d : Nat} (hp : ∀ v ∈ vs, IsTupI s.heap v (k v) ∧ (k v).length = d) : SrtO.Cmp prog w A s (tuples' true) (fun p => p.1 ∈ vs) (lt2 fun v u => lexN (cutK d (k v)) (cutK d (k u))) := by
  intro p q hm hm'
  obtain ⟨⟨a, o, its, n, e, ho, hc, hd, hi⟩, l1⟩ := hp _ hm
  obtain ⟨⟨a', o', its', n', e', ho', hc', hd', hi'⟩, l2⟩ := hp _ hm'
  show wpAny (model prog w) A (keyLt' (tuples' true) p.1 q.1) (fun r s' => s' = s ∧ r = lexN (cutK d (k p.1)) (cutK d (k q.1))) (fun _ _ => False) s
  rw [e, e']
  refine PySem.W.kat_lt ho hd ho' hd' ?_
  have z : decide (its.toArray.size < its'.toArray.size) = false := by
    have q1 := hi.length
    have q2 := hi'.length
    exact decide_eq_false (by rw [List.size_toArray, List.size_toArray]; omega)
  rw [z, ← e, ← e', cutK_eq l1, cutK_eq l2]
  exact lex_all 0 hi hi' (by rw [l1, l2]) ⟨rfl, rfl⟩
theorem firstsN {h : Heap} {k : Value → List Int} {d : Nat} (hd : 1 ≤ d) : ∀ vs : List Value, (∀ v ∈ vs, IsTupI h v (k v) ∧ (k v).length = d) → ∃ fs, PySem.W.KatTups h vs fs ∧ fs.length = vs.length ∧ ∀ f, f ∈ fs → ∃ n t, f = Value.int n t
  | [], _ => ⟨[], PySem.W.KatTups.nil, rfl, fun f hf => by simp at hf⟩
  | v :: vs, x => by
    obtain ⟨fs, kk, hl, hi⟩ := firstsN hd vs fun u hu => x u (List.mem_cons_of_mem _ hu)
    obtain ⟨⟨a, o, its, n, e, ho, hc, hdt, i⟩, hn⟩ := x v (List.mem_cons_self ..)
    generalize k v = kv at i hn
    subst e
    cases i with
    | nil => simp at hn; omega
    | cons m t r => exact ⟨.int m t :: fs, PySem.W.KatTups.cons ho hc hdt rfl kk, by simp [hl], fun f hf => by
        rcases List.mem_cons.mp hf with rfl | hf
        · exact ⟨m, t, rfl⟩
        · exact hi f hf⟩
theorem tup_kind {vs : List Value} {k : Value → List Int} {d : Nat} (hd : 1 ≤ d) (h2 : 0 < vs.length) (hp : ∀ v ∈ vs, IsTupI s.heap v (k v) ∧ (k v).length = d) {Q : SortKind → Shared → Prop} (h : Q (tuples' true) s) : wpAny (model prog w) A (keyKind' vs.toArray) Q E s := by
  obtain ⟨fs, k, hl, hi⟩ := firstsN hd vs hp
  refine PySem.W.kat_kind (T := Value.type "int") k (by omega) (fun f hf => ?_) rfl ?_
  · obtain ⟨n, t, rfl⟩ := hi f hf
    exact PySem.W.Looks.of_pure rfl
  · have e : (Value.type "int" != Value.type "tuple") = true := by first | decide +kernel | rfl | decide
    rw [e]
    exact h
end
/-! ### keys -/
/-- all ints, or all tuples of d ints -/
def KeysOk (h : Heap) (vs : List Value) (k : Value → List Int) (d : Nat) : Prop := (d = 1 ∧ ∀ v ∈ vs, ∃ n t, v = .int n t ∧ k v = [n]) ∨ (1 ≤ d ∧ ∀ v ∈ vs, IsTupI h v (k v) ∧ (k v).length = d)
abbrev ltK (k : Value → List Int) (d : Nat) : Value → Value → Bool := fun v u => lexN (cutK d (k v)) (cutK d (k u))
section
variable {prog : Program} {w : World} {A : Around} {E : Value → Shared → Prop} {s : Shared}
theorem one_cmp {vs : List Value} {k : Value → List Int} (hp : ∀ v ∈ vs, ∃ n t, v = .int n t ∧ k v = [n]) : SrtO.Cmp prog w A s oneType' (fun p => p.1 ∈ vs) (lt2 (ltK k 1)) := by
  intro p q hm hm'
  obtain ⟨n, t, e, ek⟩ := hp _ hm
  obtain ⟨n', t', e', ek'⟩ := hp _ hm'
  show wpAny (model prog w) A (keyLt' oneType' p.1 q.1) (fun r s' => s' = s ∧ r = lexN (cutK 1 (k p.1)) (cutK 1 (k q.1))) (fun _ _ => False) s
  rw [ek, ek', e, e']
  refine PySem.W.kat_lt_int ⟨rfl, ?_⟩
  simp only [cutK, lexN, List.length_singleton, if_true]
  by_cases z : n = n'
  · subst z
    simp
  · rw [if_neg z]
theorem ints_of_one {k : Value → List Int} : ∀ {vs : List Value}, (∀ v ∈ vs, ∃ n t, v = .int n t ∧ k v = [n]) → ∃ ns, IntsAre vs ns
  | [], _ => ⟨[], .nil⟩
  | v :: vs, h => by
    obtain ⟨ns, hi⟩ := ints_of_one (vs := vs) fun u hu => h u (List.mem_cons_of_mem _ hu)
    obtain ⟨n, t, e, _⟩ := h v List.mem_cons_self
    subst e
    exact ⟨n :: ns, .cons n t hi⟩
theorem keys_sort {vs : List Value} {k : Value → List Int} {d : Nat} (ok : KeysOk s.heap vs k d) (h2 : 2 ≤ vs.length) : ∃ κ, (∀ (Q : SortKind → Shared → Prop) (E : Value → Shared → Prop), Q κ s → wpAny (model prog w) A (keyKind' vs.toArray) Q E s) ∧ SrtO.Cmp prog w A s κ (fun p => p.1 ∈ vs) (lt2 (ltK k d)) := by
  rcases ok with ⟨rfl, h⟩ | ⟨hd, h⟩
  · obtain ⟨ns, hi⟩ := ints_of_one h
    refine ⟨oneType', fun Q E q => ?_, one_cmp h⟩
    have e := ksk_kind (keys := vs.toArray) (kz := ns) (by simpa using hi) (by simpa using h2)
    rw [e]
    exact wpAny_pure q
  · exact ⟨tuples' true, fun Q E q => tup_kind hd (by omega) h q, tup_cmp h⟩
end
/-! ### between two calls -/
structure Mid (X : Cx) (H : Hp) (s : Shared) (H1 : Hp) (s1 : Shared) : Prop where
  os : s1.os = s.os
  bare : AllBare s1.gens
  un : Un (frs X.stack) [] H H1 s.heap s1.heap
  hok : HOk X.prog X.w H1 s1.heap
section
variable {X : Cx} {pins : List (Addr × Obj)} {z : L2.St} {H H1 H2 : Hp} {s s1 s2 : Shared}
theorem Mid.start (J : Inv X pins z H s) : Mid X H s H s := ⟨rfl, J.bare, Un.refl, J.hok⟩
theorem Mid.inv (J : Inv X pins z H s) (m : Mid X H s H1 s1) : Inv X pins z H1 s1 := by
  obtain ⟨hh, g, d, t, os'⟩ := s1
  obtain rfl : os' = s.os := m.os
  exact J.call (h' := hh) (g' := g) (d' := d) (t' := t) (ch := []) m.un m.hok m.bare (fun b z => absurd z (by simp))
theorem Mid.after {Q : VK} {u : Value} (m : Mid X H s H1 s1) (h : CE X.stack X.prog X.w H1 s1 Q u s2) : ∃ v H2, Mid X H s H2 s2 ∧ Un (frs X.stack) [] H1 H2 s1.heap s2.heap ∧ RelV v u ∧ Q v H2 := by
  obtain ⟨v, H2, os, bare, un, hok, r, q⟩ := h
  exact ⟨v, H2, ⟨os.trans m.os, bare, m.un.trans un, hok⟩, un, r, q⟩
/-- a thing of our own is written -/
theorem Mid.own {b : Addr} {h' : Heap} {tk : Nat} (m : Mid X H s H1 s1) (hb : s.heap.get? b = none) (hn : H1 b = none) (k : ∀ c u, c ≠ b → s1.heap.get? c = some u → h'.get? c = some u) : Mid X H s H1 { s1 with heap := h', toks := tk } := by
  have lt : ∀ {c : Addr} {o : Obj}, s.heap.get? c = some o → c ≠ b := fun {c o} e z => by
    rw [z, hb] at e
    cases e
  refine ⟨m.os, m.bare, ⟨fun c o e n f x => k c o (lt e) (m.un.keep c o e n f x), fun c o e n f x => ?_, m.un.free, fun c o e x => ?_, m.un.tups, m.un.frzs, m.un.tbls⟩, fun a o e => ?_⟩
  · obtain ⟨sl, q⟩ := m.un.slot c o e n f x
    exact ⟨sl, k c _ (lt e) q⟩
  · obtain ⟨o', q⟩ := m.un.there c o e x
    exact ⟨o', k c _ (lt e) q⟩
  · refine (m.hok a o e).stay (fun c u hc q => k c u ?_ q) (fun _ q => q) fun _ _ q => q
    rintro rfl
    rcases hc with rfl | hc
    · rw [hn] at e; cases e
    · rw [hn] at hc; cases hc
theorem Mid.kept {h' : Heap} {tk : Nat} (m : Mid X H s H1 s1) (k : ∀ c u, s1.heap.get? c = some u → h'.get? c = some u) : Mid X H s H1 { s1 with heap := h', toks := tk } :=
  ⟨m.os, m.bare, m.un.trans (Un.kept k), m.hok.kept k⟩
/-- a thing of our own is told from now on -/
theorem Mid.lay {b : Addr} {o : HO} (m : Mid X H s H1 s1) (hb : s.heap.get? b = none) (hn : H1 b = none) (new : ObjOk X.prog X.w (upd H1 b o) s1.heap b o) : Mid X H s (upd H1 b o) s1 := by
  have lt : ∀ {c : Addr} {o : Obj}, s.heap.get? c = some o → c ≠ b := fun {c o} e z => by
    rw [z, hb] at e
    cases e
  have ne : ∀ {c : Addr} {o : HO}, H1 c = some o → c ≠ b := fun {c o} e z => by
    rw [z, hn] at e
    cases e
  refine ⟨m.os, m.bare, ⟨m.un.keep, m.un.slot, fun c o e n x => by rw [upd_ne (lt e)]; exact m.un.free c o e n x, m.un.there, fun c xs e => ?_, fun c ob u e => ?_, fun c ps e => ?_⟩, fun a u e => ?_⟩
  · have q := m.un.tups c xs e
    rw [upd_ne (ne q)]
    exact q
  · have q := m.un.frzs c ob u e
    rw [upd_ne (ne q)]
    exact q
  · obtain ⟨more, q⟩ := m.un.tbls c ps e
    exact ⟨more, by rw [upd_ne (ne q)]; exact q⟩
  · by_cases c : a = b
    · subst c
      rw [upd_same] at e
      cases e
      exact new
    · rw [upd_ne c] at e
      exact (m.hok a u e).stay (fun _ _ _ q => q) (fun d q => by rw [upd_ne (ne q)]; exact q) fun d xs q => by rw [upd_ne (ne q)]; exact q
end
end Fy

set_option maxHeartbeats 4000000
/-! sorted(it, key=f): the run -/
namespace Fy
open PySem PySem.Spec PyProof.Rows L2 SrtO
/-! ### rows that go along -/
theorem perm_lift {α β : Type} {R : α → β → Prop} {l' l : List β} (p : l'.Perm l) : ∀ {m : List α}, Paired R m l → ∃ m', m'.Perm m ∧ Paired R m' l' := by
  induction p with
  | nil => intro m h; exact ⟨m, .refl _, h⟩
  | cons x _ ih =>
    intro m h
    cases h with
    | cons r t =>
      obtain ⟨m', h1, h2⟩ := ih t
      exact ⟨_ :: m', h1.cons _, .cons r h2⟩
  | swap x y l =>
    intro m h
    cases h with
    | cons r t =>
      cases t with
      | cons r2 t2 => exact ⟨_, .swap _ _ _, .cons r2 (.cons r t2)⟩
  | trans _ _ ih1 ih2 =>
    intro m h
    obtain ⟨m1, h1, h2⟩ := ih2 h
    obtain ⟨m2, h3, h4⟩ := ih1 h2
    exact ⟨m2, h3.trans h1, h4⟩
theorem paired_pw {α β : Type} {R : α → β → Prop} {S : α → α → Prop} {T : β → β → Prop} (h : ∀ a b c d, R a b → R c d → T b d → S a c) : ∀ {m : List α} {l : List β}, Paired R m l → l.Pairwise T → m.Pairwise S
  | _, _, .nil, _ => .nil
  | _, _, .cons (l₁ := m) (l₂ := l) r t, p => by
    rw [List.pairwise_cons] at p ⊢
    refine ⟨fun c hc => ?_, paired_pw h t p.2⟩
    have key : ∀ {m : List α} {l : List β}, Paired R m l → c ∈ m → ∃ d ∈ l, R c d := by
      intro m l hp
      induction hp with
      | nil => intro q; cases q
      | cons r2 _ ih =>
        intro q
        rcases List.mem_cons.mp q with rfl | q
        · exact ⟨_, List.mem_cons_self, r2⟩
        · obtain ⟨d, hd, z⟩ := ih q
          exact ⟨d, List.mem_cons_of_mem _ hd, z⟩
    obtain ⟨d, hd, rd⟩ := key t hc
    exact h _ _ _ _ r rd (p.1 d hd)
theorem ints_fun : ∀ {vs : List Value} {ns ms : List Int}, IntsAre vs ns → IntsAre vs ms → ns = ms
  | _, _, _, .nil, .nil => rfl
  | _, _, _, .cons n t h, h2 => by
    cases h2 with
    | cons _ _ k => rw [ints_fun h k]
theorem tupI_fun {h : Heap} {v : Value} {ns ms : List Int} (a : IsTupI h v ns) (b : IsTupI h v ms) : ns = ms := by
  obtain ⟨x, o, its, n, e, ho, _, hd, hi⟩ := a
  obtain ⟨x', o', its', n', e', ho', _, hd', hi'⟩ := b
  rw [e] at e'
  cases e'
  rw [ho] at ho'
  cases ho'
  rw [hd] at hd'
  cases hd'
  exact ints_fun hi hi'
/-- what a key tells -/
noncomputable def keyR (h : Heap) (v : Value) : List Int := match v with
  | .int n _ => [n]
  | v => open Classical in if q : ∃ ns, IsTupI h v ns then choose q else []
theorem keyR_int {h : Heap} {n : Int} {t : Tok} : keyR h (.int n t) = [n] := rfl
theorem keyR_tup {h : Heap} {v : Value} {ns : List Int} (i : IsTupI h v ns) : keyR h v = ns := by
  obtain ⟨a, _, _, _, e, _⟩ := id i
  have e2 : keyR h v = (open Classical in if q : ∃ ns, IsTupI h v ns then choose q else []) := by
    rw [e]
    rfl
  have ex : ∃ ns, IsTupI h v ns := ⟨ns, i⟩
  rw [e2, dif_pos ex]
  exact tupI_fun (Classical.choose_spec ex) i
/-- keys: ints, or tuples of d ints -/
def KeysV (H : Hp) (ks : List V) (rows : List (List Int)) (d : Nat) : Prop :=
  (d = 1 ∧ Paired (fun v ns => ∃ n, v = .int n ∧ ns = [n]) ks rows) ∨ (1 ≤ d ∧ Paired (fun v ns => ns.length = d ∧ ∃ t, v = .ref t ∧ H t = some (.tup (ns.map V.int))) ks rows)
section
variable {X : Cx} {pins : List (Addr × Obj)} {z : L2.St} {H H1 H2 : Hp} {s s1 s2 : Shared}
theorem keys_at {ks : List V} {us : List Value} {rows : List (List Int)} {d : Nat} (hok : HOk X.prog X.w H1 s1.heap) (r : Vals ks us) (kv : KeysV H1 ks rows d) : KeysOk s1.heap us (keyR s1.heap) d ∧ Paired (fun ns u => keyR s1.heap u = ns ∧ ns.length = d) rows us := by
  rcases kv with ⟨rfl, kv⟩ | ⟨hd, kv⟩
  · have key : ∀ {ks : List V} {us : List Value} {rows : List (List Int)}, Vals ks us → Paired (fun v ns => ∃ n, v = .int n ∧ ns = [n]) ks rows → (∀ v ∈ us, ∃ n t, v = .int n t ∧ keyR s1.heap v = [n]) ∧ Paired (fun ns u => keyR s1.heap u = ns ∧ ns.length = 1) rows us := by
      intro ks us rows r p
      induction p generalizing us with
      | nil => cases r; exact ⟨fun _ h => (by cases h), .nil⟩
      | cons q t ih =>
        cases r with
        | cons r1 r2 =>
          obtain ⟨a, b⟩ := ih r2
          obtain ⟨n, rfl, rfl⟩ := q
          obtain ⟨tk, rfl⟩ := r1
          refine ⟨fun v hv => ?_, .cons ⟨rfl, rfl⟩ b⟩
          rcases List.mem_cons.mp hv with rfl | hv
          · exact ⟨n, tk, rfl, rfl⟩
          · exact a v hv
    exact ⟨.inl ⟨rfl, (key r kv).1⟩, (key r kv).2⟩
  · have key : ∀ {ks : List V} {us : List Value} {rows : List (List Int)}, Vals ks us → Paired (fun v ns => ns.length = d ∧ ∃ t, v = .ref t ∧ H1 t = some (.tup (ns.map V.int))) ks rows → (∀ v ∈ us, IsTupI s1.heap v (keyR s1.heap v) ∧ (keyR s1.heap v).length = d) ∧ Paired (fun ns u => keyR s1.heap u = ns ∧ ns.length = d) rows us := by
      intro ks us rows r p
      induction p generalizing us with
      | nil => cases r; exact ⟨fun _ h => (by cases h), .nil⟩
      | cons q t ih =>
        cases r with
        | cons r1 r2 =>
          obtain ⟨a, b⟩ := ih r2
          obtain ⟨hl, tt, rfl, ht⟩ := q
          obtain rfl : _ = Value.ref tt := r1
          obtain ⟨_, its, rv, o, ho, hc, n, hd2⟩ := hok tt _ ht
          have ti : IsTupI s1.heap (.ref tt) _ := ⟨tt, o, its, n, rfl, ho, hc, hd2, rv.ints⟩
          refine ⟨fun v hv => ?_, .cons ⟨keyR_tup ti, hl⟩ b⟩
          rcases List.mem_cons.mp hv with rfl | hv
          · rw [keyR_tup ti]
            exact ⟨ti, hl⟩
          · exact a v hv
    exact ⟨.inr ⟨hd, (key r kv).1⟩, (key r kv).2⟩
theorem Vals.snoc {vs : List V} {us : List Value} {v : V} {u : Value} (r : Vals vs us) (q : RelV v u) : Vals (vs ++ [v]) (us ++ [u]) := by
  induction r with
  | nil => exact .cons q .nil
  | cons a b ih => exact .cons a ih
theorem inv_nofr (J : Inv X pins z H s) {f : Addr} (hf : s.heap.get? f = none) : f ∉ frs X.stack := fun y => by
  obtain ⟨_, o, ho, _⟩ := J.stack.mem y
  rw [hf] at ho
  cases ho
theorem zip_paired {d : Nat} {h : Heap} : ∀ {rows : List (List Int)} {us : List Value} {xs : List V} {vs : List Value}, Paired (fun ns u => keyR h u = ns ∧ ns.length = d) rows us → Vals xs vs → Paired (fun (p : List Int × V) (q : Value × Value) => (keyR h q.1 = p.1 ∧ p.1.length = d) ∧ RelV p.2 q.2) (rows.zip xs) (us.zip vs)
  | _, _, _, _, .nil, _ => .nil
  | _, _, _, _, .cons _ _, .nil => .nil
  | _, _, _, _, .cons a b, .cons c e => .cons ⟨a, c⟩ (zip_paired b e)
theorem paired_vals {d : Nat} {h : Heap} : ∀ {ps : List (List Int × V)} {qs : List (Value × Value)}, Paired (fun (p : List Int × V) (q : Value × Value) => (keyR h q.1 = p.1 ∧ p.1.length = d) ∧ RelV p.2 q.2) ps qs → Vals (ps.map (·.2)) (qs.map (·.2))
  | _, _, .nil => .nil
  | _, _, .cons a b => .cons a.2 (paired_vals b)
/-- what stands when a list is put in order by keys -/
def OutK (rows : List (List Int)) (xs : List V) (ys : List V) : Prop := ∃ ps : List (List Int × V), ps.Perm (rows.zip xs) ∧ ps.Pairwise (fun a b => lexN b.1 a.1 = false) ∧ ys = ps.map (·.2)
theorem sort_key {a : Addr} {fv : Value} {vs : List Value} {xs : List V} {n : Nat} {R : PySem.Fin → Shared → Prop} {E : Value → Shared → Prop} (PK : Nat → List V → Hp → Prop) (J : Inv X pins z H s) (m : Mid X H s H1 s1) (ha : s.heap.get? a = none) (hna : H1 a = none) (ho : s1.heap.get? a = some (seqObj "list" vs.toArray n))
    (rx : Vals xs vs) (hz : vs.length ≤ sizeLine) (h0 : PK 0 [] H1)
    (turn : ∀ (i : Nat) (v : Value) (x : V), vs[i]? = some v → xs[i]? = some x → RelV x v → ∀ (ks : List V) (H3 : Hp) (s3 : Shared), Mid X H s H3 s3 → PK i ks H3 → codeAny (model X.prog X.w) X.A.in1.in1 (.call fv ⟨[v], []⟩) (fun r s4 => ∃ u, r = .ok (.ret u) ∧ CE X.stack X.prog X.w H3 s3 (fun k H4 => PK (i + 1) (ks ++ [k]) H4) u s4) s3)
    (done : ∀ (ks : List V) (H3 : Hp), PK xs.length ks H3 → ∃ rows d, KeysV H3 ks rows d ∧ ks.length = xs.length ∧ ∀ (ys : List V) (s4 : Shared), OutK rows xs ys → H3 a = none → Mid X H s (upd H3 a (.lst ys)) s4 → R (.done (.ret .none)) s4) :
    wpAny (model X.prog X.w) X.A.in1.in1 (ksk_tree a fv false) R E s1 := by
  have la : a < s1.heap.objs.size := Heap.lt_size ho
  obtain ⟨e1, ho1⟩ : ∃ e1, (s1.heap.update a (Obj.mapSeq fun _ => (#[] : Array Value))).get? a = some (seqObj "list" #[] e1) := ⟨_, get?_update_seq ho fun _ => #[]⟩
  have sb := Heap.SameBut.update s1.heap a (Obj.mapSeq fun _ => (#[] : Array Value))
  have m1 : Mid X H s H1 { s1 with heap := s1.heap.update a (Obj.mapSeq fun _ => (#[] : Array Value)), toks := s1.toks } := m.own ha hna fun c u hc e => (sb.2 c hc).trans e
  have zk : ((s1.heap.update a (Obj.mapSeq fun _ => (#[] : Array Value))).push (seqObj "tuple" vs.toArray 0)).objs.size = s1.heap.objs.size + 1 := by rw [size_push', Heap.size_update]
  unfold ksk_tree
  refine wpAny_bind (listItems_at ho rfl ?_)
  refine wpAny_bind (listUpdate_at ho rfl ?_ (by rw [List.size_toArray]; exact hz) (Nat.zero_le _))
  refine wpAny_bind (seqEpoch_at ho1 rfl ?_)
  refine wpAny_bind (wpAny_newTuple ?_ (by show vs.length ≤ _; exact hz))
  refine wpAny_bind (wpAny_newList ?_ (Nat.zero_le _))
  refine wpAny_holding ?_
  obtain ⟨kS, hkS⟩ : ∃ kS, kS = ((s1.heap.update a (Obj.mapSeq fun _ => (#[] : Array Value))).push (seqObj "tuple" vs.toArray 0)).objs.size := ⟨_, rfl⟩
  rw [← hkS]
  have zk : kS = s1.heap.objs.size + 1 := hkS.trans zk
  have ks1 : s.heap.get? kS = none := by
    cases q : s.heap.get? kS with
    | none => rfl
    | some o =>
      obtain ⟨o2, q2⟩ := m.un.there kS o q (by simp)
      have := Heap.lt_size q2
      rw [zk] at this
      exact absurd (Nat.lt_of_succ_lt this) (Nat.lt_irrefl _)
  have nka : kS ≠ a := fun q => Nat.ne_of_lt (Nat.lt_succ_of_lt la) (q.symm.trans zk)
  have nkH : H1 kS = none := m.hok.fresh (by rw [zk]; omega)
  have frk : kS ∉ frs X.stack := inv_nofr J ks1
  have fra : a ∉ frs X.stack := inv_nofr J ha
  have m2 : Mid X H s H1 { s1 with heap := ((s1.heap.update a (Obj.mapSeq fun _ => (#[] : Array Value))).push (seqObj "tuple" vs.toArray 0)).push (seqObj "list" #[] 0) } := m1.kept (tk := s1.toks) fun c u e => Heap.get?_push_of_some _ (Heap.get?_push_of_some _ e)
  have gk : (((s1.heap.update a (Obj.mapSeq fun _ => (#[] : Array Value))).push (seqObj "tuple" vs.toArray 0)).push (seqObj "list" #[] 0)).get? kS = some (seqObj "list" (List.toArray []) 0) := by
    rw [hkS]
    exact Heap.get?_push_size _ rfl
  have ga : (((s1.heap.update a (Obj.mapSeq fun _ => (#[] : Array Value))).push (seqObj "tuple" vs.toArray 0)).push (seqObj "list" #[] 0)).get? a = some (seqObj "list" #[] e1) := Heap.get?_push_of_some _ (Heap.get?_push_of_some _ ho1)
  show wpAny (model X.prog X.w) X.A.in1.in1 (ksk_rest a fv false vs.toArray e1 (.ref kS)) R E { s1 with heap := ((s1.heap.update a (Obj.mapSeq fun _ => (#[] : Array Value))).push (seqObj "tuple" vs.toArray 0)).push (seqObj "list" #[] 0) }
  have gk : ({ s1 with heap := ((s1.heap.update a (Obj.mapSeq fun _ => (#[] : Array Value))).push (seqObj "tuple" vs.toArray 0)).push (seqObj "list" #[] 0) } : Shared).heap.get? kS = some (seqObj "list" (List.toArray []) 0) := gk
  have ga : ({ s1 with heap := ((s1.heap.update a (Obj.mapSeq fun _ => (#[] : Array Value))).push (seqObj "tuple" vs.toArray 0)).push (seqObj "list" #[] 0) } : Shared).heap.get? a = some (seqObj "list" #[] e1) := ga
  generalize ({ s1 with heap := ((s1.heap.update a (Obj.mapSeq fun _ => (#[] : Array Value))).push (seqObj "tuple" vs.toArray 0)).push (seqObj "list" #[] 0) } : Shared) = s5 at m2 gk ga
  unfold ksk_rest
  refine wpAny_bind (wpAny_rule ?_)
  first
    | rw [List.forIn_toArray]
    | (rw [← Array.forIn_toList]; simp only [List.toList_toArray])
    | rw [← Array.forIn_toList]
  refine wpAny_bind (ksk_fold (fun i s' => ∃ (H3 : Hp) (ks : List V) (us : List Value) (e : Nat), Mid X H s H3 s' ∧ H3 kS = none ∧ H3 a = none ∧ s'.heap.get? kS = some (seqObj "list" us.toArray e) ∧ s'.heap.get? a = some (seqObj "list" #[] e1) ∧ Vals ks us ∧ ks.length = i ∧ PK i ks H3) vs 0 s5
    ⟨H1, [], [], 0, m2, nkH, hna, gk, ga, .nil, rfl, h0⟩ ?step ?done)
  case step =>
    rintro j v s' hx ⟨H3, ks, us, e, m3, n1, n2, g1, g2, rv, hl, pk⟩
    rw [Nat.zero_add] at pk hl
    have hj : j < vs.length := (List.getElem?_eq_some_iff.mp hx).1
    obtain ⟨x, hxx, rxx⟩ : ∃ x, xs[j]? = some x ∧ RelV x v := by
      have hl2 := rx.length
      obtain ⟨u, hu, ru⟩ := rx.get (List.getElem?_eq_getElem (show j < xs.length by omega))
      rw [hx] at hu
      cases hu
      exact ⟨_, List.getElem?_eq_getElem (show j < xs.length by omega), ru⟩
    have hul : us.length = j := by rw [← rv.length, hl]
    refine wpAny_bind (wpAny_attempt (wpAny_call (codeAny_mono (turn j v x hx hxx rxx ks H3 s' m3 pk) fun r s4 q => ?_)))
    obtain ⟨u, rfl, ce⟩ := q
    obtain ⟨k, H4, m4, un4, rk, pk4⟩ := m3.after ce
    have g1b := un4.keep kS _ g1 n1 frk (by simp)
    have g2b := un4.keep a _ g2 n2 fra (by simp)
    have n1b := un4.free kS _ g1 n1 (by simp)
    have n2b := un4.free a _ g2 n2 (by simp)
    have sb2 := Heap.SameBut.update s4.heap kS (Obj.mapSeq (·.push u))
    try dsimp only
    refine wpAny_bind (listUpdate_at g1b rfl ?_ (by rw [List.size_toArray]; omega) (by rw [Array.size_push, List.size_toArray]; omega))
    obtain ⟨c2, hc2⟩ : ∃ c2, (s4.heap.update kS (Obj.mapSeq (·.push u))).get? kS = some (seqObj "list" (us.toArray.push u) c2) := ⟨_, get?_update_seq g1b (·.push u)⟩
    refine wpAny_pure ⟨rfl, H4, ks ++ [k], us ++ [u], c2, ?_, n1b, n2b, ?_, (sb2.2 a (Ne.symm nka)).trans g2b, Vals.snoc rv rk, by simp [hl], by rw [Nat.zero_add]; exact pk4⟩
    · exact m4.own (tk := s4.toks) ks1 n1b fun c w hc e => (sb2.2 c hc).trans e
    · rw [hc2]
      congr 2
      simp
  case done =>
    rintro s' ⟨H3, ks, us, e, m3, n1, n2, g1, g2, rv, hl, pk⟩
    rw [Nat.zero_add] at pk hl
    have hlx : xs.length = vs.length := rx.length
    obtain ⟨rows, d, kv, hlk, fin⟩ := done ks H3 (by rw [hlx]; exact pk)
    have hul : us.length = vs.length := by rw [← rv.length, hl]
    obtain ⟨kok, prd⟩ := keys_at m3.hok rv kv
    try dsimp only
    refine wpAny_bind (listItems_at g1 rfl ?_)
    have fin2 : ∀ st : SortSt, failedOf st = none → Srtd (lt2 (ltK (keyR s'.heap) d)) (arrOf st).toList → (arrOf st).toList.Perm (us.zip vs) → wpAny (model X.prog X.w) X.A.in1.in1 (ksk_tail a false e1 (.ref kS) st) R E s' := by
      intro st hf hs hp
      obtain ⟨ps, p1, p2⟩ := perm_lift hp (zip_paired prd rx)
      have sorted : ps.Pairwise (fun a b => lexN b.1 a.1 = false) := paired_pw (fun a b c e ra rc t => by
        have t : lexN (cutK d (keyR s'.heap e.1)) (cutK d (keyR s'.heap b.1)) = false := t
        rw [ra.1.1, rc.1.1, cutK_eq ra.1.2, cutK_eq rc.1.2] at t
        exact t) p2 hs
      have hlen : ((arrOf st).map (·.2)).size = vs.length := by
        rw [Array.size_map, ← Array.length_toList, hp.length_eq, List.length_zip, hul, Nat.min_self]
      have s1' := Heap.SameBut.update s'.heap kS (Obj.mapSeq fun _ => (#[] : Array Value))
      have ga1 : (s'.heap.update kS (Obj.mapSeq fun _ => (#[] : Array Value))).get? a = some (seqObj "list" #[] e1) := (s1'.2 a (Ne.symm nka)).trans g2
      have s2' := Heap.SameBut.update (s'.heap.update kS (Obj.mapSeq fun _ => (#[] : Array Value))) a (Obj.mapSeq fun _ => (arrOf st).map (·.2))
      obtain ⟨c2, hc2⟩ : ∃ c2, ((s'.heap.update kS (Obj.mapSeq fun _ => (#[] : Array Value))).update a (Obj.mapSeq fun _ => (arrOf st).map (·.2))).get? a = some (seqObj "list" ((arrOf st).map (·.2)) c2) := ⟨_, get?_update_seq ga1 fun _ => (arrOf st).map (·.2)⟩
      unfold ksk_tail
      try dsimp only
      refine wpAny_bind (listUpdate_at g1 rfl ?_ (by rw [List.size_toArray, hul]; exact hz) (Nat.zero_le _))
      refine wpAny_bind (wpAny_letGo ?_)
      refine wpAny_bind (seqEpoch_at ga1 rfl ?_)
      simp only [Bool.false_eq_true, if_false]
      refine wpAny_bind (listUpdate_at ga1 rfl ?_ (Nat.zero_le _) (by rw [hlen]; omega))
      rw [hf]
      simp only [bne_self_eq_false, Bool.false_eq_true, if_false]
      have m4 : Mid X H s H3 { s' with heap := s'.heap.update kS (Obj.mapSeq fun _ => (#[] : Array Value)), toks := s'.toks } := m3.own ks1 n1 fun c w hc e => (s1'.2 c hc).trans e
      have m5 : Mid X H s H3 { s' with heap := (s'.heap.update kS (Obj.mapSeq fun _ => (#[] : Array Value))).update a (Obj.mapSeq fun _ => (arrOf st).map (·.2)), toks := s'.toks } := m4.own (s1 := { s' with heap := s'.heap.update kS (Obj.mapSeq fun _ => (#[] : Array Value)), toks := s'.toks }) ha n2 fun c w hc e => (s2'.2 c hc).trans e
      have pv := paired_vals p2
      have eo : ((arrOf st).toList.map (·.2)).toArray = (arrOf st).map (·.2) := by
        rw [← Array.toList_map, Array.toArray_toList]
      refine wpAny_pure (fin (ps.map (·.2)) _ ⟨ps, p1, sorted, rfl⟩ n2 (m5.lay ha n2 ⟨?_, (arrOf st).toList.map (·.2), c2, pv, ?_⟩))
      · rw [List.length_map, p1.length_eq, List.length_zip]
        omega
      · show _ = some (seqObj "list" _ c2)
        rw [eo]
        exact hc2
    unfold ksk_end
    try dsimp only
    simp only [Bool.false_eq_true, if_false]
    have zl : (us.toArray.zip vs.toArray).toList = us.zip vs := by simp
    by_cases h2 : vs.toArray.size < 2
    · rw [if_pos h2, if_pos h2]
      refine wpAny_bind (wpAny_pure ?_)
      rw [StateT.run_pure]
      refine wpAny_bind (wpAny_pure ?_)
      try dsimp only
      refine fin2 (SortSt.mk' general' (us.toArray.zip vs.toArray) #[] 7 none) rfl ?_ (by show (us.toArray.zip vs.toArray).toList.Perm _; rw [zl])
      show Srtd _ (us.toArray.zip vs.toArray).toList
      rw [zl]
      rw [List.size_toArray] at h2
      have l1 : (us.zip vs).length < 2 := by rw [List.length_zip]; omega
      match us.zip vs, l1 with
      | [], _ => exact List.Pairwise.nil
      | [q], _ => exact List.pairwise_singleton _ _
      | _ :: _ :: l, h => exact absurd h (by rw [List.length_cons, List.length_cons]; omega)
    · rw [if_neg h2, if_neg h2]
      rw [List.size_toArray] at h2
      obtain ⟨κ, hkind, hT⟩ := keys_sort (prog := X.prog) (w := X.w) (A := X.A.in1.in1) kok (by omega)
      refine wpAny_bind (hkind _ _ ?_)
      have hall : AllL (fun p : Keyed => p.1 ∈ us) (us.toArray.zip vs.toArray).toList := fun p hm => by
        rw [zl] at hm
        exact (List.of_mem_zip hm).1
      refine wpAny_bind (wpAny_mono (wpS_sortO (st0 := SortSt.mk' κ (us.toArray.zip vs.toArray) #[] 7 none)
        (Q := fun _ st' => Srtd (lt2 (ltK (keyR s'.heap) d)) (arrOf st').toList ∧ Stb (lt2 (ltK (keyR s'.heap) d)) (arrOf st').toList (us.toArray.zip vs.toArray).toList ∧ failedOf st' = none) (swo2 (swoN d (keyR s'.heap))) hT rfl hall rfl rfl fun st' a1 a2 a3 => ⟨a1, a2, a3⟩) ?_ fun _ _ e => e)
      rintro ⟨⟨⟩, st'⟩ s6 ⟨rfl, hp1, hp2, hf⟩
      try dsimp only
      exact fin2 st' hf hp1 (by rw [← zl]; exact hp2.perm)
end
end Fy

set_option maxHeartbeats 4000000
/-! a lambda of one parameter, called by a built-in -/
namespace Fy
open PySem PySem.Spec PyProof.Rows L2 SrtO LamX
/-- one parameter, no other name of its own -/
structure LamS1 (sc scope : Scope) (x : Str) : Prop where
  kind : scope.kind = .function
  co : scope.isCoroutine = false
  gen : scope.isGenerator = false
  own : ∀ y ∈ scope.names, (y.2 = .local → y.1 = x) ∧ y.2 ≠ .cell
  par : scope.names.lookup x = some .local
  free : ∀ y ∈ scope.names, y.2 = .free → sc.names.lookup y.1 = some .cell ∨ sc.names.lookup y.1 = some .free
def lamS1B (sc scope : Scope) (x : Str) : Bool :=
  decide (scope.kind = .function) && !scope.isCoroutine && !scope.isGenerator && decide (scope.names.lookup x = some .local) && scope.names.all fun y => (!decide (y.2 = .local) || decide (y.1 = x)) && !decide (y.2 = .cell) && (!decide (y.2 = .free) || decide (sc.names.lookup y.1 = some .cell) || decide (sc.names.lookup y.1 = some .free))
theorem lamS1_by {sc scope : Scope} {x : Str} (h : lamS1B sc scope x = true) : LamS1 sc scope x := by
  unfold lamS1B at h
  simp only [Bool.and_eq_true, Bool.or_eq_true, Bool.not_eq_true', decide_eq_true_eq, decide_eq_false_iff_not, List.all_eq_true] at h
  obtain ⟨⟨⟨⟨h1, h2⟩, h3⟩, h5⟩, h4⟩ := h
  refine ⟨h1, h2, h3, fun y hy => ⟨fun e => ?_, (h4 y hy).1.2⟩, h5, fun y hy e => ?_⟩
  · rcases (h4 y hy).1.1 with z | z
    · exact absurd e z
    · exact z
  · rcases (h4 y hy).2 with (z | z) | z
    · exact absurd e z
    · exact .inl z
    · exact .inr z
theorem LamS1.has {X : Cx} {scope : Scope} {x : Str} (L : LamS1 X.env.scope scope x) (ok : X.Ok) : ∀ y ∈ scope.names, y.2 = .free → ∃ c, X.env.cells.lookup y.1 = some c := fun y hy e => by
  rcases L.free y hy e with k | k
  · exact ok.has _ (.inl k)
  · exact ok.has _ (.inr k)
theorem nd_at {α : Type} {N : List α} (nd : N.Nodup) {i j : Nat} {x : α} (h1 : N[i]? = some x) (h2 : N[j]? = some x) : i = j := by
  rw [List.Nodup, List.pairwise_iff_getElem] at nd
  obtain ⟨a, g1⟩ := List.getElem?_eq_some_iff.mp h1
  obtain ⟨b, g2⟩ := List.getElem?_eq_some_iff.mp h2
  rcases Nat.lt_trichotomy i j with h | h | h
  · exact absurd (g1.trans g2.symm) (nd i j a b h)
  · exact h
  · exact absurd (g2.trans g1.symm) (nd j i b a h)
section
variable {X : Cx} {pins : List (Addr × Obj)} {z : L2.St} {H H3 : Hp} {s s3 : Shared}
theorem lam1_start {A : Around} {outer : List Env} {E : XK} {scope : Scope} {f c' : Addr} {h₁ : Heap} {tk i : Nat} {x : Str} {v : V} {u : Value} (I : Inv X pins z H s) (L : LamS1 X.env.scope scope x) (hN : X.N[i]? = some x) (nd : X.N.Nodup) (r : RelV v u) (e0 : Env0 X.prog X.w X.K X.mg X.base A outer s3 H3) (hd : A.handled = none)
    (un : Un (frs X.stack) [] H H3 s.heap s3.heap) (hns : h₁.Ns s3.heap.objs.size fun y => ([(x, u)] : List (Str × Value)).reverse.lookup y) (kp : ∀ b o, s3.heap.get? b = some o → h₁.get? b = some o) :
    Inv (lamCx X A outer s3 H3 E scope f c') [] (z.set i (some v)) H3 { s3 with heap := h₁, toks := tk } := by
  have hfree := L.has I.ok
  have cm : ∀ {y c}, (cloFrom X.env.cells scope.names []).lookup y = some c → X.env.cells.lookup y = some c := fun {y c} e => by
    rcases cloFrom_mem (PySem.mem_of_lookup e) with hm | ⟨h1, h2⟩
    · cases hm
    · obtain ⟨c1, hc⟩ := hfree _ h1 rfl
      have hc : X.env.cells.lookup y = some c1 := hc
      have e2 : c = c1 := by
        rw [h2, hc] <;> rfl
      rw [e2]
      exact hc
  have look : ∀ {y}, scope.names.lookup y = some .free → ∃ c, (cloFrom X.env.cells scope.names []).lookup y = some c := fun {y} hl => by
    have hy : (y, NameKind.free) ∈ scope.names := PySem.mem_of_lookup hl
    exact mem_lookup (cloFrom_has (cells := X.env.cells) (acc := []) hy)
  have cellK : ∀ {c : Addr} {w : Option Value}, H c = none → s.heap.IsCell c w → h₁.IsCell c w := fun {c w} n ⟨o, ho, hd⟩ => by
    obtain ⟨sl, q⟩ := un.any ho n (by simp)
    exact ⟨_, kp _ _ q, hd⟩
  have noA : ∀ b : Addr, b ∉ (lamCx X A outer s3 H3 E scope f c').ex := fun b q => absurd (show b ∈ ([] : List Addr) from q) (by simp)
  refine ⟨⟨e0.mod, L.kind, rfl, rfl, Nat.le_refl _, fun y w c e1 e2 => I.ok.inj y w c (cm e1) (cm e2), fun y hy => ?_, fun y c q _ => ?_, fun _ => hd, Around.frames_deeper e0.frames, .inr ⟨rfl, rfl⟩, fun b q => absurd q (noA b), e0.bs, e0.bsz, fun b _ _ => noA b,
      fun b q => absurd q (noA b), e0.funs, e0.frf⟩,
    rfl, e0.bare, Un.kept kp, ⟨_, hns, fun j y w e1 e2 e3 => ?_⟩, fun y c e => ?_, e0.hok.fresh (Nat.le_refl _), fun y c e => ?_, fun q hq => absurd (show q ∈ ([] : List (Addr × Obj)) ++ [] from hq) (by simp), e0.hok.kept kp, (by rw [List.length_set]; exact I.len)⟩
  · have hy : scope.names.lookup y = some .cell ∨ scope.names.lookup y = some .free := hy
    rcases hy with hy | hy
    · exact absurd rfl (L.own _ (PySem.mem_of_lookup hy)).2
    · exact look hy
  · have q : false = true := q
    cases q
  · have e3 : Vis scope y := e3
    have e1 : X.N[j]? = some y := e1
    by_cases hj : j = i
    · subst hj
      rw [hN] at e1
      cases e1
      have hlt : j < z.length := by
        have := I.len
        obtain ⟨q, _⟩ := List.getElem?_eq_some_iff.mp hN
        omega
      rw [List.getElem?_set_self hlt] at e2
      cases e2
      refine ⟨u, r, .inl ⟨L.par, ?_⟩⟩
      simp [List.lookup]
    · rw [List.getElem?_set_ne (fun q => hj q.symm)] at e2
      have ny : y ≠ x := fun q => by
        subst q
        exact hj (nd_at nd e1 hN)
      rcases e3 with k | k | k
      · exact absurd ((L.own _ (PySem.mem_of_lookup k)).1 rfl) ny
      · exact absurd rfl (L.own _ (PySem.mem_of_lookup k)).2
      · obtain ⟨m, hn, hl⟩ := I.loc
        have hvis : Vis X.env.scope y := (L.free _ (PySem.mem_of_lookup k) rfl).elim (fun k => .inr (.inl k)) (fun k => .inr (.inr k))
        obtain ⟨w', r', q⟩ := hl j y w e1 e2 hvis
        obtain ⟨c2, h2⟩ := look k
        refine ⟨w', r', .inr ⟨.inr k, c2, h2, ?_⟩⟩
        have c1 := cm h2
        rcases q with ⟨k', _⟩ | ⟨_, c3, e', q⟩
        · have k' : X.env.scope.names.lookup y = some .local := k'
          rcases L.free _ (PySem.mem_of_lookup k) rfl with k2 | k2 <;> rw [show X.env.scope.names.lookup y = _ from k2] at k' <;> cases k'
        · rw [c1] at e'
          cases e'
          exact cellK (I.freeC y _ c1) q
  · obtain ⟨w', q⟩ := I.cell y c (cm e)
    exact ⟨w', cellK (I.freeC y c (cm e)) q⟩
  · obtain ⟨w, o, ho, hd⟩ := I.cell y c (cm e)
    exact un.free c o ho (I.freeC y c (cm e)) (by simp)
/-- the lambda at f called with one argument, by whom ever -/
theorem lam1_call {f c' : Addr} {pm ctv : Value} {ps : Arguments} {body : Expr} {scope : Scope} {k i : Nat} {x : Str} {v : V} {u : Value} {A : Around} {E : XK} {tb : TE} {Q : VK} (I : Inv X pins z H s) (L : LamS1 X.env.scope scope x) (hN : X.N[i]? = some x) (nd : X.N.Nodup) (r : RelV v u)
    (hf : s.heap.get? f = some (PySem.W.kla_obj "<lambda>" (X.env.qual ++ "<lambda>") ps body scope (cloFrom X.env.cells scope.names []) pm c' ctv)) (hfn : H f = none) (hfr : f ∉ frs X.stack)
    (hbind : bindArgs (PySem.W.kla_fn "<lambda>" (X.env.qual ++ "<lambda>") ps body scope (cloFrom X.env.cells scope.names []) pm (.ref c') ctv) ⟨[u], []⟩ = pure [(x, u)])
    (m : Mid X H s H3 s3) (hA : A.frames = X.A.frames) (hr : Room (k + 1) A) (hc : H3 c' = some (CodeO c' (X.env.qual ++ "<lambda>")))
    (hbody : Room k (A.deeper (lamEnv X scope s3.heap.objs.size f c')) → PE (lamCx X A X.stack s3 H3 E scope f c') body tb) (ht : tb (z.set i (some v)) H3 Q) :
    codeAny (model X.prog X.w) A (.call (.ref f) ⟨[u], []⟩) (CR (L2.CX X.prog X.w) X.stack X.prog X.w H3 s3 Q E) s3 := by
  have I3 := Mid.inv I m
  have of1 : s3.heap.get? f = some (PySem.W.kla_obj "<lambda>" (X.env.qual ++ "<lambda>") ps body scope (cloFrom X.env.cells scope.names []) pm c' ctv) := m.un.keep f _ hf hfn hfr (by simp)
  obtain ⟨⟨oc, vs, t, hoc, hdc, hvc⟩, _, _⟩ := I3.hok c' _ hc
  refine PySem.W.kla_callFunE hr.depth of1 rfl L.co L.gen rfl ⟨c', oc, vs, t, rfl, hoc, hdc, hvc⟩ ?_
  rw [hbind]
  refine wpAny_pure (wpAny_newFunctionEnv (fun y hy => (L.own y hy).2) (fun y hy => by
    rw [List.mem_singleton] at hy
    rw [hy]
    exact L.par) (fun h₁ hns hsb => ⟨I3.nolimit.fresh _ hsb, ?_⟩) L.kind)
  show codeAny _ _ (.expr body (lamEnv X scope s3.heap.objs.size f c')) _ _
  have kp : ∀ b o, s3.heap.get? b = some o → h₁.get? b = some o := fun b o e => hsb.extBut b o (Nat.ne_of_lt (Heap.lt_size e)) (Heap.get?_push_of_some _ e)
  have e0 : Env0 X.prog X.w X.K X.mg X.base A X.stack s3 H3 := by
    have q := I3.env0
    exact ⟨hA.trans q.frames, q.mod, q.bs, q.bsz, q.funs, q.frf, q.hok, q.bare⟩
  have J : Inv (lamCx X A X.stack s3 H3 E scope f c') [] (z.set i (some v)) H3 { s3 with heap := h₁, toks := s3.toks + ([(x, u)] : List (Str × Value)).length } := lam1_start I L hN nd r e0 hr.hd m.un hns kp
  refine PySem.W.kla_codeExpr (wpAny_mono ((hbody (hr.deeper _)).run [] _ _ H3 Q J ht) (fun w s' hq => ?_) fun e s' hq => hq)
  obtain ⟨w', H', J', rv, q⟩ := hq
  exact ⟨w', H', J'.os, J'.bare, J'.base, J'.hok, rv, q⟩
end
end Fy

set_option maxHeartbeats 4000000
/-! sorted(it, key=lambda x: e) -/
namespace Fy
open PySem PySem.Spec PyProof.Rows L2 SrtO LamX
variable [LamT]
/-- what may be gathered -/
def CollV (K : PySem.W.Frag) (H : Hp) (l : Addr) (xs : List V) : Prop := SqL K H l xs ∨ SqT K H l xs ∨ ∃ lo hi : Int, H l = some (.rng lo hi) ∧ xs = rgV lo hi ∧ -1000000 ≤ lo ∧ lo ≤ 1000000 ∧ -1000000 ≤ hi ∧ hi ≤ 1000000
theorem CollV.ext {K : PySem.W.Frag} {H H2 : Hp} {l : Addr} {xs : List V} (c : CollV K H l xs) (e : ExtN H H2) : CollV K H2 l xs := by
  rcases c with ((c | ⟨o, c⟩) | c) | ((c | ⟨o, c⟩) | c) | ⟨lo, hi, c, r⟩
  · exact .inl (.inl (.inl (e _ _ c fun _ z => by cases z)))
  · exact .inl (.inl (.inr ⟨o, e _ _ c fun _ z => by cases z⟩))
  · exact .inl (.inr c)
  · exact .inr (.inl (.inl (.inl (e _ _ c fun _ z => by cases z))))
  · exact .inr (.inl (.inl (.inr ⟨o, e _ _ c fun _ z => by cases z⟩)))
  · exact .inr (.inl (.inr c))
  · exact .inr (.inr ⟨lo, hi, e _ _ c (fun _ z => by cases z), r⟩)
section
variable {X : Cx} {pins : List (Addr × Obj)} {z : L2.St} {H : Hp} {s : Shared}
theorem coll_any {l : Addr} {xs : List V} {A : Around} {E : Value → Shared → Prop} (J : Inv X pins z H s) (hh : A.handled = none) (c : CollV X.K H l xs) (hz : xs.length ≤ sizeLine) :
    wpAny (model X.prog X.w) A (collect (.ref l)) (fun vs s' => ∃ h' tk, s' = { s with heap := h', toks := tk } ∧ (∀ b o, s.heap.get? b = some o → h'.get? b = some o) ∧ Vals xs vs) E s := by
  have keep : ∀ (vs : List Value) b o, s.heap.get? b = some o → ((s.heap.push (seqObj "list" #[] 0)).update s.heap.objs.size (Obj.mapSeq (· ++ vs.toArray))).get? b = some o := fun vs b o q => by
    have hlt : b < s.heap.objs.size := Heap.lt_size q
    rw [Heap.get?_update_ne _ _ _ _ (Nat.ne_of_lt hlt), Heap.get?_push_ne _ _ _ (Nat.ne_of_lt hlt)]
    exact q
  rcases c with c | c | ⟨lo, hi, c, rfl, b1, b2, b3, b4⟩
  · obtain ⟨its, rv, il, hz2⟩ := J.list c
    refine collect_list il.isList ?_ (by rw [← rv.length]; exact hz)
    exact ⟨_, s.toks, rfl, keep _, rv⟩
  · obtain ⟨its, rv, ⟨o, ho, hc, n, hd⟩, hz2⟩ := J.tuple c
    refine coll_tup ho hc hd (by rw [← rv.length]; exact hz) ?_
    exact ⟨_, s.toks, rfl, keep _, rv⟩
  · obtain ⟨t, u, v, hr⟩ := J.hok l _ c
    refine collect_range (n := (hi - lo).toNat) (a := lo) (b := hi) (c := 1) (t := t) (u := u) (v := v) hh hr (small_one (by omega) (by omega) (by omega) (by omega)) (rangeSize_nat lo hi) (by omega) fun h' tk acc hk hi2 => ?_
    exact ⟨h', tk, rfl, hk, vals_rg hi2⟩
/-- the keys, one by one -/
def keysT (tb : TE) (i : Nat) (σ : L2.St) (c2 : Addr) (q : Str) : List V → List V → Hp → (List V → Hp → Prop) → Prop
  | [], ks, H, k => k ks H
  | x :: r, ks, H, k => H c2 = some (CodeO c2 q) ∧ tb (σ.set i (some x)) H fun v H2 => keysT tb i σ c2 q r (ks ++ [v]) H2 k
def tSrk (K : PySem.W.Frag) (P : Addr) (q : Str) (i : Nat) (tIt tb : TE) : TE := fun σ H Q => tIt σ H fun x H1 => ∃ l xs, x = .ref l ∧ CollV K H1 l xs ∧ xs.length ≤ sizeLine ∧ Tb H1 P ∧
  ∀ H2 c2, ExtN H1 H2 → (∀ a, H1 a ≠ none → H2 a ≠ none) → (∀ P2, Tb H1 P2 → Tb H2 P2) → H2 c2 = some (CodeO c2 q) →
    keysT tb i σ c2 q xs [] H2 fun ks H3 => ∃ rows d, KeysV H3 ks rows d ∧ ks.length = xs.length ∧ ∀ ys p, OutK rows xs ys → H3 p = none → Q (.ref p) (upd H3 p (.lst ys))
theorem pe_srk {itE body : Expr} {ps : Arguments} {sc : Scope} {x : Str} {i k : Nat} {co P : Addr} {tIt tb : TE} {p lpos kpos pos : Pos} (hc : X.calm = true) (hg : Gl X "sorted") (hm : X.mg "sorted" = none) (hit : PE X itE tIt) (TB : LamX.TabB X.base X.mg co P) (hcode : X.env.code = .ref co) (nm : LamT.nm P = some (lamQ X)) (lp : LamT.lp P lpos.line lpos.col = true) (hr : Room (k + 2) X.A)
    (L : LamS1 X.env.scope sc x) (hN : X.N[i]? = some x) (nd : X.N.Nodup) (hdef : defaultsOf ps X.env = ([], [])) (hbind : ∀ (q : Str) (cl : List (Str × Addr)) (pm cv ctv u : Value), bindArgs (PySem.W.kla_fn "<lambda>" q ps body sc cl pm cv ctv) ⟨[u], []⟩ = pure [(x, u)])
    (hbody : ∀ (A : Around) (outer : List Env) (s : Shared) (H : Hp) (f c2 : Addr), Room k (A.deeper (lamEnv X sc s.heap.objs.size f c2)) → PE (lamCx X A outer s H (fun _ _ _ => False) sc f c2) body tb)
    (na : starEach [itE] X.env = (false, eval itE X.env) :: starEach [] X.env) :
    PE X (.Call (.Name "sorted" p) [itE] [⟨some "key", .Lambda ps body sc lpos, kpos⟩] pos) (tSrk X.K P (lamQ X) i tIt tb) := by
  refine ⟨fun pins s σ H Q I h => ?_⟩
  refine wpAny_Call_Name_kw (ld_blt I hg hm (show bootBuiltins "sorted" = some (.builtin "sorted") by decide +kernel) ?_ (by decide) (by decide))
  refine PyProof.Rows.callWith_kw (rest := []) (kws := [⟨some "key", .Lambda ps body sc lpos, kpos⟩]) ?_ (by rw [na]; rfl) (by rw [na]; rfl)
  rw [show backTo pos (starEach [itE] X.env) = (false, eval itE X.env) :: backTo pos (starEach [] X.env) by rw [na]; rfl]
  refine Calls.spliced_cons (thn (hit.run pins s σ H _ I h) fun u s1 ⟨v1, H1, I1, r1, l, xs, ev, cv, hz, tP, h2⟩ => Calls.spliced_nil ?_)
  subst ev
  obtain rfl : u = Value.ref l := r1
  refine wpAny_evalAll_cons ?_
  show wpAny (model X.prog X.w) X.A (eval (.Lambda ps body sc lpos) X.env >>= fun v => standAt pos >>= fun _ => pure v) _ _ s1
  refine wpAny_bind (lam_mk I1 TB hcode nm lp tP hdef (L.has I1.ok) fun f c2 pm ct H2 s2 I2 e2 d2 t2 hf hfn hfr hco => wpAny_bind (wpAny_standAt (wpAny_pure (wpAny_evalAll_nil ?_))))
  have kt := h2 H2 c2 e2 d2 t2 hco
  have c2v := cv.ext e2
  show wpAny (model X.prog X.w) X.A (call (.builtin "sorted") [.ref l] [((Str.ofString "key"), .ref f)]) _ _ s2
  refine call_function_entry_kw kind_sorted plain_sorted entry_sorted (ksk_s1 _ _) ?_
  unfold Builtin.«sorted»
  refine wpAny_bind (m := checkCount "sorted" 1 1 _) (wpAny_pure ?_)
  refine wpAny_bind (wpAny_mono (coll_any (A := X.A.in1) I2 (I2.ok.hd hc) c2v hz) (fun vs s3 hq => ?_) fun _ _ e => e)
  obtain ⟨h', tk, rfl, kp, rv⟩ := hq
  refine wpAny_bind (wpAny_newList ?_ (by rw [← rv.length]; exact hz))
  have m3k : Mid X H2 s2 H2 { s2 with heap := h', toks := tk } := (Mid.start I2).kept kp
  have m3 : Mid X H2 s2 H2 { s2 with heap := h'.push (seqObj "list" vs.toArray 0), toks := tk } := (Mid.start I2).kept fun b o e => Heap.get?_push_of_some _ (kp b o e)
  have gL : (h'.push (seqObj "list" vs.toArray 0)).get? h'.objs.size = some (seqObj "list" vs.toArray 0) := Heap.get?_push_size _ rfl
  have szL : s2.heap.get? h'.objs.size = none := by
    cases q : s2.heap.get? h'.objs.size with
    | none => rfl
    | some o => exact absurd (Heap.lt_size (kp _ o q)) (Nat.lt_irrefl _)
  have nL : H2 h'.objs.size = none := by
    cases q : H2 h'.objs.size with
    | none => rfl
    | some o => exact absurd ((m3k.hok.lt q)) (Nat.lt_irrefl _)
  refine wpAny_bind (wpAny_holding (wpAny_call_entry_kw slot_list_sort ⟨_, gL, rfl⟩ entry_list_sort ?body (ksk_l1 _ _)))
  case body =>
    show wpAny (model X.prog X.w) X.A.in1.in1 (Builtin.«list.sort» ⟨[.ref h'.objs.size], [(Str.ofString "key", .ref f)]⟩) _ _ _
    rw [ksk_t1]
    refine sort_key (s := s2) (s1 := { s2 with heap := h'.push (seqObj "list" vs.toArray 0), toks := tk }) (xs := xs) (fun j ks H3 => keysT tb i σ c2 (lamQ X) (xs.drop j) ks H3 fun ks H3 => ∃ rows d, KeysV H3 ks rows d ∧ ks.length = xs.length ∧ ∀ ys p, OutK rows xs ys → H3 p = none → Q (.ref p) (upd H3 p (.lst ys))) I2 m3 szL nL gL rv (by rw [← rv.length]; exact hz) kt ?_ ?_
    · intro j v y hv hy ry ks H3 s4 m4 pk
      obtain ⟨hj, ej⟩ := List.getElem?_eq_some_iff.mp hy
      rw [List.drop_eq_getElem_cons hj, ej] at pk
      obtain ⟨pc, pk⟩ := pk
      refine codeAny_mono (lam1_call (k := k) (A := X.A.in1.in1) (E := fun _ _ _ => False) I2 L hN nd ry hf hfn hfr (hbind _ _ _ _ _ _) m4 rfl ⟨hr.hd, by have := hr.dp; show X.A.depth + 3 * (k + 1) + 5 < _; omega, by have := hr.un; show X.A.units + 1 + 1 + 16 * (k + 1) + 200 < _; omega⟩ pc (fun hr2 => hbody _ _ s4 H3 f c2 hr2) pk) fun r s5 hq => ?_
      cases r with
      | error e =>
        obtain ⟨_, _, _, _, _, _, _, _, _, _, _, _, _, _, _, _, z⟩ := hq
      | ok fl =>
        cases fl with
        | ret u => exact ⟨u, rfl, hq⟩
        | next => exact False.elim hq
        | brk => exact False.elim hq
        | cont => exact False.elim hq
    · intro ks H3 pk
      rw [List.drop_length] at pk
      obtain ⟨rows, d, kv, hl, fin⟩ := pk
      refine ⟨rows, d, kv, hl, fun ys s4 ok n4 m4 => ⟨_, rfl, ?_⟩⟩
      exact wpAny_pure ⟨_, rfl, .ref h'.objs.size, _, Mid.inv I2 m4, rfl, fin ys _ ok n4⟩
end
end Fy

set_option maxHeartbeats 2000000
/-! sorted by keys, over plain data -/
namespace Fy
open PySem PySem.Spec PyProof.Rows L2 SrtO LamX
variable [LamT]
theorem cr_range1 {X : Cx} : CallR X (.type "range") (fun vs H Q => ∃ j, vs = [V.int j] ∧ ∀ p, H p = none → Q (.ref p) (upd H p (.rng 0 j))) := by
  intro pins s σ H vs us Q I r h
  obtain ⟨j, rfl, q⟩ := h
  obtain ⟨u1, rfl, rj⟩ := vals1 r
  obtain ⟨u, rfl⟩ := rj
  refine call_range_1 ?_
  exact ⟨.ref s.heap.objs.size, upd H s.heap.objs.size (.rng 0 j), I.laid (t' := s.toks + 2) (fun b o e => Heap.get?_push_of_some _ e) (Nat.le_refl _) ⟨_, u, _, Heap.get?_push_size _ rfl⟩, rfl, q _ (I.hok.fresh (Nat.le_refl _))⟩
theorem bind1 {q : Str} {b1 : Str} {b2 : Option Expr} {b3 : Pos} {body : Expr} {sc : Scope} {cl : List (Str × Addr)} {pm cv ctv u : Value} :
    bindArgs (PySem.W.kla_fn "<lambda>" q ⟨[], [⟨b1, b2, b3⟩], none, [], [], none, []⟩ body sc cl pm cv ctv) ⟨[u], []⟩ = pure [(b1, u)] := by
  have e : (b1 == b1) = true := by simp
  have l : List.lookup b1 [(b1, u)] = some u := by simp [List.lookup]
  unfold bindArgs PySem.W.kla_fn
  simp [l, seqItems?]
  rfl
def liftC (B : BP) (K : PySem.W.Frag) (t : DSt → Sto → (List D → Sto → Prop) → Prop) : TE := fun s H Q => ∃ hs z st R, SR B ⟨K, hs⟩ st H s z ∧ StoOk ⟨K, hs⟩ st H ∧ t z st R ∧
  ∀ ds st2 H2 l xs, R ds st2 → Step ⟨K, hs⟩ st H st2 H2 → StoOk ⟨K, hs⟩ st2 H2 → CollV K H2 l xs → Reps ⟨K, hs⟩ st2 H2 xs ds → ds.length ≤ sizeLine → Q (.ref l) H2
section
variable {X : Cx} {B : BP} {C : Cl} {ES : XS}
theorem sndC_val {e : Expr} {ie : IE} (h : PE X e (liftE B X.K (wpE C ES ie))) : PE X e (liftC B X.K (wpC C ES (.val ie))) := by
  refine pe_imp h ?_
  rintro s H Q ⟨hs, z, st, R, sr, so, h, q⟩
  simp only [wpC] at h
  refine ⟨hs, z, st, _, sr, so, h, fun d st1 v H1 h1 t1 r1 so1 => ?_⟩
  unfold itemsP at h1
  split at h1
  · cases r1 with
    | tup hx rx zx => exact q _ st1 H1 _ _ h1 t1 so1 (.inr (.inl (SqT.of hx))) rx zx
  · cases r1 with
    | tix hx _ _ rx zx => exact q _ st1 H1 _ _ h1 t1 so1 (.inr (.inl (sqT_fz hx))) rx zx
  · cases r1 with
    | fl hx rx zx => exact q _ st1 H1 _ _ h1 t1 so1 (.inl hx.sq) rx zx
  · obtain ⟨ds, e, h1⟩ := h1
    cases r1
    obtain ⟨hz, xs, hx, r⟩ := so1.c _ _ e
    exact q _ st1 H1 _ _ h1 t1 so1 (.inl (SqL.of hx)) r hz
  · exact h1.elim
/-- the keys -/
theorem keys_ok {ct : CT} {el : IE} {i : Nat} {s : L2.St} {w : DSt} {c2 : Addr} {q : Str} {hs : Addr → Prop} {kf : List V → Hp → Prop} {kd : List D → Sto → Prop} : ∀ {ds : List D} {xs : List V} {ks : List V} {es : List D} {st : Sto} {H : Hp}, Reps ⟨X.K, hs⟩ st H xs ds → Reps ⟨X.K, hs⟩ st H ks es → SRep ⟨X.K, hs⟩ st H s w → (∀ P, B.T P → Tb H P) → StoOk ⟨X.K, hs⟩ st H → H c2 = some (CodeO c2 q) →
    keyL (fun s st k => wpE C (fun _ _ _ => False) el s st k) i w ds es st kd →
    (∀ es2 st2 ks2 H2, kd es2 st2 → Step ⟨X.K, hs⟩ st H st2 H2 → Reps ⟨X.K, hs⟩ st2 H2 ks2 es2 → StoOk ⟨X.K, hs⟩ st2 H2 → ks2.length = ks.length + xs.length → kf ks2 H2) →
    keysT (tLam1 B.T ct X.K C el (fun _ _ _ => False)) i s c2 q xs ks H kf
  | [], _, ks, es, st, H, .nil, rk, sr, tb, so, hc, h, fin => fin es st ks H h .refl rk so (by simp)
  | d :: ds, _, ks, es, st, H, .cons (v := x) (vs := xs) rx rxs, rk, sr, tb, so, hc, h, fin => by
    have nc : st c2 = none := by
      cases e : st c2 with
      | none => rfl
      | some o =>
        exact absurd hc ((so.c c2 o e).kind.2.2.2 _)
    refine ⟨hc, hs, w.set i (some d), st, _, fun _ _ => False, sr.set i rx, tb, so, h, fun y st2 v H2 h2 t2 r2 so2 => ?_, fun _ _ _ _ _ z => z.elim⟩
    obtain ⟨hc2, _⟩ := t2.keep c2 _ hc codeO_ne nc
    refine keys_ok (rxs.mono t2) ((rk.mono t2).append (.cons r2 .nil)) (sr.mono t2) (fun P hP => t2.tab P (tb P hP)) so2 hc2 h2 fun es2 st3 ks2 H3 k3 t3 r3 so3 l3 => fin es2 st3 ks2 H3 k3 (t2.trans t3) r3 so3 ?_
    rw [l3]
    simp
    omega
theorem reps_ints1 {K : KH} {st : Sto} {H : Hp} : ∀ {ks : List V} {ns : List Int}, Reps K st H ks (ns.map D.int) → Paired (fun (v : V) (l : List Int) => ∃ n, v = .int n ∧ l = [n]) ks (ns.map fun n => [n])
  | _, [], .nil => .nil
  | _, n :: ns, .cons r t => by
    cases r
    exact .cons ⟨n, rfl, rfl⟩ (reps_ints1 t)
theorem reps_ints0 {K : KH} {st : Sto} {H : Hp} : ∀ {ks : List V} {ns : List Int}, Reps K st H ks (ns.map D.int) → ks = ns.map V.int
  | _, [], .nil => rfl
  | _, n :: ns, .cons r t => by
    cases r
    rw [reps_ints0 t]
    rfl
theorem reps_rows {K : KH} {st : Sto} {H : Hp} {d : Nat} : ∀ {ks : List V} {rows : List (List Int)}, (∀ r ∈ rows, r.length = d) → Reps K st H ks (rows.map fun r => .tup (r.map D.int)) → Paired (fun (v : V) (l : List Int) => l.length = d ∧ ∃ t, v = .ref t ∧ H t = some (.tup (l.map V.int))) ks rows
  | _, [], _, .nil => .nil
  | _, r :: rows, hl, .cons q t => by
    cases q with
    | tup hx rx zx =>
      refine .cons ⟨hl r List.mem_cons_self, _, rfl, ?_⟩ (reps_rows (fun r hr => hl r (List.mem_cons_of_mem _ hr)) t)
      rw [← reps_ints0 rx]
      exact hx
theorem keysV_of {K : KH} {st : Sto} {H : Hp} {ks : List V} {es : List D} {rows : List (List Int)} {d : Nat} (r : Reps K st H ks es) (k : KeysD es rows d) : KeysV H ks rows d := by
  rcases k with ⟨rfl, ns, rfl, rfl⟩ | ⟨hd, hl, rfl⟩
  · exact .inl ⟨rfl, reps_ints1 r⟩
  · exact .inr ⟨hd, reps_rows hl r⟩
theorem zip_reps {K : KH} {st : Sto} {H : Hp} : ∀ {rows : List (List Int)} {xs : List V} {ds : List D}, Reps K st H xs ds → Paired (fun (p : List Int × D) (q : List Int × V) => p.1 = q.1 ∧ Rep K st H q.2 p.2) (rows.zip ds) (rows.zip xs)
  | [], _, _, _ => .nil
  | _ :: _, _, _, .nil => .nil
  | _ :: rows, _, _, .cons a b => .cons ⟨rfl, a⟩ (zip_reps b)
theorem paired_reps {K : KH} {st : Sto} {H : Hp} : ∀ {ps : List (List Int × D)} {qs : List (List Int × V)}, Paired (fun (p : List Int × D) (q : List Int × V) => p.1 = q.1 ∧ Rep K st H q.2 p.2) ps qs → Reps K st H (qs.map (·.2)) (ps.map (·.2))
  | _, _, .nil => .nil
  | _, _, .cons a b => .cons a.2 (paired_reps b)
theorem out_of {K : KH} {st : Sto} {H : Hp} {rows : List (List Int)} {xs ys : List V} {ds : List D} (r : Reps K st H xs ds) (o : OutK rows xs ys) : ∃ es, OutD rows ds es ∧ Reps K st H ys es ∧ es.length ≤ ds.length := by
  obtain ⟨ps, p1, p2, rfl⟩ := o
  obtain ⟨qs, q1, q2⟩ := perm_lift p1 (zip_reps (rows := rows) r)
  refine ⟨qs.map (·.2), ⟨qs, q1, ?_, rfl⟩, paired_reps q2, ?_⟩
  · exact paired_pw (fun a b c e ra rc t => by rw [ra.1, rc.1]; exact t) q2 p2
  · rw [List.length_map, q1.length_eq, List.length_zip]
    omega
theorem srk_ok {ct : CT} {z : Bool} {i : Nat} {it : II} {el : IE} {P : Addr} {q : Str} (hP : B.T P) : ∀ s H Q, liftE B X.K (wpE C ES (.srk z i it el)) s H Q → tSrk X.K P q i (liftC B X.K (wpC C ES it)) (tLam1 B.T ct X.K C el (fun _ _ _ => False)) s H Q := by
  rintro s H Q ⟨hs, w, st, R, sr, so, h, qq⟩
  simp only [wpE] at h
  refine ⟨hs, w, st, _, sr, so, h, fun ds st1 H1 l xs h1 t1 so1 cv rx hz => ⟨l, xs, rfl, cv, by rw [rx.length]; exact hz, t1.tab P (B.tab sr.b P hP), fun H2 c2 e2 d2 t2 hco => ?_⟩⟩
  have tt := Step.ext (K := ⟨X.K, hs⟩) (st := st1) e2 t2
  have sr2 := (sr.mono t1).mono tt
  refine keys_ok (B := B) (rx.mono tt) .nil sr2.r (fun P2 hP2 => t2 P2 (B.tab (sr.mono t1).b P2 hP2)) (so1.ext e2 d2 t2) hco h1 fun es2 st3 ks2 H3 k3 t3 r3 so3 l3 => ?_
  obtain ⟨rows, d, kd, fin⟩ := k3
  refine ⟨rows, d, keysV_of r3 kd, by rw [l3]; simp, fun ys p ok hp => ?_⟩
  obtain ⟨es, o2, ry, lz⟩ := out_of (rx.mono (tt.trans t3)) ok
  have h5 := fin es o2
  have hz2 : es.length ≤ sizeLine := Nat.le_trans lz hz
  cases z with
  | true => exact qq (.fl es) st3 (.ref p) _ h5 (((t1.trans tt).trans t3).trans (.new hp)) (.fl ⟨upd_same, so3.free hp, so3.nohs hp⟩ (ry.mono (.new hp)) hz2) (so3.new hp)
  | false => exact qq (.ref p) _ (.ref p) _ (h5 p (so3.free hp)) (((t1.trans tt).trans t3).trans (.newPut hp)) (.ref p) (so3.newLst hp ry hz2)
end
end Fy

/-! sorted of tuples of ints -/
namespace Fy
open PySem PySem.Spec PyProof.Rows L2 SrtO
variable [LamT]
def intV : V → Int
  | .int i => i
  | _ => 0
def tpK (H : Hp) (x : V) : List Int := match x with
  | .ref t => (match H t with
    | some (.tup vs) => vs.map intV
    | _ => [])
  | _ => []
theorem tpK_is {H : Hp} {t : Addr} {ns : List Int} (h : H t = some (.tup (ns.map V.int))) : tpK H (.ref t) = ns := by
  unfold tpK
  simp only [h]
  rw [List.map_map]
  exact List.map_id'' (fun _ => rfl) ns
def rSrtN (K : PySem.W.Frag) : List V → Hp → VK → Prop := fun vs H Q => ∃ (a : Addr) (xs : List V) (d : Nat), vs = [V.ref a] ∧ (SqL K H a xs ∨ SqT K H a xs) ∧ (2 ≤ xs.length → 1 ≤ d) ∧ (∀ x ∈ xs, ∃ t, x = V.ref t ∧ H t = some (.tup ((tpK H x).map V.int)) ∧ (tpK H x).length = d) ∧
  ∀ ys p, ys.Perm xs → ys.Pairwise (fun a b => lexN (tpK H b) (tpK H a) = false) → H p = none → Q (.ref p) (upd H p (.lst ys))
section
variable {X : Cx}
theorem cr_srtN : CallR X (.builtin "sorted") (rSrtN X.K) := by
  intro pins s σ H vs us Q I r h
  obtain ⟨a, xs, d, rfl, hs, h2d, hx, q⟩ := h
  obtain ⟨its, rv, hl, hz⟩ : ∃ its : List Value, Vals xs its ∧ ((s.heap.IsList a its.toArray) ∨ IsTup s.heap a its.toArray) ∧ xs.length ≤ sizeLine := by
    rcases hs with hs | hs
    · obtain ⟨its, rv, hl, hz⟩ := I.list hs
      exact ⟨its, rv, .inl hl.isList, hz⟩
    · obtain ⟨its, rv, hl, hz⟩ := I.tuple hs
      exact ⟨its, rv, .inr hl, hz⟩
  obtain ⟨u, rfl, ru⟩ := vals1 r
  obtain rfl : u = Value.ref a := ru
  obtain ⟨e1, e2⟩ := refs_back rv fun x m => by
    obtain ⟨t, e, _⟩ := hx x m
    exact ⟨t, e⟩
  have hp : ∀ v ∈ its, IsTupI s.heap v (tpK H (backV v)) ∧ (tpK H (backV v)).length = d := fun v hv => by
    obtain ⟨t, rfl⟩ := e2 v hv
    have hm : V.ref t ∈ xs := by rw [e1]; exact List.mem_map.mpr ⟨_, hv, rfl⟩
    obtain ⟨t', e, ht, hd⟩ := hx _ hm
    cases e
    obtain ⟨_, its2, r2, o, ho, hc, n, hdt⟩ := I.hok _ _ ht
    exact ⟨⟨t, o, its2, n, rfl, ho, hc, hdt, ints_of_vals r2⟩, hd⟩
  have S1 : 2 ≤ its.length → ∀ (h₁ : Heap) (a : Addr), h₁.get? a = some (seqObj "list" its.toArray 0) → (∀ b o, s.heap.get? b = some o → b ≠ a ∧ h₁.get? b = some o) → SortableO X.prog X.w X.A.in1.in1 { s with heap := h₁ } a its (ltK (fun v => tpK H (backV v)) d) := by
    intro h2 h₁ a' ha kk h' keep
    have hp2 : ∀ v ∈ its, IsTupI h' v (tpK H (backV v)) ∧ (tpK H (backV v)).length = d := fun v hv => by
      obtain ⟨i, hd⟩ := hp v hv
      refine ⟨(i.keeps fun b o e _ => (kk b o e).2).keeps fun b o e c => keep b o (fun z => ?_) e, hd⟩
      subst z
      have e' : some o = some (seqObj "list" its.toArray 0) := e.symm.trans ha
      cases e'
      exact absurd (Value.type.inj c) (by decide)
    exact keys_sort (s := { s with heap := h' }) (.inr ⟨h2d (by rw [rv.length]; exact h2), hp2⟩) h2
  have S2 : ∀ out : List Value, Srtd (ltK (fun v => tpK H (backV v)) d) out → Stb (ltK (fun v => tpK H (backV v)) d) out its → EP X pins σ Q (.ref (s.heap.objs.size + 1)) { s with heap := sortedAll s.heap its out.toArray } := by
    intro out h1 h2
    have h3 : ∀ u ∈ out, ∃ a, u = Value.ref a := fun u hu => e2 u (h2.perm.mem_iff.mp hu)
    obtain ⟨n, hn⟩ := sortedAll_at s.heap its out.toArray
    have pm : (out.map backV).Perm xs := by rw [e1]; exact h2.perm.map _
    have ln : ∀ u ∈ out, (tpK H (backV u)).length = d := fun u hu => (hp u (h2.perm.mem_iff.mp hu)).2
    have hd : s.heap.objs.size ≤ s.heap.objs.size + 1 := Nat.le_succ _
    refine ⟨.ref (s.heap.objs.size + 1), upd H (s.heap.objs.size + 1) (.lst (out.map backV)), I.laid (t' := s.toks) (fun b o e => sortedAll_old e) hd ⟨?_, out, n, vals_back h3, hn⟩, rfl, q _ _ pm ?_ (I.hok.fresh hd)⟩
    · rw [pm.length_eq]
      exact hz
    · rw [List.pairwise_map]
      refine List.Pairwise.imp_of_mem ?_ h1
      intro x y hx hy hh
      have hh : lexN (cutK d (tpK H (backV y))) (cutK d (tpK H (backV x))) = false := hh
      rw [cutK_eq (ln x hx), cutK_eq (ln y hy)] at hh
      exact hh
  rcases hl with hl | ⟨o, ho, hc, n, hd⟩
  · exact SrtO.sorted_ord (swoN d fun v => tpK H (backV v)) hl (by rw [← rv.length]; exact hz) S1 S2
  · exact sorted_tup (swoN d fun v => tpK H (backV v)) ho hc hd (by rw [← rv.length]; exact hz) S1 S2
end
section
variable {K : KH} {st : Sto} {H : Hp}
theorem Reps.intsE : ∀ {ns : List Int} {xs : List V}, Reps K st H xs (ns.map D.int) → xs = ns.map V.int
  | [], _, .nil => rfl
  | n :: ns, _, .cons r t => by
    cases r
    rw [List.map_cons, Reps.intsE t]
theorem reps_rowsN : ∀ {xs : List V} {rows : List (List Int)}, Reps K st H xs (rows.map rowD) → xs.map (tpK H) = rows ∧ ∀ x ∈ xs, ∃ t, x = .ref t ∧ H t = some (.tup ((tpK H x).map V.int)) ∧ (tpK H x).length ≤ sizeLine
  | _, [], .nil => ⟨rfl, fun _ z => by cases z⟩
  | _, r :: rows, .cons q t => by
    obtain ⟨h1, h2⟩ := reps_rowsN t
    unfold rowD at q
    cases q with
    | tup hq rr hz =>
      obtain rfl := Reps.intsE rr
      have e := tpK_is hq
      refine ⟨by rw [List.map_cons, e, h1], fun x hx => ?_⟩
      rcases List.mem_cons.mp hx with rfl | hx
      · refine ⟨_, rfl, by rw [e]; exact hq, by rw [e]; simpa using hz⟩
      · exact h2 x hx
theorem rows_repsN : ∀ {ys : List V}, (∀ y ∈ ys, ∃ t, y = .ref t ∧ H t = some (.tup ((tpK H y).map V.int)) ∧ (tpK H y).length ≤ sizeLine) → Reps K st H ys ((ys.map (tpK H)).map rowD)
  | [], _ => .nil
  | y :: ys, h => by
    obtain ⟨t, e, ht, hz⟩ := h y List.mem_cons_self
    refine .cons ?_ (rows_repsN fun z hz => h z (List.mem_cons_of_mem _ hz))
    subst e
    exact .tup ht (Reps.ints _) (by rw [List.length_map]; exact hz)
end
end Fy

set_option maxHeartbeats 4000000
/-! max, min with a key -/
namespace Fy
open PySem PySem.Spec PyProof.Rows L2 SrtO LamX
variable [LamT]
/-- a key: an int, or a tuple of d ints -/
def KeyV (H : Hp) (d : Option Nat) (v : V) (r : List Int) : Prop := match d with
  | none => ∃ n, v = .int n ∧ r = [n]
  | some d => r.length = d ∧ ∃ t, v = .ref t ∧ H t = some (.tup (r.map V.int))
theorem KeyV.on {fs ex : List Addr} {H H' : Hp} {h h' : Heap} {d : Option Nat} {v : V} {r : List Int} (k : KeyV H d v r) (u : Un fs ex H H' h h') : KeyV H' d v r := by
  cases d with
  | none => exact k
  | some d =>
    obtain ⟨h1, t, h2, h3⟩ := k
    exact ⟨h1, t, h2, u.tups _ _ h3⟩
theorem lexAt_gt {ns ms : List Int} : ∀ (k i : Nat), i + k = ns.length → ns.length = ms.length → Ob.lexAt (fun j => decide (ns.getD j 0 = ms.getD j 0)) (fun j => decide (ms.getD j 0 < ns.getD j 0)) false i k = lexN (ms.drop i) (ns.drop i)
  | 0, i, h, e => by
    rw [List.drop_of_length_le (by omega), List.drop_of_length_le (by omega)]
    rfl
  | k + 1, i, h, e => by
    have h1 : i < ns.length := by omega
    have h2 : i < ms.length := by omega
    rw [Ob.lexAt_succ, lexAt_gt k (i + 1) (by omega) e, List.drop_eq_getElem_cons h1, List.drop_eq_getElem_cons h2]
    simp only [lexN, List.getD_eq_getElem?_getD, List.getElem?_eq_getElem h1, List.getElem?_eq_getElem h2, Option.getD_some, decide_eq_true_eq]
    by_cases c : ns[i] = ms[i]
    · rw [if_pos c, if_pos c.symm]
    · rw [if_neg c, if_neg (fun z => c z.symm)]
theorem lexAt_lt {ns ms : List Int} : ∀ (k i : Nat), i + k = ns.length → ns.length = ms.length → Ob.lexAt (fun j => decide (ns.getD j 0 = ms.getD j 0)) (fun j => decide (ns.getD j 0 < ms.getD j 0)) false i k = lexN (ns.drop i) (ms.drop i)
  | 0, i, h, e => by
    rw [List.drop_of_length_le (by omega), List.drop_of_length_le (by omega)]
    rfl
  | k + 1, i, h, e => by
    have h1 : i < ns.length := by omega
    have h2 : i < ms.length := by omega
    rw [Ob.lexAt_succ, lexAt_lt k (i + 1) (by omega) e, List.drop_eq_getElem_cons h1, List.drop_eq_getElem_cons h2]
    simp only [lexN, List.getD_eq_getElem?_getD, List.getElem?_eq_getElem h1, List.getElem?_eq_getElem h2, Option.getD_some, decide_eq_true_eq]
theorem cmp_max {A : Around} {P : Program} {w : World} {H : Hp} {s : Shared} {d : Option Nat} {v vb : V} {u ub : Value} {r rb : List Int} (hok : HOk P w H s.heap) (hu : A.units < cLine) (k : KeyV H d v r) (kb : KeyV H d vb rb) (ru : RelV v u) (rub : RelV vb ub) : Ob.RcOp .Gt A s u ub (better true r rb) := by
  cases d with
  | none =>
    obtain ⟨n, rfl, rfl⟩ := k
    obtain ⟨m, rfl, rfl⟩ := kb
    obtain ⟨t, rfl⟩ := ru
    obtain ⟨t2, rfl⟩ := rub
    have e : better true [n] [m] = decide (m < n) := by
      simp only [better, lexN, if_true, Bool.false_eq_true, if_false]
      by_cases c : n = m
      · subst c; simp
      · first | rw [if_neg c] | rw [if_neg (fun z => c z.symm)]
    rw [e]
    exact Ob.RcOp.gt_int _ _ _ _
  | some d =>
    obtain ⟨l1, t1, rfl, h1⟩ := k
    obtain ⟨l2, t2, rfl, h2⟩ := kb
    obtain rfl : u = Value.ref t1 := ru
    obtain rfl : ub = Value.ref t2 := rub
    obtain ⟨_, its, r1, p1⟩ := hok _ _ h1
    obtain ⟨_, its2, r2, p2⟩ := hok _ _ h2
    have i1 : IntsAre its r := Vals.ints r1
    have i2 : IntsAre its2 rb := Vals.ints r2
    have e1 : its.toArray.size = r.length := by rw [List.size_toArray]; exact i1.length
    have e2 : its2.toArray.size = rb.length := by rw [List.size_toArray]; exact i2.length
    have at1 : ∀ j (h1 : j < its.toArray.size), ∃ t, its.toArray[j] = .int (r.getD j 0) t := fun j h1 => PyProof.Rows.IntsAre.int_at i1 _ _ (by simp at h1; simp [h1])
    have at2 : ∀ j (h1 : j < its2.toArray.size), ∃ t, its2.toArray[j] = .int (rb.getD j 0) t := fun j h1 => PyProof.Rows.IntsAre.int_at i2 _ _ (by simp at h1; simp [h1])
    have R := Ob.RcOp.tuples_gt (A := A) (s := s) (e := fun j => decide (r.getD j 0 = rb.getD j 0)) (r := fun j => decide (rb.getD j 0 < r.getD j 0)) p1 p2 hu (fun j h1 h2 => by
      obtain ⟨t, et⟩ := at1 j h1
      obtain ⟨t', et'⟩ := at2 j h2
      rw [et, et']
      have z : (r.getD j 0 == rb.getD j 0) = decide (r.getD j 0 = rb.getD j 0) := by
        by_cases q : r.getD j 0 = rb.getD j 0
        · rw [decide_eq_true q]; exact beq_iff_eq.mpr q
        · rw [decide_eq_false q]; exact beq_eq_false_iff_ne.mpr q
      rw [← z]
      exact SeqAt.EqAt.int_int _ _ _ _) (fun j h1 h2 _ => by
      obtain ⟨t, et⟩ := at1 j h1
      obtain ⟨t', et'⟩ := at2 j h2
      rw [et, et']
      exact Ob.RcOp.gt_int _ _ _ _)
    rw [e1, e2, l1, l2] at R
    have e3 : decide (d > d) = false := by simp
    rw [e3, Nat.min_self, lexAt_gt d 0 (by omega) (by omega), List.drop_zero, List.drop_zero] at R
    exact R
theorem cmp_min {A : Around} {P : Program} {w : World} {H : Hp} {s : Shared} {d : Option Nat} {v vb : V} {u ub : Value} {r rb : List Int} (hok : HOk P w H s.heap) (hu : A.units < cLine) (k : KeyV H d v r) (kb : KeyV H d vb rb) (ru : RelV v u) (rub : RelV vb ub) : Ob.RcOp .Lt A s u ub (better false r rb) := by
  cases d with
  | none =>
    obtain ⟨n, rfl, rfl⟩ := k
    obtain ⟨m, rfl, rfl⟩ := kb
    obtain ⟨t, rfl⟩ := ru
    obtain ⟨t2, rfl⟩ := rub
    have e : better false [n] [m] = decide (n < m) := by
      simp only [better, lexN, if_true, Bool.false_eq_true, if_false]
      by_cases c : n = m
      · subst c; simp
      · first | rw [if_neg c] | rw [if_neg (fun z => c z.symm)]
    rw [e]
    exact Ob.RcOp.lt_int _ _ _ _
  | some d =>
    obtain ⟨l1, t1, rfl, h1⟩ := k
    obtain ⟨l2, t2, rfl, h2⟩ := kb
    obtain rfl : u = Value.ref t1 := ru
    obtain rfl : ub = Value.ref t2 := rub
    obtain ⟨_, its, r1, p1⟩ := hok _ _ h1
    obtain ⟨_, its2, r2, p2⟩ := hok _ _ h2
    have i1 : IntsAre its r := Vals.ints r1
    have i2 : IntsAre its2 rb := Vals.ints r2
    have e1 : its.toArray.size = r.length := by rw [List.size_toArray]; exact i1.length
    have e2 : its2.toArray.size = rb.length := by rw [List.size_toArray]; exact i2.length
    have at1 : ∀ j (h1 : j < its.toArray.size), ∃ t, its.toArray[j] = .int (r.getD j 0) t := fun j h1 => PyProof.Rows.IntsAre.int_at i1 _ _ (by simp at h1; simp [h1])
    have at2 : ∀ j (h1 : j < its2.toArray.size), ∃ t, its2.toArray[j] = .int (rb.getD j 0) t := fun j h1 => PyProof.Rows.IntsAre.int_at i2 _ _ (by simp at h1; simp [h1])
    have R := Ob.RcOp.tuples_lt (A := A) (s := s) (e := fun j => decide (r.getD j 0 = rb.getD j 0)) (r := fun j => decide (r.getD j 0 < rb.getD j 0)) p1 p2 hu (fun j h1 h2 => by
      obtain ⟨t, et⟩ := at1 j h1
      obtain ⟨t', et'⟩ := at2 j h2
      rw [et, et']
      have z : (r.getD j 0 == rb.getD j 0) = decide (r.getD j 0 = rb.getD j 0) := by
        by_cases q : r.getD j 0 = rb.getD j 0
        · rw [decide_eq_true q]; exact beq_iff_eq.mpr q
        · rw [decide_eq_false q]; exact beq_eq_false_iff_ne.mpr q
      rw [← z]
      exact SeqAt.EqAt.int_int _ _ _ _) (fun j h1 h2 _ => by
      obtain ⟨t, et⟩ := at1 j h1
      obtain ⟨t', et'⟩ := at2 j h2
      rw [et, et']
      exact Ob.RcOp.lt_int _ _ _ _)
    rw [e1, e2, l1, l2] at R
    have e3 : decide (d < d) = false := by simp
    rw [e3, Nat.min_self, lexAt_lt d 0 (by omega) (by omega), List.drop_zero, List.drop_zero] at R
    exact R
/-- the keys, one by one; the best so far -/
def mnkT (K : PySem.W.Frag) (mx : Bool) (d : Option Nat) (l : Addr) (TT : V → Hp → VK → Prop) : Nat → Nat → V → List Int → Hp → VK → Prop
  | 0, j, xb, _, H, k => (∃ xs, SqL K H l xs ∧ xs.length = j) ∧ k xb H
  | n + 1, j, xb, rb, H, k => ∃ xs x, SqL K H l xs ∧ xs[j]? = some x ∧ TT x H fun v H2 => ∃ r2, KeyV H2 d v r2 ∧ if better mx r2 rb = true then mnkT K mx d l TT n (j + 1) x r2 H2 k else mnkT K mx d l TT n (j + 1) xb rb H2 k
section
variable {X : Cx} {pins : List (Addr × Obj)} {z : L2.St} {H : Hp} {s : Shared}
theorem loop_max {l I S q : Addr} {d : Option Nat} {TT : V → Hp → VK → Prop} {k : VK} {R : Result → Shared → Prop} (hh : X.A.handled = none) (hun : X.A.units + 65 < cLine) (J : Inv X pins z H s) (hlI : l ≠ I) (hSI : S ≠ I) (hI : s.heap.get? I = none) (hS : s.heap.get? S = none)
    (turn : ∀ (v : Value) (x : V), RelV x v → ∀ (H3 : Hp) (s3 : Shared) (Kt : VK), Mid X H s H3 s3 → TT x H3 Kt → codeAny (model X.prog X.w) X.A.in1 (.call (.ref q) ⟨[v], []⟩) (fun r s4 => ∃ u, r = .ok (.ret u) ∧ CE X.stack X.prog X.w H3 s3 Kt u s4) s3)
    (hR : ∀ (v : Value) (x : V) (H3 : Hp) (s4 : Shared), RelV x v → k x H3 → Mid X H s H3 s4 → R (.ok (.ret v)) s4) :
    ∀ (n j : Nat) (xb kb : V) (rb : List Int) (H3 : Hp) (s3 : Shared) (vb ub : Value) (c : Nat), Mid X H s H3 s3 → H3 I = none → H3 S = none → s3.heap.get? S = some (seqObj "list" #[vb, ub] c) → s3.heap.IsListIter I l j → RelV xb vb → RelV kb ub → KeyV H3 d kb rb →
      mnkT X.K true d l TT n j xb rb H3 k → codeAny (model X.prog X.w) X.A (.builtin "max.loop" ⟨[.ref I, .ref q, .ref S], []⟩) R s3 := by
  have hname : (toString "max" ++ toString ".loop" : String) = "max.loop" := by decide
  have frI : I ∉ frs X.stack := inv_nofr J hI
  have frS : S ∉ frs X.stack := inv_nofr J hS
  intro n
  induction n with
  | zero =>
    intro j xb kb rb H3 s3 vb ub c m nI nS gS hit rxb rkb kk hm
    obtain ⟨⟨xs, hq, hlen⟩, hk⟩ := hm
    have I3 := Mid.inv J m
    obtain ⟨its, rv, pl, hz⟩ := I3.list hq
    have hin : j = its.toArray.size := by
      have := rv.length
      rw [List.size_toArray]
      omega
    have W := Walks.list (prog := X.prog) (w := X.w) (A := X.A.in1) hh I l hlI its.toArray
    refine codeAny_builtin PySem.F.entry_max_loop ?_
    rw [Around.under_plainId PySem.F.plain_max_loop _]
    show wpAny _ X.A.in1 (seqItems? (.ref S) >>= _) _ _ _
    refine wpAny_bind (wpAny_seqItems gS rfl ?_)
    show wpAny _ X.A.in1 (tryCatch (pyNext (.ref I)) _ >>= _) _ _ _
    refine wpAny_bind (wpAny_tryCatch (W.done _ _ _ ⟨by rw [← hin]; exact hit, pl.isList⟩ fun h' tk' hk' => ?_))
    have m1 : Mid X H s H3 { s3 with heap := h', toks := tk' } := m.own hI nI fun b o hb e => hk' b o (by simpa using hb) e
    have hS' := hk' S _ (by simpa using hSI) gS
    have s1 := Heap.SameBut.update h' S (Obj.mapSeq fun _ => (#[] : Array Value))
    show wpAny _ X.A.in1 (updateSeq S (fun _ => #[]) >>= _) _ _ _
    refine wpAny_bind ?_
    refine wpAny_updateSeq hS' rfl (wpAny_bind (wpAny_letGo (wpAny_pure ?_)))
    exact hR vb xb H3 _ rxb hk (m1.own (tk := tk') hS nS fun b o hb e => (s1.2 b hb).trans e)
  | succ n ih =>
    intro j xb kb rb H3 s3 vb ub c m nI nS gS hit rxb rkb kk hm
    obtain ⟨xs, x, hq, hjx, hm⟩ := hm
    have I3 := Mid.inv J m
    obtain ⟨its, rv, pl, hz⟩ := I3.list hq
    have hlt : j < xs.length := (List.getElem?_eq_some_iff.mp hjx).1
    have W := Walks.list (prog := X.prog) (w := X.w) (A := X.A.in1) hh I l hlI its.toArray
    refine codeAny_builtin PySem.F.entry_max_loop ?_
    rw [Around.under_plainId PySem.F.plain_max_loop _]
    show wpAny _ X.A.in1 (seqItems? (.ref S) >>= _) _ _ _
    refine wpAny_bind (wpAny_seqItems gS rfl ?_)
    show wpAny _ X.A.in1 (tryCatch (pyNext (.ref I)) _ >>= _) _ _ _
    refine wpAny_bind (wpAny_tryCatch (W.item j _ _ _ (by rw [List.size_toArray, ← rv.length]; exact hlt) ⟨hit, pl.isList⟩ fun v h' tk' hP hst' hk' => ?_))
    obtain ⟨v2, hv2, rxv⟩ := rv.get hjx
    have hv : its[j]? = some v := by simpa using hP
    rw [hv] at hv2
    cases hv2
    obtain ⟨oI', hoI', hoc, hod⟩ := id hst'.1
    have m1 : Mid X H s H3 { s3 with heap := h', toks := tk' } := m.own hI nI fun b o hb e => hk' b o (by simpa using hb) e
    have gS1 := hk' S _ (by simpa using hSI) gS
    show wpAny _ X.A.in1 (tryCatch (holding [v] (call (.ref q) [v])) _ >>= _) _ _ _
    refine wpAny_bind (wpAny_tryCatch (wpAny_holding (wpAny_call (codeAny_mono (turn v x rxv H3 _ _ m1 hm) fun r s4 hq => ?_))))
    obtain ⟨u, rfl, ce⟩ := hq
    obtain ⟨kv, H4, m4, un4, rk, r2, k2, hm4⟩ := m1.after ce
    have gS4 := un4.keep S _ gS1 nS frS (by simp)
    have gI4 := un4.keep I _ hoI' nI frI (by simp)
    have nS4 := un4.free S _ gS1 nS (by simp)
    have nI4 := un4.free I _ hoI' nI (by simp)
    have kk4 := kk.on un4
    have hit4 : s4.heap.IsListIter I l (j + 1) := ⟨oI', gI4, hoc, hod⟩
    show wpAny _ X.A.in1 (tryCatch (holding [v, u] (richCompare .Gt u ub >>= _)) _ >>= _) _ _ _
    refine wpAny_bind (wpAny_tryCatch (wpAny_holding (wpAny_bind (cmp_max (A := X.A.in1) m4.hok (by show X.A.units + 1 < cLine; omega) k2 kk4 rk rkb _ _ _ _ ?_))))
    refine wpAny_bind (wpAny_holding (wpAny_truthy_bool ?_))
    refine wpAny_bind (wpAny_letGo (wpAny_pure ?_))
    by_cases hb' : better true r2 rb = true
    · have s1 := Heap.SameBut.update s4.heap S (Obj.mapSeq fun _ => #[v, u])
      obtain ⟨c2, hc2⟩ : ∃ c2, (s4.heap.update S (Obj.mapSeq fun _ => #[v, u])).get? S = some (seqObj "list" #[v, u] c2) := ⟨_, get?_update_seq gS4 fun _ => #[v, u]⟩
      rw [if_pos hb'] at hm4
      simp only [hb', if_true]
      refine wpAny_bind ?_
      refine wpAny_updateSeq gS4 rfl (wpAny_bind (wpAny_letGo ?_))
      rw [hname]
      exact wpAny_pure ⟨plainId_quiet PySem.F.plain_max_loop _, ih (j + 1) x kv r2 H4 _ v u c2 (m4.own (tk := s4.toks) hS nS4 fun b o hb e => (s1.2 b hb).trans e) nI4 nS4 hc2 ⟨oI', (s1.2 I hSI.symm).trans gI4, hoc, hod⟩ rxv rk k2 hm4⟩
    · rw [if_neg hb'] at hm4
      have hb2 : better true r2 rb = false := by simpa using hb'
      simp only [hb2, Bool.false_eq_true, if_false]
      refine wpAny_bind (wpAny_letGo ?_)
      rw [hname]
      exact wpAny_pure ⟨plainId_quiet PySem.F.plain_max_loop _, ih (j + 1) xb kb rb H4 _ vb ub c m4 nI4 nS4 gS4 hit4 rxb rkb kk4 hm4⟩
theorem call_maxk {l q : Addr} {xs : List V} {d : Option Nat} {TT : V → Hp → VK → Prop} {k : VK} {x : V} {n : Nat} {Q : Value → Shared → Prop} {E : Value → Shared → Prop} (hh : X.A.handled = none) (hun : X.A.units + 65 < cLine) (J : Inv X pins z H s)
    (turn : ∀ (v : Value) (x : V), RelV x v → ∀ (H3 : Hp) (s3 : Shared) (Kt : VK), Mid X H s H3 s3 → TT x H3 Kt → codeAny (model X.prog X.w) X.A.in1 (.call (.ref q) ⟨[v], []⟩) (fun r s4 => ∃ u, r = .ok (.ret u) ∧ CE X.stack X.prog X.w H3 s3 Kt u s4) s3)
    (hR : ∀ (v : Value) (x : V) (H3 : Hp) (s4 : Shared), RelV x v → k x H3 → Mid X H s H3 s4 → Q v s4) (ex : xs[0]? = some x) (hq : SqL X.K H l xs)
    (h : TT x H fun v H2 => ∃ r2, KeyV H2 d v r2 ∧ mnkT X.K true d l TT n 1 x r2 H2 k) :
    wpAny (model X.prog X.w) X.A (call (.builtin "max") [.ref l] [(Str.ofString "key", .ref q)]) Q E s := by
  have hname : (toString "max" ++ toString ".loop" : String) = "max.loop" := by decide
  obtain ⟨its, rv, pl, hz⟩ := J.list hq
  have hls := pl.isList
  obtain ⟨ol, hol, _⟩ := id hls
  have hll : l < s.heap.objs.size := Heap.lt_size hol
  refine kmk_tree PySem.F.kind_max PySem.F.plain_max PySem.F.entry_max (kmk_max_key _ _) ?_
  show wpAny _ X.A.in1 (Builtin.Builtins.bindParams "max" ["key", "default"] 0 ⟨[], [(Str.ofString "key", .ref q)]⟩ >>= _) _ _ s
  refine wpAny_bind (wpAny_of_eq (show Builtin.Builtins.bindParams "max" ["key", "default"] 0 ⟨[], [(Str.ofString "key", .ref q)]⟩ = pure [some (.ref q), none] from rfl) ?_)
  refine wpAny_bind (wpAny_pure ?_)
  refine wpAny_bind (wpAny_pyIter_list hls ?_)
  refine wpAny_bind (wpAny_newList ?_ (Nat.zero_le _))
  rw [hname]
  have hS : (s.heap.push { cls := .type "list_iterator", data := .fields #[.ref l, .int 0 0] }).objs.size = s.heap.objs.size + 1 := size_push' ..
  have hlI : l ≠ s.heap.objs.size := Nat.ne_of_lt hll
  obtain ⟨S, eS⟩ : ∃ S, S = (s.heap.push { cls := .type "list_iterator", data := .fields #[.ref l, .int 0 0] }).objs.size := ⟨_, rfl⟩
  have hSI : S ≠ s.heap.objs.size := by rw [eS, hS]; exact Nat.ne_of_gt (Nat.lt_succ_self _)
  have zI : s.heap.get? s.heap.objs.size = none := Heap.get?_none_of_le (Nat.le_refl _)
  have zS : s.heap.get? S = none := Heap.get?_none_of_le (by rw [eS, hS]; exact Nat.le_succ _)
  have nI : H s.heap.objs.size = none := J.hok.fresh (Nat.le_refl _)
  have nS : H S = none := J.hok.fresh (by rw [eS, hS]; exact Nat.le_succ _)
  have frI : s.heap.objs.size ∉ frs X.stack := inv_nofr J zI
  have frS : S ∉ frs X.stack := inv_nofr J zS
  refine wpAny_pure ⟨plainId_quiet PySem.F.plain_max_loop _, ?_⟩
  rw [← eS]
  have gI : ((s.heap.push { cls := .type "list_iterator", data := .fields #[.ref l, .int 0 0] }).push (seqObj "list" #[] 0)).get? s.heap.objs.size = some { cls := .type "list_iterator", data := .fields #[.ref l, .int 0 0] } :=
    Heap.get?_push_of_some _ (Heap.get?_push_size _ rfl)
  have gS : ((s.heap.push { cls := .type "list_iterator", data := .fields #[.ref l, .int 0 0] }).push (seqObj "list" #[] 0)).get? S = some (seqObj "list" #[] 0) := by rw [eS]; exact Heap.get?_push_size _ rfl
  have gL : ((s.heap.push { cls := .type "list_iterator", data := .fields #[.ref l, .int 0 0] }).push (seqObj "list" #[] 0)).IsList l its.toArray := hls.at fun o e => Heap.get?_push_of_some _ (Heap.get?_push_of_some _ e)
  have m0 : Mid X H s H { s with heap := (s.heap.push { cls := .type "list_iterator", data := .fields #[.ref l, .int 0 0] }).push (seqObj "list" #[] 0) } := (Mid.start J).kept (tk := s.toks) fun c u e => Heap.get?_push_of_some _ (Heap.get?_push_of_some _ e)
  have W := Walks.list (prog := X.prog) (w := X.w) (A := X.A.in1) hh s.heap.objs.size l hlI its.toArray
  refine codeAny_builtin PySem.F.entry_max_loop ?_
  rw [Around.under_plainId PySem.F.plain_max_loop _]
  show wpAny _ X.A.in1 (seqItems? (.ref S) >>= _) _ _ _
  refine wpAny_bind (wpAny_seqItems gS rfl ?_)
  show wpAny _ X.A.in1 (tryCatch (pyNext (.ref s.heap.objs.size)) _ >>= _) _ _ _
  refine wpAny_bind (wpAny_tryCatch (W.item 0 _ _ _ (by rw [List.size_toArray, ← rv.length]; exact (List.getElem?_eq_some_iff.mp ex).1) ⟨⟨_, gI, rfl, rfl⟩, gL⟩ fun v h' tk' hP hst' hk' => ?_))
  obtain ⟨v2, hv2, rxv⟩ := rv.get ex
  have hv : its[0]? = some v := by simpa using hP
  rw [hv] at hv2
  cases hv2
  obtain ⟨oI', hoI', hoc, hod⟩ := id hst'.1
  have m1 : Mid X H s H { s with heap := h', toks := tk' } := m0.own zI nI fun b o hb e => hk' b o (by simpa using hb) e
  have gS1 := hk' S _ (by simpa using hSI) gS
  show wpAny _ X.A.in1 (tryCatch (holding [v] (call (.ref q) [v])) _ >>= _) _ _ _
  refine wpAny_bind (wpAny_tryCatch (wpAny_holding (wpAny_call (codeAny_mono (turn v x rxv H _ _ m1 h) fun r s4 hq => ?_))))
  obtain ⟨u, rfl, ce⟩ := hq
  obtain ⟨kv, H4, m4, un4, rk, r2, k2, hm4⟩ := m1.after ce
  have gS4 := un4.keep S _ gS1 nS frS (by simp)
  have gI4 := un4.keep _ _ hoI' nI frI (by simp)
  have nS4 := un4.free S _ gS1 nS (by simp)
  have nI4 := un4.free _ _ hoI' nI (by simp)
  have s1 := Heap.SameBut.update s4.heap S (Obj.mapSeq fun _ => #[v, u])
  obtain ⟨c2, hc2⟩ : ∃ c2, (s4.heap.update S (Obj.mapSeq fun _ => #[v, u])).get? S = some (seqObj "list" #[v, u] c2) := ⟨_, get?_update_seq gS4 fun _ => #[v, u]⟩
  show wpAny _ X.A.in1 (updateSeq S (fun _ => #[v, u]) >>= _) _ _ _
  refine wpAny_bind ?_
  refine wpAny_updateSeq gS4 rfl ?_
  rw [hname]
  exact wpAny_pure ⟨plainId_quiet PySem.F.plain_max_loop _, loop_max hh hun J hlI hSI zI zS turn (R := fun r s' => match r with | .ok (.ret v) => Q v s' | .ok _ => False | .error e => E e s') hR n 1 x kv r2 H4 _ v u c2 (m4.own (tk := s4.toks) zS nS4 fun b o hb e => (s1.2 b hb).trans e) nI4 nS4 hc2 ⟨oI', (s1.2 _ hSI.symm).trans gI4, hoc, hod⟩ rxv rk k2 hm4⟩
theorem loop_min {l I S q : Addr} {d : Option Nat} {TT : V → Hp → VK → Prop} {k : VK} {R : Result → Shared → Prop} (hh : X.A.handled = none) (hun : X.A.units + 65 < cLine) (J : Inv X pins z H s) (hlI : l ≠ I) (hSI : S ≠ I) (hI : s.heap.get? I = none) (hS : s.heap.get? S = none)
    (turn : ∀ (v : Value) (x : V), RelV x v → ∀ (H3 : Hp) (s3 : Shared) (Kt : VK), Mid X H s H3 s3 → TT x H3 Kt → codeAny (model X.prog X.w) X.A.in1 (.call (.ref q) ⟨[v], []⟩) (fun r s4 => ∃ u, r = .ok (.ret u) ∧ CE X.stack X.prog X.w H3 s3 Kt u s4) s3)
    (hR : ∀ (v : Value) (x : V) (H3 : Hp) (s4 : Shared), RelV x v → k x H3 → Mid X H s H3 s4 → R (.ok (.ret v)) s4) :
    ∀ (n j : Nat) (xb kb : V) (rb : List Int) (H3 : Hp) (s3 : Shared) (vb ub : Value) (c : Nat), Mid X H s H3 s3 → H3 I = none → H3 S = none → s3.heap.get? S = some (seqObj "list" #[vb, ub] c) → s3.heap.IsListIter I l j → RelV xb vb → RelV kb ub → KeyV H3 d kb rb →
      mnkT X.K false d l TT n j xb rb H3 k → codeAny (model X.prog X.w) X.A (.builtin "min.loop" ⟨[.ref I, .ref q, .ref S], []⟩) R s3 := by
  have hname : (toString "min" ++ toString ".loop" : String) = "min.loop" := by decide
  have frI : I ∉ frs X.stack := inv_nofr J hI
  have frS : S ∉ frs X.stack := inv_nofr J hS
  intro n
  induction n with
  | zero =>
    intro j xb kb rb H3 s3 vb ub c m nI nS gS hit rxb rkb kk hm
    obtain ⟨⟨xs, hq, hlen⟩, hk⟩ := hm
    have I3 := Mid.inv J m
    obtain ⟨its, rv, pl, hz⟩ := I3.list hq
    have hin : j = its.toArray.size := by
      have := rv.length
      rw [List.size_toArray]
      omega
    have W := Walks.list (prog := X.prog) (w := X.w) (A := X.A.in1) hh I l hlI its.toArray
    refine codeAny_builtin PySem.F.entry_min_loop ?_
    rw [Around.under_plainId PySem.F.plain_min_loop _]
    show wpAny _ X.A.in1 (seqItems? (.ref S) >>= _) _ _ _
    refine wpAny_bind (wpAny_seqItems gS rfl ?_)
    show wpAny _ X.A.in1 (tryCatch (pyNext (.ref I)) _ >>= _) _ _ _
    refine wpAny_bind (wpAny_tryCatch (W.done _ _ _ ⟨by rw [← hin]; exact hit, pl.isList⟩ fun h' tk' hk' => ?_))
    have m1 : Mid X H s H3 { s3 with heap := h', toks := tk' } := m.own hI nI fun b o hb e => hk' b o (by simpa using hb) e
    have hS' := hk' S _ (by simpa using hSI) gS
    have s1 := Heap.SameBut.update h' S (Obj.mapSeq fun _ => (#[] : Array Value))
    show wpAny _ X.A.in1 (updateSeq S (fun _ => #[]) >>= _) _ _ _
    refine wpAny_bind ?_
    refine wpAny_updateSeq hS' rfl (wpAny_bind (wpAny_letGo (wpAny_pure ?_)))
    exact hR vb xb H3 _ rxb hk (m1.own (tk := tk') hS nS fun b o hb e => (s1.2 b hb).trans e)
  | succ n ih =>
    intro j xb kb rb H3 s3 vb ub c m nI nS gS hit rxb rkb kk hm
    obtain ⟨xs, x, hq, hjx, hm⟩ := hm
    have I3 := Mid.inv J m
    obtain ⟨its, rv, pl, hz⟩ := I3.list hq
    have hlt : j < xs.length := (List.getElem?_eq_some_iff.mp hjx).1
    have W := Walks.list (prog := X.prog) (w := X.w) (A := X.A.in1) hh I l hlI its.toArray
    refine codeAny_builtin PySem.F.entry_min_loop ?_
    rw [Around.under_plainId PySem.F.plain_min_loop _]
    show wpAny _ X.A.in1 (seqItems? (.ref S) >>= _) _ _ _
    refine wpAny_bind (wpAny_seqItems gS rfl ?_)
    show wpAny _ X.A.in1 (tryCatch (pyNext (.ref I)) _ >>= _) _ _ _
    refine wpAny_bind (wpAny_tryCatch (W.item j _ _ _ (by rw [List.size_toArray, ← rv.length]; exact hlt) ⟨hit, pl.isList⟩ fun v h' tk' hP hst' hk' => ?_))
    obtain ⟨v2, hv2, rxv⟩ := rv.get hjx
    have hv : its[j]? = some v := by simpa using hP
    rw [hv] at hv2
    cases hv2
    obtain ⟨oI', hoI', hoc, hod⟩ := id hst'.1
    have m1 : Mid X H s H3 { s3 with heap := h', toks := tk' } := m.own hI nI fun b o hb e => hk' b o (by simpa using hb) e
    have gS1 := hk' S _ (by simpa using hSI) gS
    show wpAny _ X.A.in1 (tryCatch (holding [v] (call (.ref q) [v])) _ >>= _) _ _ _
    refine wpAny_bind (wpAny_tryCatch (wpAny_holding (wpAny_call (codeAny_mono (turn v x rxv H3 _ _ m1 hm) fun r s4 hq => ?_))))
    obtain ⟨u, rfl, ce⟩ := hq
    obtain ⟨kv, H4, m4, un4, rk, r2, k2, hm4⟩ := m1.after ce
    have gS4 := un4.keep S _ gS1 nS frS (by simp)
    have gI4 := un4.keep I _ hoI' nI frI (by simp)
    have nS4 := un4.free S _ gS1 nS (by simp)
    have nI4 := un4.free I _ hoI' nI (by simp)
    have kk4 := kk.on un4
    have hit4 : s4.heap.IsListIter I l (j + 1) := ⟨oI', gI4, hoc, hod⟩
    show wpAny _ X.A.in1 (tryCatch (holding [v, u] (richCompare .Lt u ub >>= _)) _ >>= _) _ _ _
    refine wpAny_bind (wpAny_tryCatch (wpAny_holding (wpAny_bind (cmp_min (A := X.A.in1) m4.hok (by show X.A.units + 1 < cLine; omega) k2 kk4 rk rkb _ _ _ _ ?_))))
    refine wpAny_bind (wpAny_holding (wpAny_truthy_bool ?_))
    refine wpAny_bind (wpAny_letGo (wpAny_pure ?_))
    by_cases hb' : better false r2 rb = true
    · have s1 := Heap.SameBut.update s4.heap S (Obj.mapSeq fun _ => #[v, u])
      obtain ⟨c2, hc2⟩ : ∃ c2, (s4.heap.update S (Obj.mapSeq fun _ => #[v, u])).get? S = some (seqObj "list" #[v, u] c2) := ⟨_, get?_update_seq gS4 fun _ => #[v, u]⟩
      rw [if_pos hb'] at hm4
      simp only [hb', if_true]
      refine wpAny_bind ?_
      refine wpAny_updateSeq gS4 rfl (wpAny_bind (wpAny_letGo ?_))
      rw [hname]
      exact wpAny_pure ⟨plainId_quiet PySem.F.plain_min_loop _, ih (j + 1) x kv r2 H4 _ v u c2 (m4.own (tk := s4.toks) hS nS4 fun b o hb e => (s1.2 b hb).trans e) nI4 nS4 hc2 ⟨oI', (s1.2 I hSI.symm).trans gI4, hoc, hod⟩ rxv rk k2 hm4⟩
    · rw [if_neg hb'] at hm4
      have hb2 : better false r2 rb = false := by simpa using hb'
      simp only [hb2, Bool.false_eq_true, if_false]
      refine wpAny_bind (wpAny_letGo ?_)
      rw [hname]
      exact wpAny_pure ⟨plainId_quiet PySem.F.plain_min_loop _, ih (j + 1) xb kb rb H4 _ vb ub c m4 nI4 nS4 gS4 hit4 rxb rkb kk4 hm4⟩
theorem call_mink {l q : Addr} {xs : List V} {d : Option Nat} {TT : V → Hp → VK → Prop} {k : VK} {x : V} {n : Nat} {Q : Value → Shared → Prop} {E : Value → Shared → Prop} (hh : X.A.handled = none) (hun : X.A.units + 65 < cLine) (J : Inv X pins z H s)
    (turn : ∀ (v : Value) (x : V), RelV x v → ∀ (H3 : Hp) (s3 : Shared) (Kt : VK), Mid X H s H3 s3 → TT x H3 Kt → codeAny (model X.prog X.w) X.A.in1 (.call (.ref q) ⟨[v], []⟩) (fun r s4 => ∃ u, r = .ok (.ret u) ∧ CE X.stack X.prog X.w H3 s3 Kt u s4) s3)
    (hR : ∀ (v : Value) (x : V) (H3 : Hp) (s4 : Shared), RelV x v → k x H3 → Mid X H s H3 s4 → Q v s4) (ex : xs[0]? = some x) (hq : SqL X.K H l xs)
    (h : TT x H fun v H2 => ∃ r2, KeyV H2 d v r2 ∧ mnkT X.K false d l TT n 1 x r2 H2 k) :
    wpAny (model X.prog X.w) X.A (call (.builtin "min") [.ref l] [(Str.ofString "key", .ref q)]) Q E s := by
  have hname : (toString "min" ++ toString ".loop" : String) = "min.loop" := by decide
  obtain ⟨its, rv, pl, hz⟩ := J.list hq
  have hls := pl.isList
  obtain ⟨ol, hol, _⟩ := id hls
  have hll : l < s.heap.objs.size := Heap.lt_size hol
  refine kmk_tree PySem.F.kind_min PySem.F.plain_min PySem.F.entry_min (kmk_min_key _ _) ?_
  show wpAny _ X.A.in1 (Builtin.Builtins.bindParams "min" ["key", "default"] 0 ⟨[], [(Str.ofString "key", .ref q)]⟩ >>= _) _ _ s
  refine wpAny_bind (wpAny_of_eq (show Builtin.Builtins.bindParams "min" ["key", "default"] 0 ⟨[], [(Str.ofString "key", .ref q)]⟩ = pure [some (.ref q), none] from rfl) ?_)
  refine wpAny_bind (wpAny_pure ?_)
  refine wpAny_bind (wpAny_pyIter_list hls ?_)
  refine wpAny_bind (wpAny_newList ?_ (Nat.zero_le _))
  rw [hname]
  have hS : (s.heap.push { cls := .type "list_iterator", data := .fields #[.ref l, .int 0 0] }).objs.size = s.heap.objs.size + 1 := size_push' ..
  have hlI : l ≠ s.heap.objs.size := Nat.ne_of_lt hll
  obtain ⟨S, eS⟩ : ∃ S, S = (s.heap.push { cls := .type "list_iterator", data := .fields #[.ref l, .int 0 0] }).objs.size := ⟨_, rfl⟩
  have hSI : S ≠ s.heap.objs.size := by rw [eS, hS]; exact Nat.ne_of_gt (Nat.lt_succ_self _)
  have zI : s.heap.get? s.heap.objs.size = none := Heap.get?_none_of_le (Nat.le_refl _)
  have zS : s.heap.get? S = none := Heap.get?_none_of_le (by rw [eS, hS]; exact Nat.le_succ _)
  have nI : H s.heap.objs.size = none := J.hok.fresh (Nat.le_refl _)
  have nS : H S = none := J.hok.fresh (by rw [eS, hS]; exact Nat.le_succ _)
  have frI : s.heap.objs.size ∉ frs X.stack := inv_nofr J zI
  have frS : S ∉ frs X.stack := inv_nofr J zS
  refine wpAny_pure ⟨plainId_quiet PySem.F.plain_min_loop _, ?_⟩
  rw [← eS]
  have gI : ((s.heap.push { cls := .type "list_iterator", data := .fields #[.ref l, .int 0 0] }).push (seqObj "list" #[] 0)).get? s.heap.objs.size = some { cls := .type "list_iterator", data := .fields #[.ref l, .int 0 0] } :=
    Heap.get?_push_of_some _ (Heap.get?_push_size _ rfl)
  have gS : ((s.heap.push { cls := .type "list_iterator", data := .fields #[.ref l, .int 0 0] }).push (seqObj "list" #[] 0)).get? S = some (seqObj "list" #[] 0) := by rw [eS]; exact Heap.get?_push_size _ rfl
  have gL : ((s.heap.push { cls := .type "list_iterator", data := .fields #[.ref l, .int 0 0] }).push (seqObj "list" #[] 0)).IsList l its.toArray := hls.at fun o e => Heap.get?_push_of_some _ (Heap.get?_push_of_some _ e)
  have m0 : Mid X H s H { s with heap := (s.heap.push { cls := .type "list_iterator", data := .fields #[.ref l, .int 0 0] }).push (seqObj "list" #[] 0) } := (Mid.start J).kept (tk := s.toks) fun c u e => Heap.get?_push_of_some _ (Heap.get?_push_of_some _ e)
  have W := Walks.list (prog := X.prog) (w := X.w) (A := X.A.in1) hh s.heap.objs.size l hlI its.toArray
  refine codeAny_builtin PySem.F.entry_min_loop ?_
  rw [Around.under_plainId PySem.F.plain_min_loop _]
  show wpAny _ X.A.in1 (seqItems? (.ref S) >>= _) _ _ _
  refine wpAny_bind (wpAny_seqItems gS rfl ?_)
  show wpAny _ X.A.in1 (tryCatch (pyNext (.ref s.heap.objs.size)) _ >>= _) _ _ _
  refine wpAny_bind (wpAny_tryCatch (W.item 0 _ _ _ (by rw [List.size_toArray, ← rv.length]; exact (List.getElem?_eq_some_iff.mp ex).1) ⟨⟨_, gI, rfl, rfl⟩, gL⟩ fun v h' tk' hP hst' hk' => ?_))
  obtain ⟨v2, hv2, rxv⟩ := rv.get ex
  have hv : its[0]? = some v := by simpa using hP
  rw [hv] at hv2
  cases hv2
  obtain ⟨oI', hoI', hoc, hod⟩ := id hst'.1
  have m1 : Mid X H s H { s with heap := h', toks := tk' } := m0.own zI nI fun b o hb e => hk' b o (by simpa using hb) e
  have gS1 := hk' S _ (by simpa using hSI) gS
  show wpAny _ X.A.in1 (tryCatch (holding [v] (call (.ref q) [v])) _ >>= _) _ _ _
  refine wpAny_bind (wpAny_tryCatch (wpAny_holding (wpAny_call (codeAny_mono (turn v x rxv H _ _ m1 h) fun r s4 hq => ?_))))
  obtain ⟨u, rfl, ce⟩ := hq
  obtain ⟨kv, H4, m4, un4, rk, r2, k2, hm4⟩ := m1.after ce
  have gS4 := un4.keep S _ gS1 nS frS (by simp)
  have gI4 := un4.keep _ _ hoI' nI frI (by simp)
  have nS4 := un4.free S _ gS1 nS (by simp)
  have nI4 := un4.free _ _ hoI' nI (by simp)
  have s1 := Heap.SameBut.update s4.heap S (Obj.mapSeq fun _ => #[v, u])
  obtain ⟨c2, hc2⟩ : ∃ c2, (s4.heap.update S (Obj.mapSeq fun _ => #[v, u])).get? S = some (seqObj "list" #[v, u] c2) := ⟨_, get?_update_seq gS4 fun _ => #[v, u]⟩
  show wpAny _ X.A.in1 (updateSeq S (fun _ => #[v, u]) >>= _) _ _ _
  refine wpAny_bind ?_
  refine wpAny_updateSeq gS4 rfl ?_
  rw [hname]
  exact wpAny_pure ⟨plainId_quiet PySem.F.plain_min_loop _, loop_min hh hun J hlI hSI zI zS turn (R := fun r s' => match r with | .ok (.ret v) => Q v s' | .ok _ => False | .error e => E e s') hR n 1 x kv r2 H4 _ v u c2 (m4.own (tk := s4.toks) zS nS4 fun b o hb e => (s1.2 b hb).trans e) nI4 nS4 hc2 ⟨oI', (s1.2 _ hSI.symm).trans gI4, hoc, hod⟩ rxv rk k2 hm4⟩
end
end Fy

set_option maxHeartbeats 4000000
/-! max, min with a key: lambdas, plain data -/
namespace Fy
open PySem PySem.Spec PyProof.Rows L2 SrtO LamX
variable [LamT]
def ttB (tb : TE) (i : Nat) (σ : L2.St) (c2 : Addr) (q : Str) : V → Hp → VK → Prop := fun x H k => H c2 = some (CodeO c2 q) ∧ tb (σ.set i (some x)) H k
def tMnk (K : PySem.W.Frag) (mx : Bool) (P : Addr) (q : Str) (i : Nat) (tIt tb : TE) : TE := fun σ H Q => tIt σ H fun x H1 => ∃ l, x = .ref l ∧ Tb H1 P ∧
  ∀ H2 c2, ExtN H1 H2 → (∀ a, H1 a ≠ none → H2 a ≠ none) → (∀ P2, Tb H1 P2 → Tb H2 P2) → H2 c2 = some (CodeO c2 q) →
    ∃ d n xs x0, SqL K H2 l xs ∧ xs[0]? = some x0 ∧ ttB tb i σ c2 q x0 H2 fun v H3 => ∃ r2, KeyV H3 d v r2 ∧ mnkT K mx d l (ttB tb i σ c2 q) n 1 x0 r2 H3 Q
section
variable {X : Cx}
theorem pe_maxk {itE body : Expr} {ps : Arguments} {sc : Scope} {x : Str} {i k : Nat} {co P : Addr} {tIt tb : TE} {p lpos kpos pos : Pos} (hc : X.calm = true) (hun : X.A.units + 65 < cLine) (hg : Gl X "max") (hm : X.mg "max" = none) (hit : PE X itE tIt) (TB : LamX.TabB X.base X.mg co P) (hcode : X.env.code = .ref co) (nm : LamT.nm P = some (lamQ X)) (lp : LamT.lp P lpos.line lpos.col = true) (hr : Room (k + 2) X.A)
    (L : LamS1 X.env.scope sc x) (hN : X.N[i]? = some x) (nd : X.N.Nodup) (hdef : defaultsOf ps X.env = ([], [])) (hbind : ∀ (q : Str) (cl : List (Str × Addr)) (pm cv ctv u : Value), bindArgs (PySem.W.kla_fn "<lambda>" q ps body sc cl pm cv ctv) ⟨[u], []⟩ = pure [(x, u)])
    (hbody : ∀ (A : Around) (outer : List Env) (s : Shared) (H : Hp) (f c2 : Addr), Room k (A.deeper (lamEnv X sc s.heap.objs.size f c2)) → PE (lamCx X A outer s H (fun _ _ _ => False) sc f c2) body tb)
    (na : starEach [itE] X.env = (false, eval itE X.env) :: starEach [] X.env) :
    PE X (.Call (.Name "max" p) [itE] [⟨some "key", .Lambda ps body sc lpos, kpos⟩] pos) (tMnk X.K true P (lamQ X) i tIt tb) := by
  refine ⟨fun pins s σ H Q I h => ?_⟩
  refine wpAny_Call_Name_kw (ld_blt I hg hm (show bootBuiltins "max" = some (.builtin "max") by decide +kernel) ?_ (by decide) (by decide))
  refine PyProof.Rows.callWith_kw (rest := []) (kws := [⟨some "key", .Lambda ps body sc lpos, kpos⟩]) ?_ (by rw [na]; rfl) (by rw [na]; rfl)
  rw [show backTo pos (starEach [itE] X.env) = (false, eval itE X.env) :: backTo pos (starEach [] X.env) by rw [na]; rfl]
  refine Calls.spliced_cons (thn (hit.run pins s σ H _ I h) fun u s1 ⟨v1, H1, I1, r1, l, ev, tP, h2⟩ => Calls.spliced_nil ?_)
  subst ev
  obtain rfl : u = Value.ref l := r1
  refine wpAny_evalAll_cons ?_
  show wpAny (model X.prog X.w) X.A (eval (.Lambda ps body sc lpos) X.env >>= fun v => standAt pos >>= fun _ => pure v) _ _ s1
  refine wpAny_bind (lam_mk I1 TB hcode nm lp tP hdef (L.has I1.ok) fun f c2 pm ct H2 s2 I2 e2 d2 t2 hf hfn hfr hco => wpAny_bind (wpAny_standAt (wpAny_pure (wpAny_evalAll_nil ?_))))
  obtain ⟨d, n, xs, x0, hq, hx0, kt⟩ := h2 H2 c2 e2 d2 t2 hco
  show wpAny (model X.prog X.w) X.A (call (.builtin "max") [.ref l] [((Str.ofString "key"), .ref f)]) _ _ s2
  refine call_maxk (I2.ok.hd hc) hun I2 (TT := ttB tb i σ c2 (lamQ X)) (k := Q) ?_ (fun v y H3 s4 ry hk m4 => ⟨y, H3, Mid.inv I2 m4, ry, hk⟩) hx0 hq kt
  rintro v y ry H3 s4 Kt m4 ⟨pc, pk⟩
  refine codeAny_mono (lam1_call (k := k) (A := X.A.in1) (E := fun _ _ _ => False) I2 L hN nd ry hf hfn hfr (hbind _ _ _ _ _ _) m4 rfl ⟨hr.hd, by have := hr.dp; show X.A.depth + 3 * (k + 1) + 5 < _; omega, by have := hr.un; show X.A.units + 1 + 16 * (k + 1) + 200 < _; omega⟩ pc (fun hr2 => hbody _ _ s4 H3 f c2 hr2) pk) fun r s5 hq => ?_
  cases r with
  | error e =>
    obtain ⟨_, _, _, _, _, _, _, _, _, _, _, _, _, _, _, _, z⟩ := hq
  | ok fl =>
    cases fl with
    | ret u => exact ⟨u, rfl, hq⟩
    | next => exact False.elim hq
    | brk => exact False.elim hq
    | cont => exact False.elim hq
theorem pe_mink {itE body : Expr} {ps : Arguments} {sc : Scope} {x : Str} {i k : Nat} {co P : Addr} {tIt tb : TE} {p lpos kpos pos : Pos} (hc : X.calm = true) (hun : X.A.units + 65 < cLine) (hg : Gl X "min") (hm : X.mg "min" = none) (hit : PE X itE tIt) (TB : LamX.TabB X.base X.mg co P) (hcode : X.env.code = .ref co) (nm : LamT.nm P = some (lamQ X)) (lp : LamT.lp P lpos.line lpos.col = true) (hr : Room (k + 2) X.A)
    (L : LamS1 X.env.scope sc x) (hN : X.N[i]? = some x) (nd : X.N.Nodup) (hdef : defaultsOf ps X.env = ([], [])) (hbind : ∀ (q : Str) (cl : List (Str × Addr)) (pm cv ctv u : Value), bindArgs (PySem.W.kla_fn "<lambda>" q ps body sc cl pm cv ctv) ⟨[u], []⟩ = pure [(x, u)])
    (hbody : ∀ (A : Around) (outer : List Env) (s : Shared) (H : Hp) (f c2 : Addr), Room k (A.deeper (lamEnv X sc s.heap.objs.size f c2)) → PE (lamCx X A outer s H (fun _ _ _ => False) sc f c2) body tb)
    (na : starEach [itE] X.env = (false, eval itE X.env) :: starEach [] X.env) :
    PE X (.Call (.Name "min" p) [itE] [⟨some "key", .Lambda ps body sc lpos, kpos⟩] pos) (tMnk X.K false P (lamQ X) i tIt tb) := by
  refine ⟨fun pins s σ H Q I h => ?_⟩
  refine wpAny_Call_Name_kw (ld_blt I hg hm (show bootBuiltins "min" = some (.builtin "min") by decide +kernel) ?_ (by decide) (by decide))
  refine PyProof.Rows.callWith_kw (rest := []) (kws := [⟨some "key", .Lambda ps body sc lpos, kpos⟩]) ?_ (by rw [na]; rfl) (by rw [na]; rfl)
  rw [show backTo pos (starEach [itE] X.env) = (false, eval itE X.env) :: backTo pos (starEach [] X.env) by rw [na]; rfl]
  refine Calls.spliced_cons (thn (hit.run pins s σ H _ I h) fun u s1 ⟨v1, H1, I1, r1, l, ev, tP, h2⟩ => Calls.spliced_nil ?_)
  subst ev
  obtain rfl : u = Value.ref l := r1
  refine wpAny_evalAll_cons ?_
  show wpAny (model X.prog X.w) X.A (eval (.Lambda ps body sc lpos) X.env >>= fun v => standAt pos >>= fun _ => pure v) _ _ s1
  refine wpAny_bind (lam_mk I1 TB hcode nm lp tP hdef (L.has I1.ok) fun f c2 pm ct H2 s2 I2 e2 d2 t2 hf hfn hfr hco => wpAny_bind (wpAny_standAt (wpAny_pure (wpAny_evalAll_nil ?_))))
  obtain ⟨d, n, xs, x0, hq, hx0, kt⟩ := h2 H2 c2 e2 d2 t2 hco
  show wpAny (model X.prog X.w) X.A (call (.builtin "min") [.ref l] [((Str.ofString "key"), .ref f)]) _ _ s2
  refine call_mink (I2.ok.hd hc) hun I2 (TT := ttB tb i σ c2 (lamQ X)) (k := Q) ?_ (fun v y H3 s4 ry hk m4 => ⟨y, H3, Mid.inv I2 m4, ry, hk⟩) hx0 hq kt
  rintro v y ry H3 s4 Kt m4 ⟨pc, pk⟩
  refine codeAny_mono (lam1_call (k := k) (A := X.A.in1) (E := fun _ _ _ => False) I2 L hN nd ry hf hfn hfr (hbind _ _ _ _ _ _) m4 rfl ⟨hr.hd, by have := hr.dp; show X.A.depth + 3 * (k + 1) + 5 < _; omega, by have := hr.un; show X.A.units + 1 + 16 * (k + 1) + 200 < _; omega⟩ pc (fun hr2 => hbody _ _ s4 H3 f c2 hr2) pk) fun r s5 hq => ?_
  cases r with
  | error e =>
    obtain ⟨_, _, _, _, _, _, _, _, _, _, _, _, _, _, _, _, z⟩ := hq
  | ok fl =>
    cases fl with
    | ret u => exact ⟨u, rfl, hq⟩
    | next => exact False.elim hq
    | brk => exact False.elim hq
    | cont => exact False.elim hq
end
section
variable {X : Cx} {B : BP} {C : Cl} {ES : XS}
theorem keyV_of {K : KH} {st : Sto} {H : Hp} {v : V} {y : D} {d : Option Nat} {r : List Int} (q : Rep K st H v y) (k : KeyD d y r) : KeyV H d v r := by
  cases d with
  | none =>
    obtain ⟨n, rfl, rfl⟩ := k
    cases q
    exact ⟨n, rfl, rfl⟩
  | some d =>
    obtain ⟨hl, rfl⟩ := k
    cases q with
    | tup hx rx zx =>
      refine ⟨hl, _, rfl, ?_⟩
      rw [← reps_ints0 rx]
      exact hx
/-- where the list stands -/
def LsAt (K : PySem.W.Frag) (hs : Addr → Prop) (l : Addr) (ds : List D) (st : Sto) (H : Hp) : Prop := ∃ xs, SqL K H l xs ∧ Reps ⟨K, hs⟩ st H xs ds
theorem mnk_fold {ct : CT} {el : IE} {i : Nat} {s : L2.St} {w : DSt} {c2 l : Addr} {q : Str} {hs : Addr → Prop} {mx : Bool} {dm : Option Nat} {src : Src} {k : VK} {kd : D → Sto → Prop} {L : Sto → Hp → Prop} (lo : ∀ st H, L st H → LsAt X.K hs l src.items st H) (ls : ∀ st H st0 H0, L st0 H0 → Step ⟨X.K, hs⟩ st0 H0 st H → StoOk ⟨X.K, hs⟩ st H → src.ok st → L st H) : ∀ {ds : List D} {j : Nat} {xb : V} {db : D} {rb : List Int} {st : Sto} {H : Hp}, src.items.drop j = ds → Rep ⟨X.K, hs⟩ st H xb db → SRep ⟨X.K, hs⟩ st H s w → (∀ P, B.T P → Tb H P) → StoOk ⟨X.K, hs⟩ st H → H c2 = some (CodeO c2 q) → j ≤ src.items.length →
    (src.ok st → L st H) → mnkD mx dm src (fun s st k => wpE C (fun _ _ _ => False) el s st k) i w ds db rb st kd →
    (∀ d2 st2 v2 H2, kd d2 st2 → Step ⟨X.K, hs⟩ st H st2 H2 → Rep ⟨X.K, hs⟩ st2 H2 v2 d2 → StoOk ⟨X.K, hs⟩ st2 H2 → k v2 H2) →
    mnkT X.K mx dm l (ttB (tLam1 B.T ct X.K C el (fun _ _ _ => False)) i s c2 q) ds.length j xb rb H k
  | [], j, xb, db, rb, st, H, ed, rx, sr, tb, so, hc, hj, ls0, h, fin => by
    obtain ⟨ok, h⟩ := h
    have l0 := ls0 ok
    obtain ⟨xs, hq, rs⟩ := lo _ _ l0
    refine ⟨⟨xs, hq, ?_⟩, fin db st xb H h .refl rx so⟩
    have := congrArg List.length ed
    rw [List.length_drop, List.length_nil] at this
    have := rs.length
    omega
  | d :: ds, j, xb, db, rb, st, H, ed, rx, sr, tb, so, hc, hj, ls0, h, fin => by
    obtain ⟨ok, h⟩ := h
    have l0 := ls0 ok
    obtain ⟨xs, hq, rs⟩ := lo _ _ l0
    have hjd : src.items[j]? = some d := by
      have := congrArg List.head? ed
      rw [List.head?_drop, List.head?_cons] at this
      exact this
    have hlt : j < src.items.length := (List.getElem?_eq_some_iff.mp hjd).1
    have ed2 : src.items.drop (j + 1) = ds := by
      rw [List.drop_eq_getElem_cons hlt] at ed
      exact (List.cons.inj ed).2
    obtain ⟨x, hx, rd⟩ := rs.get hjd
    have nc : st c2 = none := by
      cases e : st c2 with
      | none => rfl
      | some o =>
        exact absurd hc ((so.c c2 o e).kind.2.2.2 _)
    refine ⟨xs, x, hq, hx, hc, hs, w.set i (some d), st, _, fun _ _ => False, sr.set i rd, tb, so, h, fun y st2 v H2 h2 t2 r2 so2 => ?_, fun _ _ _ _ _ z => z.elim⟩
    obtain ⟨hc2, _⟩ := t2.keep c2 _ hc codeO_ne nc
    obtain ⟨r3, k3, h3⟩ := h2
    refine ⟨r3, keyV_of r2 k3, ?_⟩
    have fin2 : ∀ d2 st3 v2 H3, kd d2 st3 → Step ⟨X.K, hs⟩ st2 H2 st3 H3 → Rep ⟨X.K, hs⟩ st3 H3 v2 d2 → StoOk ⟨X.K, hs⟩ st3 H3 → k v2 H3 := fun d2 st3 v2 H3 a t3 b c => fin d2 st3 v2 H3 a (t2.trans t3) b c
    split
    · rename_i hb
      rw [if_pos hb] at h3
      exact mnk_fold lo ls ed2 (rd.mono t2) (sr.mono t2) (fun P hP => t2.tab P (tb P hP)) so2 hc2 hlt (fun ok2 => ls _ _ _ _ l0 t2 so2 ok2) h3 fin2
    · rename_i hb
      rw [if_neg hb] at h3
      exact mnk_fold lo ls ed2 (rx.mono t2) (sr.mono t2) (fun P hP => t2.tab P (tb P hP)) so2 hc2 hlt (fun ok2 => ls _ _ _ _ l0 t2 so2 ok2) h3 fin2
theorem mnk_ok {ct : CT} {mx : Bool} {i : Nat} {e el : IE} {P : Addr} {q : Str} (hP : B.T P) : ∀ s H Q, liftE B X.K (wpE C ES (.mnk mx i e el)) s H Q → tMnk X.K mx P q i (liftE B X.K (wpE C ES e)) (tLam1 B.T ct X.K C el (fun _ _ _ => False)) s H Q := by
  rintro s H Q ⟨hs, w, st, R, sr, so, h, qq⟩
  simp only [wpE] at h
  refine ⟨hs, w, st, _, sr, so, h, fun dl st1 v1 H1 h1 t1 r1 so1 => ?_⟩
  have go : ∀ (l : Addr) (src : Src) (L : Sto → Hp → Prop), (∀ st H, L st H → LsAt X.K hs l src.items st H) → (∀ st H st0 H0, L st0 H0 → Step ⟨X.K, hs⟩ st0 H0 st H → StoOk ⟨X.K, hs⟩ st H → src.ok st → L st H) → L st1 H1 → mnk0 mx src (fun s st k => wpE C (fun _ _ _ => False) el s st k) i w src.items st1 R →
      ∃ l', V.ref l = .ref l' ∧ Tb H1 P ∧ ∀ H2 c2, ExtN H1 H2 → (∀ a, H1 a ≠ none → H2 a ≠ none) → (∀ P2, Tb H1 P2 → Tb H2 P2) → H2 c2 = some (CodeO c2 q) →
        ∃ d n xs x0, SqL X.K H2 l' xs ∧ xs[0]? = some x0 ∧ ttB (tLam1 B.T ct X.K C el (fun _ _ _ => False)) i s c2 q x0 H2 fun v H3 => ∃ r2, KeyV H3 d v r2 ∧ mnkT X.K mx d l' (ttB (tLam1 B.T ct X.K C el (fun _ _ _ => False)) i s c2 q) n 1 x0 r2 H3 Q := by
    intro l src L lo ls at1 h0
    refine ⟨l, rfl, t1.tab P (B.tab sr.b P hP), fun H2 c2 e2 d2 t2 hco => ?_⟩
    have tt := Step.ext (K := ⟨X.K, hs⟩) (st := st1) e2 t2
    have so2 := so1.ext e2 d2 t2
    have sr2 := (sr.mono t1).mono tt
    cases ei : src.items with
    | nil => rw [ei] at h0; exact h0.elim
    | cons d0 ds =>
      rw [ei] at h0
      obtain ⟨dm, ok, h0⟩ := h0
      have l0 := ls _ _ _ _ at1 tt so2 ok
      obtain ⟨xs, hq, rs⟩ := lo _ _ l0
      obtain ⟨x0, hx0, rd⟩ := rs.get (show src.items[0]? = some d0 by rw [ei]; rfl)
      have nc : st1 c2 = none := by
        cases e : st1 c2 with
        | none => rfl
        | some o =>
          exact absurd hco ((so2.c c2 o e).kind.2.2.2 _)
      refine ⟨dm, ds.length, xs, x0, hq, hx0, hco, hs, w.set i (some d0), st1, _, fun _ _ => False, sr2.r.set i rd, fun P2 hP2 => t2 P2 (B.tab (sr.mono t1).b P2 hP2), so2, h0, fun y st3 v H3 h3 t3 r3 so3 => ?_, fun _ _ _ _ _ z => z.elim⟩
      obtain ⟨hc3, _⟩ := t3.keep c2 _ hco codeO_ne nc
      obtain ⟨r4, k4, h4⟩ := h3
      refine ⟨r4, keyV_of r3 k4, ?_⟩
      exact mnk_fold (B := B) lo ls (ds := ds) (j := 1) (by rw [ei]; rfl) (rd.mono t3) (sr2.r.mono t3) (fun P2 hP2 => t3.tab P2 (t2 P2 (B.tab (sr.mono t1).b P2 hP2))) so3 hc3 (by rw [ei]; simp) (fun ok2 => ls _ _ _ _ l0 t3 so3 ok2) h4 fun d5 st5 v5 H5 h5 t5 r5 so5 => qq d5 st5 v5 H5 h5 (((t1.trans tt).trans t3).trans t5) r5 so5
  unfold lsrP at h1
  split at h1
  · rename_i ds
    obtain ⟨l, rfl⟩ : ∃ l, v1 = .ref l := by cases r1; exact ⟨_, rfl⟩
    refine go l ⟨ds, none⟩ (fun st H => Rep ⟨X.K, hs⟩ st H (.ref l) (.fl ds)) (fun st H r => ?_) (fun st H st0 H0 r t so ok => r.mono t) r1 h1
    cases r with
    | fl hx rx zx => exact ⟨_, hx.sq, rx⟩
  · obtain ⟨ds, e, h1⟩ := h1
    rename_i a
    cases r1
    obtain ⟨hz, xs, hx, r⟩ := so1.c _ _ e
    refine go a ⟨ds, some (a, ds)⟩ (LsAt X.K hs a ds) (fun _ _ l => l) (fun st H st0 H0 _ t so ok => ?_) ⟨xs, SqL.of hx, r⟩ h1
    obtain ⟨_, ys, hy, ry⟩ := so.c a _ ok
    exact ⟨ys, SqL.of hy, ry⟩
  · exact h1.elim
end
end Fy

/-! Deep data: sorted, min, max; a tuple that may be asked for a place. -/
namespace Fy
open PySem PySem.Spec PyProof.Rows L2
variable [LamT]
section
variable {prog : Program} {w : World} {A : Around} {E : Value → Shared → Prop} {s : Shared} {κ : PyProof.Rows.KeyKind}
theorem sorted_tup_vals {l : Addr} {o : Obj} {vs : List Value} {n : Nat} {Q : Value → Shared → Prop} (ho : s.heap.get? l = some o) (hc : o.cls = .type "tuple") (hd : o.data = .seq vs.toArray n) (hz : vs.length ≤ sizeLine)
    (S : PySem.W.SortsAt prog w A.in1.in1 { s with heap := PySem.W.sortingHeap (PySem.W.copyHeap s.heap vs) (s.heap.objs.size + 1) vs } κ vs)
    (h : Q (.ref (s.heap.objs.size + 1)) { s with heap := sortedAll s.heap vs (PySem.W.sortVals κ false vs vs).toArray }) :
    wpAny (model prog w) A (call (.builtin "sorted") [.ref l]) Q E s := by
  refine Calls.call_function_entry kind_sorted plain_sorted entry_sorted (args_sorted1 _) ?_
  unfold Builtin.«sorted»
  refine wpAny_bind (m := checkCount "sorted" 1 1 _) <| wpAny_pure ?_
  refine wpAny_bind (coll_tup ho hc hd hz ?_)
  refine wpAny_bind (wpAny_newList (hsz := hz) ?_)
  have hsz : ((s.heap.push (seqObj "list" #[] 0)).update s.heap.objs.size (Obj.mapSeq (· ++ vs.toArray))).objs.size = s.heap.objs.size + 1 := by
    rw [Heap.size_update, size_push']
  show wpAny _ _ _ _ _ { s with heap := PySem.W.copyHeap s.heap vs }
  rw [hsz]
  refine wpAny_bind (wpAny_holding (wpAny_call_entry slot_list_sort ⟨_, PySem.W.copyHeap_at s.heap vs, rfl⟩ entry_list_sort (PySem.W.list_sort_vals (s := { s with heap := PySem.W.copyHeap s.heap vs }) (PySem.W.copyHeap_at s.heap vs) S hz ⟨_, rfl, ?_⟩) (args_list_sort _)))
  exact wpAny_pure ⟨_, rfl, h⟩
end
theorem each_vals : ∀ {bs : List (V × PyData)} {us : List Value}, Vals (bs.map (·.1)) us → PySem.W.EachIs (fun (u : Value) (b : V × PyData) => RelV b.1 u) us bs
  | [], _, .nil => .nil
  | _ :: _, _, .cons r t => .cons r (each_vals t)
theorem vals_each : ∀ {bs : List (V × PyData)} {us : List Value}, PySem.W.EachIs (fun (u : Value) (b : V × PyData) => RelV b.1 u) us bs → Vals (bs.map (·.1)) us
  | _, _, .nil => .nil
  | _, _, .cons r t => .cons r (vals_each t)
theorem each_sub {R S : Value → (V × PyData) → Prop} : ∀ {us : List Value} {bs : List (V × PyData)}, PySem.W.EachIs R us bs → (∀ u, ∀ b ∈ bs, R u b → S u b) → PySem.W.EachIs S us bs
  | _, _, .nil, _ => .nil
  | _, _, .cons r t, h => .cons (h _ _ List.mem_cons_self r) (each_sub t fun u b hb => h u b (List.mem_cons_of_mem _ hb))
def dle : V × PyData → V × PyData → Bool := PySem.W.dataLe false (fun b : V × PyData => b.2)
/-- sorted of a list or a tuple of deep data -/
def rSrd (K : PySem.W.Frag) : List V → Hp → VK → Prop := fun vs H Q => ∃ (a : Addr) (bs : List (V × PyData)), vs = [V.ref a] ∧ (SqL K H a (bs.map (·.1)) ∨ SqT K H a (bs.map (·.1))) ∧ (∀ b ∈ bs, Dp K H b.1 b.2) ∧ PySem.W.AllAlike (bs.map (·.2)) ∧ PySem.W.Sortable (bs.map (·.2)) ∧ (∀ b ∈ bs, b.2.depth ≤ 60) ∧
  ∀ p, H p = none → Q (.ref p) (upd H p (.lst ((bs.mergeSort dle).map (·.1))))
section
variable {X : Cx}
theorem cr_srd (hu : X.A.units + 65 < cLine) : CallR X (.builtin "sorted") (rSrd X.K) := by
  intro pins s σ H vs us Q I r h
  obtain ⟨a, bs, rfl, hs, hx, hal, hso, hdp, q⟩ := h
  obtain ⟨its, rv, hl, hz⟩ : ∃ its : List Value, Vals (bs.map (·.1)) its ∧ ((s.heap.IsList a its.toArray) ∨ IsTup s.heap a its.toArray) ∧ (bs.map (·.1)).length ≤ sizeLine := by
    rcases hs with hs | hs
    · obtain ⟨its, rv, hl, hz⟩ := I.list hs
      exact ⟨its, rv, .inl hl.isList, hz⟩
    · obtain ⟨its, rv, hl, hz⟩ := I.tuple hs
      exact ⟨its, rv, .inr hl, hz⟩
  rw [Vals.ref1 r]
  have e := each_vals rv
  have er : PySem.W.EachIs (fun v (b : V × PyData) => ∃ as, Reads s.heap v b.2 as) its bs := each_sub e fun u b hb rr => Dp.reads I b.2 b.1 u (hx b hb) rr
  have hlen : bs.length ≤ sizeLine := by rw [List.length_map] at hz; exact hz
  have hun : ∀ b, b ∈ bs → X.A.units + 2 + b.2.depth < cLine := fun b hb => by
    have := hdp b hb
    omega
  have fin : ∀ out : List Value, out.length = bs.length → PySem.W.EachIs (fun (u : Value) (b : V × PyData) => RelV b.1 u) out (bs.mergeSort dle) → EP X pins σ Q (.ref (s.heap.objs.size + 1)) { s with heap := sortedAll s.heap its (List.toArray out) } := by
    intro out ho he
    obtain ⟨ep, e2⟩ := PyProof.Rows.sortedAll_at s.heap its out.toArray
    have hl2 : ((bs.mergeSort dle).map (·.1)).length ≤ sizeLine := by rw [List.length_map, List.length_mergeSort]; exact hlen
    exact ⟨.ref _, upd H (s.heap.objs.size + 1) (.lst ((bs.mergeSort dle).map (·.1))), I.laid (t' := s.toks) (fun _ _ => PyProof.Rows.sortedAll_old) (Nat.le_succ _) ⟨hl2, out, ep, vals_each he, e2⟩, rfl, q _ (I.hok.fresh (Nat.le_succ _))⟩
  rcases hl with hl | ⟨o, ho, hc, n, hd⟩
  · exact PySem.W.sorted_data (enc := fun b : V × PyData => b.2) hl e er hal hso hlen hun fun out h1 h2 => fin out h1 h2
  · have er' : PySem.W.EachIs (fun v (b : V × PyData) => ∃ as, Reads (PySem.W.sortingHeap (PySem.W.copyHeap s.heap its) (s.heap.objs.size + 1) its) v b.2 as) its bs := er.mono fun _ _ ⟨as, r⟩ => ⟨as, PyProof.Rows.Reads.keeps (fun _ _ => PySem.W.sorting_copy_old) r⟩
    refine sorted_tup_vals ho hc hd (by rw [e.length]; exact hlen) (PySem.W.SortsAt.data (s := { s with heap := PySem.W.sortingHeap (PySem.W.copyHeap s.heap its) (s.heap.objs.size + 1) its }) (PySem.W.each_map (R := fun v d => ∃ as, Reads (PySem.W.sortingHeap (PySem.W.copyHeap s.heap its) (s.heap.objs.size + 1) its) v d as) (fun b : V × PyData => b.2) er') hal hso (PySem.W.bound_map (A := X.A.in1.in1) (by exact hun))) ?_
    exact fin _ (by rw [PySem.W.sortVals_length false rfl]; exact e.length) (PySem.W.sortVals_data false e er' hal)

/-- the least (greatest) of a list of deep data -/
theorem bestD_mem (mx : Bool) (p : PyData) (ps : List PyData) : bestD mx p ps ∈ p :: ps := by
  have key : ∀ (f : PyData → PyData → Bool) (ps : List PyData) (p : PyData), ps.foldl (fun a y => if f a y then y else a) p ∈ p :: ps := by
    intro f ps
    induction ps with
    | nil => intro p; exact List.mem_singleton.mpr rfl
    | cons y ps ih =>
      intro p
      rw [List.foldl_cons]
      rcases List.mem_cons.mp (ih (if f p y then y else p)) with h | h
      · rw [h]
        split
        · exact List.mem_cons_of_mem _ List.mem_cons_self
        · exact List.mem_cons_self
      · exact List.mem_cons_of_mem _ (List.mem_cons_of_mem _ h)
  unfold bestD
  split
  · exact key (fun a y => PySem.W.dataLt a y) ps p
  · exact key (fun a y => PySem.W.dataLt y a) ps p
theorem dpAll_at {K : PySem.W.Frag} {H : Hp} : ∀ {xs : List V} {ps : List PyData} {i : Nat} {x : V}, DpAll K H xs ps → xs[i]? = some x → ∃ p, ps[i]? = some p ∧ Dp K H x p
  | _, _, i, _, .nil, h => by simp at h
  | _, _, 0, _, .cons r _, h => by simp at h; subst h; exact ⟨_, rfl, r⟩
  | _, _, i + 1, _, .cons _ t, h => by
    obtain ⟨p, h1, h2⟩ := dpAll_at t (i := i) (by simpa using h)
    exact ⟨p, by simpa using h1, h2⟩
theorem vals_at : ∀ {xs : List V} {us : List Value} {i : Nat} {u : Value}, Vals xs us → us[i]? = some u → ∃ x, xs[i]? = some x ∧ RelV x u
  | _, _, i, _, .nil, h => by simp at h
  | _, _, 0, _, .cons r _, h => by simp at h; subst h; exact ⟨_, rfl, r⟩
  | _, _, i + 1, _, .cons _ t, h => by
    obtain ⟨p, h1, h2⟩ := vals_at t (i := i) (by simpa using h)
    exact ⟨p, by simpa using h1, h2⟩
def rBest (K : PySem.W.Frag) (mx : Bool) : List V → Hp → VK → Prop := fun vs H Q => ∃ (a : Addr) (xs : List V) (p : PyData) (ps : List PyData), vs = [V.ref a] ∧ SqL K H a xs ∧ DpAll K H xs (p :: ps) ∧ PySem.W.AlikeAll (p :: ps) ∧ PyData.depthAll (p :: ps) ≤ 60 ∧
  ∀ (i : Nat) (x : V), xs[i]? = some x → (p :: ps)[i]? = some (bestD mx p ps) → Q x H
theorem cr_best (mx : Bool) (hcm : X.calm = true) (hu : X.A.units + 65 < cLine) : CallR X (.builtin (if mx = true then "max" else "min")) (rBest X.K mx) := by
  intro pins s σ H vs us Q I r h
  obtain ⟨a, xs, p, ps, rfl, hs, hx, hal, hdp, q⟩ := h
  obtain ⟨its, rv, hl, hz⟩ := I.list hs
  rw [Vals.ref1 r]
  obtain ⟨as, hr⟩ := Dp.readsAll I _ _ its hx rv
  have fin : ∀ (i : Nat) (v : Value) (h' : Heap) (tk : Tok) (bs : List Addr), its.toArray[i]? = some v → Reads h' v (bestD mx p ps) bs → (∀ b o, s.heap.get? b = some o → h'.get? b = some o) → EP X pins σ Q v { s with heap := h', toks := tk } := by
    intro i v h' tk bs hv hrv hk
    obtain ⟨x, hx1, rx⟩ := vals_at (i := i) rv (by simpa using hv)
    obtain ⟨p2, hp2, hd2⟩ := dpAll_at hx hx1
    obtain ⟨cs, hr2⟩ := Dp.reads I p2 x v hd2 rx
    have e : p2 = bestD mx p ps := PySem.W.alike_unique _ _ _ _ _ (hal.1 p2 (List.mem_of_getElem? hp2) _ (bestD_mem mx p ps)) (PySem.W.reads_keeps hk hr2) hrv
    exact ⟨x, H, I.kept hk, rx, q i x hx1 (by rw [hp2, e])⟩
  cases mx with
  | true => exact PySem.W.max_list_data (I.ok.hd hcm) hl.isList (by rw [List.toList_toArray]; exact hr) hal (by omega) fin
  | false => exact PySem.W.min_list_data (I.ok.hd hcm) hl.isList (by rw [List.toList_toArray]; exact hr) hal (by omega) fin
end
end Fy

/-! A tuple made of a list, known to have no dict: it may be asked for a place. -/
namespace Fy
open PySem PySem.Spec PyProof.Rows L2
section
variable {X : Cx}
def TOb (o : Obj) : Prop := o.cls = .type "tuple" ∧ o.dict = none
/-- a list made a tuple that is known -/
def kTix (K : PySem.W.Frag) (x : V) (H : Hp) (Q : VK) : Prop := ∃ p xs, x = .ref p ∧ SqL K H p xs ∧ ∀ q o, H q = none → TOb o → Q (.ref q) (upd H q (.frz o (.tup xs)))
theorem rl_tix (pins : List (Addr × Obj)) (s : Shared) (σ : L2.St) (H : Hp) (x : V) (v : Value) (Q : VK) (I : Inv X pins σ H s) (r : RelV x v) (h : kTix X.K x H Q) : wpAny (model X.prog X.w) X.A (call (.type "tuple") [v]) (EP X pins σ Q) X.xe s := by
  obtain ⟨p, xs, rfl, hs, q⟩ := h
  cases r
  obtain ⟨its, rv, pl, hz⟩ := I.list hs
  refine call_tuple_list pl.isList (fun h' hk => ?_) (by rw [List.size_toArray, ← rv.length]; exact hz)
  have I1 : Inv X pins σ H { s with heap := h' } := I.kept (t' := s.toks) hk
  have new : ObjOk X.prog X.w (upd H h'.objs.size (.frz { cls := .type "tuple", data := .seq its.toArray } (.tup xs))) (h'.push { cls := .type "tuple", data := .seq its.toArray }) h'.objs.size (.frz { cls := .type "tuple", data := .seq its.toArray } (.tup xs)) :=
    ⟨Heap.get?_push_size _ rfl, hz, its, rv, IsTup.new _ _⟩
  have I2 := I1.laid (t' := s.toks) (fun b o e => Heap.get?_push_of_some _ e) (Nat.le_refl _) new
  exact ⟨.ref h'.objs.size, _, I2, rfl, q _ _ (I1.hok.fresh (Nat.le_refl _)) ⟨rfl, rfl⟩⟩
theorem pe_tixOf {a : Expr} {ta : TE} {p pos : Pos} (hg : Gl X "tuple") (hm : X.mg "tuple" = none) (ha : PE X a ta) (na : starEach [a] X.env = (false, eval a X.env) :: starEach [] X.env) : PE X (.Call (.Name "tuple" p) [a] [] pos) (tThen ta (kTix X.K)) :=
  ⟨fun pins s σ H Q I h => Call_ (ld_blt I hg hm boot_tuple (PyProof.Rows.callWith_type1 (L2.one_arg ha I h (fun v s2 x H2 I2 r q => rl_tix pins s2 σ H2 x v Q I2 r q) na) na))⟩
/-- t.index(x), deep data -/
def rIdxT (K : PySem.W.Frag) : V → List V → Hp → VK → Prop := fun x xs H Q => ∃ (a : Addr) (y : V) (d : PyData) (ds : List PyData) (j : Nat) (z : PyData), x = V.ref a ∧ xs = [y] ∧ Dp K H (V.ref a) (.tuple ds) ∧ Dp K H y d ∧
  SeqAt.shaped (.list ds) = true ∧ SeqAt.shaped d = true ∧ ds[j]? = some z ∧ PyData.eqv z d = true ∧ (∀ (m : Nat) (z' : PyData), m < j → ds[m]? = some z' → PyData.eqv z' d = false) ∧ Q (.int (j : Nat)) H
theorem mt_idxT (hu : X.A.units + 65 < cLine) : MtR X "tuple.index" (rIdxT X.K) := by
  intro pins s σ H x xs v us Q I rx rxs h
  obtain ⟨a, y, d, ds, j, z, rfl, rfl, hl, hy, sl, sd, hz, hzj, hno, q⟩ := h
  cases rx
  obtain ⟨uy, rfl, ry⟩ := vals1 rxs
  obtain ⟨bs, r1⟩ := Dp.reads I d y uy hy ry
  have lay : PyData.canLayAll0 ds = true := SeqAt.canLay_of_shaped sl
  have room : X.A.units + 1 + min (PyData.depthAll ds) d.depth < cLine := room_in_shaped sd hu
  cases hl with
  | tup hs ha =>
    obtain ⟨its, rv, ⟨⟨cls, dd, data, sls⟩, ho, hc, n, hdt⟩, hlen⟩ := I.tuple hs
    simp only at hc hdt
    subst hc hdt
    obtain ⟨as, h4⟩ := Dp.readsAll I ds _ its ha rv
    have nn : its.length = ds.length := SeqAt.ReadsAll.length ds its as h4
    have mm : its.map (SeqAt.readOf s.heap) = ds := SeqAt.readsAll_map ds its as lay h4
    obtain ⟨hjd, _⟩ := List.getElem?_eq_some_iff.mp hz
    have hj : j < its.toArray.size := by rw [List.size_toArray]; omega
    have rd : ∀ (m : Nat) (hm : m < its.toArray.size) (z' : PyData), ds[m]? = some z' → SeqAt.readOf s.heap its.toArray[m] = z' := by
      intro m hm z' hz'
      have hml : m < its.length := by simpa using hm
      rw [← mm, List.getElem?_map, List.getElem?_eq_getElem hml] at hz'
      have e1 : SeqAt.readOf s.heap its[m] = z' := by simpa using hz'
      simpa using e1
    refine call_meets PySem.F.slot_tuple_index ⟨_, ho, rfl⟩ PySem.F.entry_tuple_index (PySem.F.args_tuple_index_2 _ _)
      (TI.tuple_indexAt a its.toArray n dd sls uy (fun u => PyData.eqv (SeqAt.readOf s.heap u) d) j hj ?_ ?_) ⟨ho, SeqAt.items_eqAt (vs := its.toArray) (show ReadsAll s.heap its.toArray.toList ds as from h4) r1 lay (SeqAt.canLay_of_shaped sd) room, ⟨.int (j : Nat), H, I.tok _, ⟨_, rfl⟩, q⟩⟩
    · show PyData.eqv (SeqAt.readOf s.heap its.toArray[j]) d = true
      rw [rd j hj z hz]
      exact hzj
    · intro m hm hmj
      show PyData.eqv (SeqAt.readOf s.heap its.toArray[m]) d = false
      have hz' : ds[m]? = some ds[m] := List.getElem?_eq_getElem (by rw [List.size_toArray] at hm; omega)
      rw [rd m hm _ hz']
      exact hno m _ hmj hz'
def tyT (x : V) (H : Hp) : Prop := ∃ p o xs, x = .ref p ∧ H p = some (.frz o (.tup xs)) ∧ TOb o
def tBMt (r : V → List V → Hp → VK → Prop) (to : TE) (t : TA) : TE := fun σ H Q => to σ H fun x H1 => tyT x H1 ∧ t σ H1 fun xs H2 => r x xs H2 Q
theorem pe_bmt {o e : Expr} {es : List Expr} {to : TE} {t : TA} {apos cpos : Pos} {r : V → List V → Hp → VK → Prop} (hm : MtR X "tuple.index" r) (ho : PE X o to) (ha : PA X (e :: es) t)
    (hbase : attributeBase o "index" X.env (eval o X.env) = eval o X.env)
    (hfew : ((backTo cpos (starEach (e :: es) X.env)).all (fun x => !x.1) && (backToKw cpos (keywordEach [] X.env)).all (fun x => x.1.isSome) && decide ((e :: es).length + ([] : List Keyword).length + (if ([] : List Keyword).isEmpty then 0 else 1) < 30)) = true)
    (hline : (apos.endLine == cpos.line) = true) (hs : starEach (e :: es) X.env = (false, eval e X.env) :: starEach es X.env) (hplain : (backTo cpos (starEach es X.env)).any (·.1) = false) :
    PE X (.Call (.Attribute o "index" apos) (e :: es) [] cpos) (tBMt r to t) := by
  refine ⟨fun pins s σ H Q I h => wpAny_Call_method_late hbase hfew hline rfl (thn (ho.run pins s σ H _ I h) fun v s1 ⟨x, H1, I1, r1, ty, q1⟩ => ?_)⟩
  obtain ⟨p, ob, zs, rfl, hp, t1, t2⟩ := ty
  have r0 := r1
  cases r1
  obtain ⟨e1, _⟩ := (show ObjOk X.prog X.w H1 s1.heap p (.frz ob (.tup zs)) from I1.hok p _ hp)
  refine ⟨"tuple", "tuple.index", PySem.F.plainAttrs_tuple, PySem.F.slot_tuple_index, PySem.F.type_tuple_index, ⟨ob, e1, t1⟩, fun a z => (by cases z; exact ⟨ob, e1, t2⟩), ?_⟩
  have hA := ha.run cpos pins s1 σ H1 _ I1 q1
  rw [hs] at hA ⊢
  refine Calls.callWith_builtin (by show (false || (backTo cpos (starEach es X.env)).any (·.1)) = false; rw [hplain]; rfl) (Calls.evalArgs_plain ?_)
  exact thn hA fun us s2 ⟨vs, H2, I2, r2, q2⟩ => hm pins s2 σ H2 (.ref p) vs (.ref p) us Q I2 r0 r2 q2
end
end Fy

/-! tuple(d): the keys of a dict. -/
namespace Fy
open PySem PySem.Spec PyProof.Rows L2
section
variable {prog : Program} {w : World} {A : Around} {E : Value → Shared → Prop} {s : Shared} {d : Addr} {kvs : List (Key × Value)} {ep : Nat}
theorem coll_dct {Q : List Value → Shared → Prop} (lo : (d == sysModules) = false) (hh : A.handled = none) (hat : s.heap.DictAt (mixKind prog w) d kvs ep) (hn : kvs.length ≤ sizeLine)
    (hQ : ∀ (h' : Heap) (tk : Nat) (acc : Array Value), (∀ b o, s.heap.get? b = some o → h'.get? b = some o) → ItemsOf (fun i v => ∃ k x, kvs[i]? = some (k, x) ∧ (mixKind prog w).is k v = true) acc kvs.length → Q acc.toList { s with heap := h', toks := tk }) :
    wpAny (model prog w) A (collect (.ref d)) Q E s := by
  have KS := PySem.W.kdl_dict (prog := prog) (w := w) (knd := mixKind prog w) (kvs := kvs) (ep := ep) (d := d) lo
  unfold collect
  refine wpAny_bind <| wpAny_runValue <| codeAny_builtin F.entry_proto_collect ?_
  rw [(Around.under_plainId F.plain_proto_collect _)]
  show wpAny _ A.in1 (newList [] >>= fun y => again (.builtin "list.__iadd__" ⟨[y, .ref d], []⟩)) _ _ s
  refine wpAny_bind <| wpAny_newObj_type ?_
  refine wpAny_pure ⟨plainId_quiet F.plain_list_iadd _, codeAny_builtin F.entry_list_iadd ?_⟩
  rw [(Around.under_plainId F.plain_list_iadd _)]
  show wpAny _ A.in1 (Builtin.List.listExtendWith (.ref s.heap.objs.size) (.ref d) (.ref s.heap.objs.size)) _ _ _
  have hS : (s.heap.push { cls := .type "list", data := .seq ([] : List Value).toArray }).get? s.heap.objs.size = some { cls := .type "list", data := .seq #[] 0 } := Heap.get?_push_size _ rfl
  have hd : s.heap.objs.size ≠ d := Nat.ne_of_gt (KS.there _ hat).1
  have hok : (s.heap.push { cls := .type "list", data := .seq ([] : List Value).toArray }).DictAt (mixKind prog w) d kvs ep := KS.keep _ _ hat fun b _ o e => Heap.get?_push_of_some _ e
  refine wpAny_mono (PySem.W.kdl_extend (A := A) (s := { s with heap := s.heap.push { cls := .type "list", data := .seq ([] : List Value).toArray } }) (R := fun rr s2 => rr = .ok (.ret (.ref s.heap.objs.size)) ∧ ∃ (h' : Heap) (tk : Nat) (acc : Array Value) (c2 : Nat), s2 = { s with heap := h', toks := tk } ∧
      (∀ b o, s.heap.get? b = some o → h'.get? b = some o) ∧ h'.get? s.heap.objs.size = some { cls := .type "list", dict := none, data := .seq acc c2, slots := #[] } ∧ ItemsOf (fun i v => ∃ k x, kvs[i]? = some (k, x) ∧ (mixKind prog w).is k v = true) acc kvs.length)
    KS hh hok s.heap.objs.size hd hd (.ref s.heap.objs.size) 0 hS
    (fun h' tk acc c2 hk e hi => ⟨rfl, h', tk, acc, c2, rfl, fun b o q => hk b o (Nat.ne_of_lt (Heap.lt_size q)) (Heap.get?_push_of_some _ q), e, hi⟩) hn) (fun fin s' h => ?_) (fun e s' h => ?_)
  · cases fin with
    | done f =>
      obtain ⟨z, h', tk, acc, c2, rfl, hk, h2, hi⟩ := h
      cases z
      show wpAny _ A (load s.heap.objs.size >>= _) _ _ _
      exact wpAny_bind <| wpAny_load h2 (wpAny_pure (hQ h' tk acc hk hi))
    | again c =>
      refine ⟨h.1, codeAny_mono h.2 fun rr s3 y => ?_⟩
      obtain ⟨rfl, h', tk, acc, c2, rfl, hk, h2, hi⟩ := y
      show wpAny _ A (load s.heap.objs.size >>= _) _ _ _
      exact wpAny_bind <| wpAny_load h2 (wpAny_pure (hQ h' tk acc hk hi))
  · exact absurd h.1 (by simp)
theorem code_tup_dct {Q₁ : Value → Shared → Prop} (lo : (d == sysModules) = false) (hT : s.TypeIs (.ref d) "dict") (hh : A.handled = none) (hat : s.heap.DictAt (mixKind prog w) d kvs ep) (hn : kvs.length ≤ sizeLine)
    (h : ∀ (h' : Heap) (tk : Nat) (acc : Array Value), (∀ b o, s.heap.get? b = some o → h'.get? b = some o) → ItemsOf (fun i v => ∃ k x, kvs[i]? = some (k, x) ∧ (mixKind prog w).is k v = true) acc kvs.length →
      Q₁ (.ref h'.objs.size) { s with heap := h'.push { cls := .type "tuple", data := .seq acc }, toks := tk }) :
    codeAny (model prog w) A (.call (.builtin "tuple.__new__") ⟨[.type "tuple", .ref d], []⟩) (wants Q₁ E) s := by
  refine codeAny_of_tree ?_
  show wpAny _ A.in1 (do checkBuiltinCall "tuple.__new__" ⟨[.type "tuple", .ref d], []⟩; again (.builtin "tuple.__new__" ⟨[.type "tuple", .ref d], []⟩)) _ _ s
  refine wpAny_bind (wpAny_of_eq (F.newCall_tuple_1 _) (wpAny_pure ⟨plainId_quiet F.plain_tuple_new _, codeAny_builtin F.entry_tuple_new ?_⟩))
  rw [(Around.under_plainId F.plain_tuple_new _)]
  have e1 := sub_tuple_self
  have e2 := init_tuple_lookup
  have e3 := madeHere_tuple
  have hh1 : A.in1.handled = none := hh
  wp_walk using wpAny_typeOf hT, coll_dct (A := A.in1) lo hh1 hat hn
  intro h' tk acc hk hacc
  show wpAny _ _ (Builtin.Tuple.tupleExact acc.toList.toArray >>= fun v => ret v) _ _ _
  unfold Builtin.Tuple.tupleExact
  have ea : acc.toList.toArray = acc := by simp
  refine wpAny_bind <| wpAny_newObj_type ?_ (by show acc.toList.toArray.size ≤ sizeLine; rw [ea, hacc.1]; exact hn)
  refine wpAny_pure ?_
  rw [ea]
  exact h h' tk acc hk hacc
theorem call_tup_dct {Q : Value → Shared → Prop} (lo : (d == sysModules) = false) (hT : s.TypeIs (.ref d) "dict") (hh : A.handled = none) (hat : s.heap.DictAt (mixKind prog w) d kvs ep) (hn : kvs.length ≤ sizeLine)
    (hQ : ∀ (h' : Heap) (tk : Nat) (acc : Array Value), (∀ b o, s.heap.get? b = some o → h'.get? b = some o) → ItemsOf (fun i v => ∃ k x, kvs[i]? = some (k, x) ∧ (mixKind prog w).is k v = true) acc kvs.length →
      Q (.ref h'.objs.size) { s with heap := h'.push { cls := .type "tuple", data := .seq acc }, toks := tk }) :
    wpAny (model prog w) A (call (.type "tuple") [.ref d]) Q E s := by
  refine callType_codes (Q₁ := fun obj s₁ => s₁.TypeIs obj "tuple" ∧ Q obj s₁) F.called_tuple (F.typeCall_tuple_1 _) F.entry_object_init
    (code_tup_dct (A := A.in1) lo hT hh hat hn fun h' tk acc hk hacc => ⟨⟨_, Heap.get?_push_size _ rfl, rfl⟩, hQ h' tk acc hk hacc⟩) fun obj s₁ h₁ => ?_
  exact ⟨h₁.1, F.args_object_init_2 obj _, object_init_meets F.called_tuple.init.lookup F.called_tuple.made (by decide) prog w A.in1 _ s₁ ⟨h₁.1, rfl, h₁.2⟩⟩
end
/-- the keys of a dict, a dict of the run or a locked one -/
def rTupD : List V → Hp → VK → Prop := fun xs H Q => ∃ p kvs, xs = [.ref p] ∧ Rd H p (.dK kvs) ∧ ∀ q, H q = none → Q (.ref q) (upd H q (.tup (kvs.map fun kv => kV kv.1)))
theorem call_tup_dK {X : Cx} (hc : X.calm = true) : CallR X (.type "tuple") rTupD := by
  intro pins s σ H xs us Q I r h
  obtain ⟨p, kvs, rfl, hk, q⟩ := h
  obtain ⟨u, rfl, ru⟩ := vals1 r
  obtain rfl : u = Value.ref p := ru
  obtain ⟨z, lo, vs, rk, hd⟩ := (show ObjOk X.prog X.w H s.heap p (.dK kvs) from hk.ok I.hok)
  obtain ⟨ep, hat⟩ := hd.dictAt
  have hl : kvs.length = vs.length := Paired.length rk
  obtain ⟨ob, es, ho, hex, _⟩ := id hat
  refine call_tup_dct lo ⟨ob, ho, hex.1⟩ (I.ok.hd hc) hat (by rw [← hl]; exact z) fun h' tk acc hkeep hacc => ?_
  have I1 : Inv X pins σ H { s with heap := h', toks := tk } := I.kept hkeep
  refine ⟨.ref h'.objs.size, _, I1.laid (t' := tk) (fun b o e => Heap.get?_push_of_some _ e) (Nat.le_refl _) (show ObjOk X.prog X.w _ _ _ (.tup (kvs.map fun kv => kV kv.1)) from ⟨?_, acc.toList, ?_, ?_⟩), rfl, q _ (I1.hok.fresh (Nat.le_refl _))⟩
  · rw [List.length_map]; exact z
  · have el : acc.toList.length = acc.size := by simp
    refine vals_of_at (by rw [List.length_map, el, hacc.1, hl]) fun j x w h1 h2 => ?_
    obtain ⟨k, y, hky, hi⟩ := hacc.2 j w (by rw [← Array.getElem?_toList]; exact h2)
    have e1 : (kvs.map (·.1))[j]? = some k := by
      rw [KV.keys rk, List.getElem?_map, hky]
      rfl
    have e2 : (kvs.map fun kv => kV kv.1)[j]? = some (kV k) := by
      have e3 : (kvs.map fun kv => kV kv.1) = (kvs.map (·.1)).map kV := by rw [List.map_map]; rfl
      rw [e3, List.getElem?_map, e1]
      rfl
    rw [e2] at h1
    cases h1
    exact keyIs_rel hi
  · have ea : acc.toList.toArray = acc := by simp
    rw [ea]
    exact IsTup.new _ _
variable [LamT]
theorem snd_tdc {B : BP} {X : Cx} {C : Cl} {ES : XS} {a : Expr} {ia : IE} {p pos : Pos} (hc : X.calm = true) (hg : Gl X "tuple") (hm : X.mg "tuple" = none) (hn : noStar a = true) (ha : PA X [a] (liftA B X.K 1 (wpEs C ES (.cons ia .nil)))) : PE X (.Call (.Name "tuple" p) [a] [] pos) (liftE B X.K (wpE C ES (.tdc ia))) := by
  refine snd_d1 (es := []) (P := fun d st1 R => dctA d st1 fun t kvs => t = false ∧ R (.tup (keysD t kvs)) st1) (pe_callTy (call_tup_dK hc) hg hm (by decide +kernel) ha (by decide) (by decide) (star_cons hn) (by rfl)) (fun s st R h => by simpa only [wpE] using h) ?_
  intro hs d st H Q R v h so r q
  obtain ⟨a, t, kvs, xs, rfl, ⟨rfl, h⟩, rd, hk, rr, hz⟩ := dctA_ok so h r
  have hl := rr.length
  rw [List.length_map] at hl
  refine ⟨a, _, rfl, rd, fun p hp => ?_⟩
  have e1 : ((((kvs.map (·.1)).map k1).zip xs).map fun kv => kV kv.1) = ((kvs.map (·.1)).map k1).map kV := by
    rw [show (fun kv : Key × V => kV kv.1) = kV ∘ Prod.fst from rfl, ← List.map_map, List.map_fst_zip (by simp only [List.length_map]; omega)]
  have e2 : keysD false kvs = ((kvs.map (·.1)).map k1).map kD := by
    rw [List.map_map, List.map_map]
    rfl
  rw [e1]
  rw [e2] at h
  exact q _ _ _ _ h (.new hp) (.tup upd_same ((rep_keys _).mono (.new hp)) (by simp only [List.length_map]; exact hz)) (so.new hp)
end Fy

/-! sorted(d): the keys of a dict whose keys are pairs of ints -/
namespace Fy
open PySem PySem.Spec PyProof.Rows L2 SrtO
section
variable {prog : Program} {w : World} {A : Around} {E : Value → Shared → Prop} {s : Shared} {d : Addr} {n : Nat} {P : Nat → Value → Prop} {OK : Heap → Prop}
theorem coll_src {Q : List Value → Shared → Prop} (KS : PySem.W.KdlSrc prog w "dict" d d n P OK) (hh : A.handled = none) (hat : OK s.heap) (hn : n ≤ sizeLine)
    (hQ : ∀ (h' : Heap) (tk : Nat) (acc : Array Value), (∀ b o, s.heap.get? b = some o → h'.get? b = some o) → ItemsOf P acc n → Q acc.toList { s with heap := h', toks := tk }) :
    wpAny (model prog w) A (collect (.ref d)) Q E s := by
  unfold collect
  refine wpAny_bind <| wpAny_runValue <| codeAny_builtin F.entry_proto_collect ?_
  rw [(Around.under_plainId F.plain_proto_collect _)]
  show wpAny _ A.in1 (newList [] >>= fun y => again (.builtin "list.__iadd__" ⟨[y, .ref d], []⟩)) _ _ s
  refine wpAny_bind <| wpAny_newObj_type ?_
  refine wpAny_pure ⟨plainId_quiet F.plain_list_iadd _, codeAny_builtin F.entry_list_iadd ?_⟩
  rw [(Around.under_plainId F.plain_list_iadd _)]
  show wpAny _ A.in1 (Builtin.List.listExtendWith (.ref s.heap.objs.size) (.ref d) (.ref s.heap.objs.size)) _ _ _
  have hS : (s.heap.push { cls := .type "list", data := .seq ([] : List Value).toArray }).get? s.heap.objs.size = some { cls := .type "list", data := .seq #[] 0 } := Heap.get?_push_size _ rfl
  have hd : s.heap.objs.size ≠ d := Nat.ne_of_gt (KS.there _ hat).1
  have hok : OK (s.heap.push { cls := .type "list", data := .seq ([] : List Value).toArray }) := KS.keep _ _ hat fun b _ o e => Heap.get?_push_of_some _ e
  refine wpAny_mono (PySem.W.kdl_extend (A := A) (s := { s with heap := s.heap.push { cls := .type "list", data := .seq ([] : List Value).toArray } }) (R := fun rr s2 => rr = .ok (.ret (.ref s.heap.objs.size)) ∧ ∃ (h' : Heap) (tk : Nat) (acc : Array Value) (c2 : Nat), s2 = { s with heap := h', toks := tk } ∧
      (∀ b o, s.heap.get? b = some o → h'.get? b = some o) ∧ h'.get? s.heap.objs.size = some { cls := .type "list", dict := none, data := .seq acc c2, slots := #[] } ∧ ItemsOf P acc n)
    KS hh hok s.heap.objs.size hd hd (.ref s.heap.objs.size) 0 hS
    (fun h' tk acc c2 hk e hi => ⟨rfl, h', tk, acc, c2, rfl, fun b o q => hk b o (Nat.ne_of_lt (Heap.lt_size q)) (Heap.get?_push_of_some _ q), e, hi⟩) hn) (fun fin s' h => ?_) (fun e s' h => ?_)
  · cases fin with
    | done f =>
      obtain ⟨z, h', tk, acc, c2, rfl, hk, h2, hi⟩ := h
      cases z
      show wpAny _ A (load s.heap.objs.size >>= _) _ _ _
      exact wpAny_bind <| wpAny_load h2 (wpAny_pure (hQ h' tk acc hk hi))
    | again c =>
      refine ⟨h.1, codeAny_mono h.2 fun rr s3 y => ?_⟩
      obtain ⟨rfl, h', tk, acc, c2, rfl, hk, h2, hi⟩ := y
      show wpAny _ A (load s.heap.objs.size >>= _) _ _ _
      exact wpAny_bind <| wpAny_load h2 (wpAny_pure (hQ h' tk acc hk hi))
  · exact absurd h.1 (by simp)
theorem sorted_src {ltv : Value → Value → Bool} {Q : Value → Shared → Prop} (O : Swo ltv) (KS : PySem.W.KdlSrc prog w "dict" d d n P OK) (hh : A.handled = none) (hat : OK s.heap) (hn : n ≤ sizeLine)
    (hS : ∀ vs : List Value, ItemsOf P vs.toArray n → 2 ≤ vs.length → ∀ (h₁ : Heap) (tk : Nat) (a : Addr), h₁.get? a = some (seqObj "list" vs.toArray 0) → (∀ b o, s.heap.get? b = some o → b ≠ a ∧ h₁.get? b = some o) → SortableO prog w A.in1.in1 { s with heap := h₁, toks := tk } a vs ltv)
    (h : ∀ (vs out : List Value) (h₁ h₂ : Heap) (tk : Nat) (e : Nat), ItemsOf P vs.toArray n → Srtd ltv out → Stb ltv out vs → (∀ b o, s.heap.get? b = some o → h₁.get? b = some o) → (∀ b o, h₁.get? b = some o → h₂.get? b = some o) → h₂.get? h₁.objs.size = some (seqObj "list" out.toArray e) → Q (.ref h₁.objs.size) { s with heap := h₂, toks := tk }) :
    wpAny (model prog w) A (call (.builtin "sorted") [.ref d]) Q E s := by
  refine Calls.call_function_entry kind_sorted plain_sorted entry_sorted (args_sorted1 _) ?_
  unfold Builtin.«sorted»
  refine wpAny_bind (m := checkCount "sorted" 1 1 _) <| wpAny_pure ?_
  refine wpAny_bind (coll_src (A := A.in1) KS hh hat hn fun h' tk acc hk hi => ?_)
  have ea : acc.toList.toArray = acc := by simp
  have hz : acc.toList.length ≤ sizeLine := by
    rw [show acc.toList.length = acc.size by simp, hi.1]
    exact hn
  refine wpAny_bind (wpAny_newList (hsz := hz) ?_)
  have at2 : (h'.push (seqObj "list" acc.toList.toArray 0)).get? h'.objs.size = some (seqObj "list" acc.toList.toArray 0) := Heap.get?_push_size _ rfl
  have hi2 : ItemsOf P acc.toList.toArray n := by rw [ea]; exact hi
  have keep : ∀ b o, h'.get? b = some o → b ≠ h'.objs.size ∧ (h'.push (seqObj "list" acc.toList.toArray 0)).get? b = some o := fun b o q => ⟨Nat.ne_of_lt (Heap.lt_size q), Heap.get?_push_of_some _ q⟩
  show wpAny _ _ _ _ _ { s with heap := h'.push (seqObj "list" acc.toList.toArray 0), toks := tk }
  refine wpAny_bind (wpAny_holding (wpAny_call_entry slot_list_sort ⟨_, at2, rfl⟩ entry_list_sort (list_sort_ord O at2 hz (fun q => hS _ hi2 q _ _ _ at2 fun b o e => keep b o (hk b o e)) fun out a b => ⟨_, rfl, ?_⟩) (args_list_sort _)))
  obtain ⟨e, e1⟩ := sortedHeap_at (out := out.toArray) at2
  refine wpAny_pure ⟨_, rfl, h acc.toList out h' _ tk e hi2 a b hk (fun b o q => ?_) e1⟩
  have lt : b < h'.objs.size := Heap.lt_size q
  rw [sortedHeap_old (Nat.ne_of_lt lt) (by have := Heap.lt_size (keep b o q).2; exact this)]
  exact (keep b o q).2
end
/-- sorted(a dict whose keys are pairs of ints) -/
def rSrtDP : List V → Hp → VK → Prop := fun vs H Q => ∃ (a : Addr) (kvs : List (List Key × V)) (ps : List (Int × Int)), vs = [V.ref a] ∧ Rd H a (.dT kvs) ∧ kvs.map (·.1) = ps.map (fun p => [.inl p.1, .inl p.2]) ∧
  ∀ (ys : List V) (k : V → Int × Int) (p : Addr), (∀ x ∈ ys, ∃ t, x = V.ref t ∧ H t = some (.tup [.int (k x).1, .int (k x).2])) → (ys.map k).Perm ps → Srtd (ltP k) ys → H p = none → Q (.ref p) (upd H p (.lst ys))
theorem kt_keys {H : Hp} {kvs : List (List Key × V)} {xs : List (List Key × Addr × Value)} (r : KT H kvs xs) : kvs.map (·.1) = xs.map (·.1) := by
  unfold KT at r
  induction r with
  | nil => rfl
  | cons h _ ih => rw [List.map_cons, List.map_cons, h.1, ih]
theorem kt_tup {H : Hp} {kvs : List (List Key × V)} {xs : List (List Key × Addr × Value)} (r : KT H kvs xs) : ∀ x ∈ xs, H x.2.1 = some (.tup (x.1.map kV)) := by
  unfold KT at r
  induction r with
  | nil => exact fun x z => nomatch z
  | cons h _ ih =>
    intro x hx
    rcases List.mem_cons.mp hx with rfl | hx
    · rw [← h.1]; exact h.2.1
    · exact ih x hx
def pkH (H : Hp) : V → Int × Int
  | .ref t => match H t with
    | some (.tup [.int i, .int j]) => (i, j)
    | _ => (0, 0)
  | _ => (0, 0)
theorem pkH_at {H : Hp} {t : Addr} {i j : Int} (h : H t = some (.tup [.int i, .int j])) : pkH H (.ref t) = (i, j) := by
  simp only [pkH, h]
theorem cr_srtDP {X : Cx} (hc : X.calm = true) : CallR X (.builtin "sorted") rSrtDP := by
  intro pins s σ H vs us Q I r h
  obtain ⟨a, kvs, ps, rfl, hk, hp, q⟩ := h
  rw [Vals.ref1 r]
  obtain ⟨z, lo, xs, rk, hd⟩ := (show ObjOk X.prog X.w H s.heap a (.dT kvs) from hk.ok I.hok)
  obtain ⟨ob, es, ep, ho, hex, hdat, hes, hrest⟩ := hd
  have KS := L2.kdl_raw (prog := X.prog) (w := X.w) (d := a) lo hex hdat
  have hl : kvs.length = xs.length := Paired.length rk
  have el : es.size = xs.length := by
    have := congrArg List.length hes
    simpa using this
  have hpx : xs.map (·.1) = ps.map (fun p => [.inl p.1, .inl p.2]) := (kt_keys rk).symm.trans hp
  have hb : ∀ x ∈ xs, ∃ i j, x.1 = [.inl i, .inl j] ∧ H x.2.1 = some (.tup [.int i, .int j]) := fun x hx => by
    have h1 := kt_tup rk x hx
    have h2 : x.1 ∈ xs.map (·.1) := List.mem_map.mpr ⟨x, hx, rfl⟩
    rw [hpx] at h2
    obtain ⟨p, _, e⟩ := List.mem_map.mp h2
    refine ⟨p.1, p.2, e.symm, ?_⟩
    rw [← e] at h1
    exact h1
  have hvs : ∀ vs : List Value, ItemsOf (fun i v => ∃ en, es[i]? = some en ∧ v = en.key) vs.toArray es.size → vs = xs.map fun x => Value.ref x.2.1 := fun vs hi => by
    refine List.ext_getElem? fun i => ?_
    have hsz : vs.length = xs.length := by
      have := hi.1
      rw [← el]
      simpa using this
    by_cases c : i < xs.length
    · have hv : vs[i]? = some vs[i] := List.getElem?_eq_getElem (by omega)
      obtain ⟨en, h1, h2⟩ := hi.2 i vs[i] (by rw [← Array.getElem?_toList]; exact hv)
      have h3 : es.toList[i]? = some en := by rw [Array.getElem?_toList]; exact h1
      rw [hes, List.getElem?_map, List.getElem?_eq_getElem c] at h3
      have h3 : en = _ := (Option.some.inj h3).symm
      rw [hv, List.getElem?_map, List.getElem?_eq_getElem c, h2, h3]
      rfl
    · rw [List.getElem?_eq_none (by omega), List.getElem?_eq_none (by rw [List.length_map]; omega)]
  have hpr : ∀ vs : List Value, vs = (xs.map fun x => Value.ref x.2.1) → ∀ v ∈ vs, ∃ t, v = Value.ref t ∧ H t = some (.tup [.int (pkH H (backV v)).1, .int (pkH H (backV v)).2]) := fun vs e v hv => by
    rw [e] at hv
    obtain ⟨x, hx, rfl⟩ := List.mem_map.mp hv
    obtain ⟨i, j, _, h2⟩ := hb x hx
    refine ⟨x.2.1, rfl, ?_⟩
    have : pkH H (backV (Value.ref x.2.1)) = (i, j) := pkH_at h2
    rw [this]
    exact h2
  have hip : ∀ vs : List Value, vs = (xs.map fun x => Value.ref x.2.1) → ∀ v ∈ vs, Srt.IsPair s.heap v (pkH H (backV v)).1 (pkH H (backV v)).2 := fun vs e v hv => by
    obtain ⟨t, rfl, ht⟩ := hpr vs e v hv
    obtain ⟨_, its2, r2, o2, ho2, hc2, n2, hd2⟩ := I.hok _ _ ht
    obtain ⟨u1, u2, rfl, ⟨t1, rfl⟩, ⟨t2, rfl⟩⟩ := vals2 r2
    exact ⟨t, o2, t1, t2, n2, rfl, ho2, hc2, hd2⟩
  refine sorted_src (swo_lex fun v => pkH H (backV v)) KS (I.ok.hd hc) ho (by rw [el, ← hl]; exact z) (fun vs hi q1 h₁ tk b hb2 kk => ?_) fun vs out h₁ h₂ tk e hi h1 h2 k1 k2 at2 => ?_
  · refine pairs_sortableO (s := { s with heap := h₁, toks := tk }) (by omega) (fun v hm => (hip vs (hvs vs hi) v hm).keeps fun b o e _ => (kk b o e).2) fun o e => ?_
    cases (show some o = some (seqObj "list" vs.toArray 0) from e.symm.trans hb2)
    exact fun c => absurd (Value.type.inj c) (by decide)
  · have ev := hvs vs hi
    have hv3 : ∀ u ∈ out, ∃ t, u = Value.ref t ∧ H t = some (.tup [.int (pkH H (backV u)).1, .int (pkH H (backV u)).2]) := fun u hu => hpr vs ev u (h2.perm.mem_iff.mp hu)
    have I1 : Inv X pins σ H { s with heap := h₁, toks := tk } := I.kept k1
    have hlo : out.length = kvs.length := by
      rw [h2.perm.length_eq, ev, List.length_map, hl]
    refine ⟨.ref _, upd H h₁.objs.size (.lst (out.map backV)), I1.laid (t' := tk) k2 (Nat.le_refl _) ⟨by rw [List.length_map, hlo]; exact z, out, e, vals_back fun u hu => (hv3 u hu).imp fun t y => y.1, at2⟩, rfl, q _ (pkH H) _ (fun x hx => ?_) ?_ (srtd_map h1) (I1.hok.fresh (Nat.le_refl _))⟩
    · obtain ⟨u, hu, rfl⟩ := List.mem_map.mp hx
      obtain ⟨t, rfl, ht⟩ := hv3 u hu
      exact ⟨t, rfl, ht⟩
    · rw [List.map_map]
      have p1 := h2.perm.map (pkH H ∘ backV)
      refine p1.trans ?_
      have e2 : vs.map (pkH H ∘ backV) = ps := by
        rw [ev, List.map_map]
        have e3 : ∀ (xs : List (List Key × Addr × Value)) (ps : List (Int × Int)), xs.map (·.1) = ps.map (fun p => [.inl p.1, .inl p.2]) → (∀ x ∈ xs, ∃ i j, x.1 = [.inl i, .inl j] ∧ H x.2.1 = some (.tup [.int i, .int j])) → xs.map ((pkH H ∘ backV) ∘ fun x => Value.ref x.2.1) = ps := by
          intro xs
          induction xs with
          | nil =>
            intro ps e _
            cases ps
            · rfl
            · cases e
          | cons x xs ih =>
            intro ps e hb
            cases ps with
            | nil => cases e
            | cons p ps =>
              rw [List.map_cons, List.map_cons] at e
              injection e with e1 e2
              obtain ⟨i, j, h1, h2⟩ := hb x List.mem_cons_self
              rw [h1] at e1
              injection e1 with e3 e4
              injection e4 with e4 _
              injection e3 with e3
              injection e4 with e4
              rw [List.map_cons, ih ps e2 fun y hy => hb y (List.mem_cons_of_mem _ hy)]
              have : ((pkH H ∘ backV) ∘ fun x : List Key × Addr × Value => Value.ref x.2.1) x = (i, j) := pkH_at h2
              rw [this, e3, e4]
        exact e3 xs ps hpx hb
      rw [e2]
theorem dp_reps {K : KH} {st : Sto} {H : Hp} {k : V → Int × Int} : ∀ {ys : List V}, (∀ x ∈ ys, ∃ t, x = V.ref t ∧ H t = some (.tup [.int (k x).1, .int (k x).2])) → Reps K st H ys ((ys.map k).map prD)
  | [], _ => .nil
  | y :: ys, h => by
    obtain ⟨t, e, ht⟩ := h y List.mem_cons_self
    refine .cons ?_ (dp_reps fun x hx => h x (List.mem_cons_of_mem _ hx))
    have : Rep K st H (.ref t) (prD (k y)) := .tup ht (.cons (.int _) (.cons (.int _) .nil)) (show 2 ≤ sizeLine by decide)
    rw [e] at this ⊢
    exact this
variable [LamT]
theorem snd_dkp {B : BP} {X : Cx} {C : Cl} {ES : XS} {a : Expr} {ia : IE} {z : Bool} {p pos : Pos} (hc : X.calm = true) (hg : Gl X "sorted") (hm : X.mg "sorted" = none) (hn : noStar a = true) (ha : PA X [a] (liftA B X.K 1 (wpEs C ES (.cons ia .nil)))) : PE X (.Call (.Name "sorted" p) [a] [] pos) (liftE B X.K (wpE C ES (.dkp z ia))) := by
  refine snd_d1 (es := []) (P := fun d st1 R => dctA d st1 fun t kvs => ∃ ps : List (Int × Int), t = true ∧ kvs.map (·.1) = ps.map (fun p => [.inl p.1, .inl p.2]) ∧ ∀ qs : List (Int × Int), qs.Perm ps → qs.Pairwise (fun a b => SrtO.lexB b a = false) → newL z (qs.map prD) st1 R) (pe_callB (cr_srtDP hc) hg hm (by decide +kernel) ha (by decide) (by decide) (star_cons hn) (by rfl)) (fun s st R h => by simpa only [wpE] using h) ?_
  intro hs d st H Q R v h so r q
  obtain ⟨a, t, kvs, xs, rfl, ⟨ps, rfl, he, h⟩, rd, hk, rr, hz⟩ := dctA_ok so h r
  have hl := rr.length
  rw [List.length_map] at hl
  refine ⟨a, _, ps, rfl, rd, ?_, fun ys k p hy pm hs2 hp => ?_⟩
  · rw [List.map_fst_zip (by simp only [List.length_map]; omega)]
    exact he
  · have hyl : ys.length ≤ sizeLine := by
      have e1 := pm.length_eq
      have e2 := congrArg List.length he
      rw [List.length_map] at e1
      rw [List.length_map, List.length_map] at e2
      omega
    exact newL_ok (h (ys.map k) pm (by rw [List.pairwise_map]; exact hs2)) so (dp_reps hy) (by rw [List.length_map, List.length_map]; exact hyl) q p hp
end Fy

namespace Fy
open PySem PySem.Spec PyProof.Rows L2
variable [LamT]

/-- an own class of errors: its name, the field of its own __init__, its number and those of the classes above it -/
structure XC where
  name : Str
  fld : Option Str
  up : List Nat
  isx : Bool
/-- a def that calls what it is handed: its name, its parameter, its names by slot, its text; what it does -/
structure TH where
  name : Str
  a : Str
  N : List Str
  st : Stmt
  m : TM
  hs : List HC
/-- what the look knows: the defs of the top (name, number of parameters), the names by slot, the scope, whether every name may be stored -/
structure Ck where
  defs : List (Str × Nat)
  N : List Str
  sc : Scope
  all : Str → Bool
  gen : Bool
  cs : List (Str × KC)
  hot : Bool
  fr : Bool
  xs : List XC
  lam : Bool
  ths : List TH
  lps : List (Nat × Nat)
  /-- may a generator expression stand in one? are we in one? -/
  ng : Bool
  ig : Bool
def visB (sc : Scope) (x : Str) : Bool := match sc.names.lookup x with
  | some .local => true
  | some .cell => true
  | some .free => true
  | _ => false
def glB (sc : Scope) (x : Str) : Bool := match sc.names.lookup x with
  | some .globalImplicit => true
  | _ => false
def stoB (k : Ck) (x : Str) : Bool := match k.sc.names.lookup x with
  | some .local => true
  | some .cell => k.all x
  | _ => false
def okName (x : Str) : Bool := !(x == ("__debug__" : Str)) && !(x == ("__classdict__" : Str))
def biName : Bi → Str
  | .abs => "abs" | .len => "len" | .int => "int" | .max => "max" | .min => "min" | .isi => "isinstance" | .tuple => "tuple" | .list _ => "list" | .sorted _ => "sorted" | .sum => "sum" | .srd _ => "sorted" | .best mx => if mx = true then "max" else "min"
def gmName : GM → Str
  | .all => "all" | .any => "any" | .sum => "sum"
def bltNames : List Str := ["abs", "len", "int", "max", "min", "range", "all", "any", "sum", "isinstance", "tuple", "list", "sorted", "bool", "str", "dict", "enumerate", "zip", "super", "reversed", "ValueError"]
def tyNames : List String := ["int", "bool", "str", "tuple", "list", "dict"]
def notSet : Expr → Bool
  | .Set _ _ _ => false
  | _ => true
def mtName : Mt → Str
  | .append => "append" | .insert => "insert" | .extend => "extend" | .pop => "pop" | .remove => "remove"
def notBest : Bi → Bool
  | .best _ => false
  | _ => true
def attB : Expr → Bool
  | .Name _ _ => true
  | .Call _ (_ :: _) _ _ => true
  | .Constant _ _ _ => true
  | .Subscript _ _ _ => true
  | _ => false
def notList : Expr → Bool
  | .List _ _ => false
  | _ => true
def gscB (N : List Str) (sc scope : Scope) (own : List (Str × Nat)) : Bool := blkC N sc scope own && !scope.isCoroutine && scope.names.all (fun y => match y.2 with | .cell => false | _ => true) && decide (scope.names.lookup (".0" : Str) = some NameKind.local)
def scB (N ps : List Str) (sc : Scope) : Bool :=
  (match sc.kind with | .function => true | _ => false) && !sc.isCoroutine && !sc.isGenerator && decide N.Nodup && decide (N.take ps.length = ps) &&
    ps.all (fun x => decide (sc.names.lookup x = some .local) || decide (sc.names.lookup x = some .cell)) && sc.names.all fun y => match y.2 with | .free => false | _ => true
theorem scB_ok {N ps : List Str} {sc : Scope} (h : scB N ps sc = true) : FnScope N ps sc := by
  simp only [scB, Bool.and_eq_true, Bool.not_eq_true', decide_eq_true_eq, List.all_eq_true, Bool.or_eq_true] at h
  obtain ⟨⟨⟨⟨⟨⟨h1, h2⟩, h3⟩, h4⟩, h5⟩, h6⟩, h7⟩ := h
  refine ⟨?_, h2, h3, h4, h5, h6, fun y hy e => ?_⟩
  · revert h1
    cases sc.kind <;> intro h1 <;> first | rfl | cases h1
  · have := h7 y hy
    rw [e] at this
    cases this
/-- since the start -/
def BFrom (T : Addr → Prop) (K : PySem.W.Frag) (hs : Addr → Prop) (st : Sto) (H : Hp) (hT : ∀ P, T P → Tb H P) : BP := ⟨fun K2 st2 H2 => K2 = ⟨K, hs⟩ ∧ Step ⟨K, hs⟩ st H st2 H2, fun h t => ⟨h.1, by
  obtain ⟨rfl, h⟩ := h
  exact h.trans t⟩, T, fun h P hP => h.2.tab P (hT P hP)⟩
def emptyA : Arguments → Bool
  | ⟨[], [], none, [], [], none, []⟩ => true
  | _ => false
def oneA (ps : Arguments) (x : Str) : Bool := match ps with
  | ⟨[], [a], none, [], [], none, []⟩ => decide (a.arg = x)
  | _ => false
/-- may e be read, and is f the field of class c, which alone is taken? -/
def xfoB (xs : List XC) (sc : Scope) (h : HC) (n : Option Str) (e f : Str) : Bool := decide (n = some e) && visB sc e && okName e && decide (h.cs = [h.c]) && decide ((xs[h.c]?).bind (·.fld) = some f)
def txB (xs : List XC) (sc : Scope) (h : HC) (n : Option Str) (su : List Stmt) : Bool := match h.x, su with
  | .cst v, [.Return (some e) _] => tcB v e
  | .fld f, [.Return (some (.Attribute (.Name e _) f2 _)) _] => decide (f2 = f) && xfoB xs sc h n e f
  | .prF t f, [.Return (some (.Tuple [.Constant (.str t2) _ _, .Attribute (.Name e _) f2 _] _ _)) _] => decide (t2 = t) && decide (f2 = f) && xfoB xs sc h n e f
  | .isx g v, [.If (.BoolOp .And [.Call (.Name b1 _) [.Name e1 _, .Name x1 _] [] _, .Call (.Name b2 _) [.Name e2 _, .Name x2 _] [] _] _) [.Return (some e) _] [] _] =>
    decide (b1 = "isinstance") && decide (b2 = "isinstance") && glB sc "isinstance" && decide (e2 = e1) && decide (n = some e1) && visB sc e1 && okName e1 && decide ((xs[g]?).map (·.name) = some x1) && glB sc x1 && okName x1 && decide (x2 = "ValueError") && glB sc "ValueError" && decide (h.cs = [h.c]) && (xs[h.c]?).any (fun y => y.isx && y.up.contains g) && tcB v e
  | _, _ => false
def hdB (N : List Str) (xs : List XC) (sc : Scope) : List ExceptHandler → List HC → Bool
  | [], [] => true
  | .ExceptHandler (some (.Name x _)) n (b0 :: su) _ :: hds, h :: l => decide ((xs[h.c]?).map (·.name) = some x) && glB sc x && okName x && (match n, h.i with
    | none, none => true
    | some n, some i => decide (N[i]? = some n) && decide (sc.names.lookup n = some .local)
    | _, _ => false) && txB xs sc h n (b0 :: su) && ((List.range xs.length).all fun n => (xs[n]?).any fun y => y.up.contains h.c == h.cs.contains n) && hdB N xs sc hds l
  | _, _ => false
def thB (xs : List XC) (th : TH) : Bool := scB th.N [th.a] (defScope th.st) && okName th.a && (match th.m, defBody th.st with
  | .ret, [.Try [.Return (some (.Call (.Name a _) [] [] _)) _] (h0 :: hds) [] [] _] => decide (a = th.a) && hdB th.N xs (defScope th.st) (h0 :: hds) th.hs
  | .tell t, [.Try [.Return (some (.Tuple [.Constant (.str t2) _ _, .Call (.Name a _) [] [] _] _ _)) _] (h0 :: hds) [] [] _] => decide (a = th.a) && decide (t2 = t) && hdB th.N xs (defScope th.st) (h0 :: hds) th.hs
  | .drop fb, [.Try [.Expr (.Call (.Name a _) [] [] _) _] (h0 :: hds) [] [] _, .Return (some e) _] => decide (a = th.a) && tcB fb e && hdB th.N xs (defScope th.st) (h0 :: hds) th.hs
  | _, _ => false)
def noComp : Expr → Bool
  | .ListComp _ _ _ _ => false
  | .SetComp _ _ _ _ => false
  | .DictComp _ _ _ _ _ => false
  | _ => true
def ownOf (N : List Str) (own : List Nat) : List (Str × Nat) := own.map fun i => (N.getD i "", i)
def bopB (o : BOp) (op : Operator) : Bool := match o, op with
  | .add, .Add => true | .sub, .Sub => true | .mul, .Mult => true | .fdiv, .FloorDiv => true | .mod, .Mod => true | .pow, .Pow => true
  | _, _ => false
def copB (o : COp) (op : CmpOp) : Bool := match o, op with
  | .eq, .Eq => true | .ne, .NotEq => true | .lt, .Lt => true | .le, .LtE => true | .gt, .Gt => true | .ge, .GtE => true | .is, .Is => true | .isnot, .IsNot => true | .isin, .In => true | .notin, .NotIn => true
  | _, _ => false
theorem bopB_eq {o : BOp} {op : Operator} (h : bopB o op = true) : op = bopOf o := by
  cases o <;> cases op <;> first | rfl | cases h
theorem copB_eq {o : COp} {op : CmpOp} (h : copB o op = true) : op = copOf o := by
  cases o <;> cases op <;> first | rfl | cases h
theorem attB_base {o : Expr} {m : Str} {env : Env} {w : Sem Value} (h : attB o = true) : attributeBase o m env w = w := by
  unfold attB at h
  split at h
  · rfl
  · rename_i f y ys kw q
    cases f <;> rfl
  · rfl
  · rfl
  · cases h
theorem m1_ok {X : Cx} {o e : Expr} {m : Str} {apos cpos : Pos} (h : attB o = true) (hl : (apos.endLine == cpos.line) = true) (he : noStar e = true) : M1 X o m apos e cpos := by
  refine ⟨?_, ?_, hl, ?_⟩
  · exact attB_base h
  · rw [star_cons he]
    rfl
  · rw [star_cons he]
    rfl
theorem m2_ok {X : Cx} {o e f : Expr} {m : Str} {apos cpos : Pos} (h : attB o = true) (hl : (apos.endLine == cpos.line) = true) (he : noStar e = true) (hf : noStar f = true) : M2 X o m apos e f cpos := by
  refine ⟨?_, ?_, hl, ?_⟩
  · exact attB_base h
  · rw [star_cons he, star_cons hf]
    rfl
  · rw [star_cons he, star_cons hf]
    rfl
mutual
def chkG : Tg → Ck → Expr → Bool
  | .nm i, k, e => match e with
    | .Name x _ => decide (k.N[i]? = some x) && stoB k x
    | _ => false
  | .tp ts, k, e => match e with
    | .Tuple es _ _ => decide (ts.len = es.length) && chkGs ts k es && !k.hot
    | _ => false
def chkGs : Tgs → Ck → List Expr → Bool
  | .nil, _, es => es.isEmpty
  | .cons t r, k, es => match es with
    | e :: es => noStar e && chkG t k e && chkGs r k es
    | [] => false
end
mutual
def chkE : IE → Ck → Expr → Bool
  | .var i, k, e => match e with
    | .Name x _ => decide (k.N[i]? = some x) && visB k.sc x && okName x
    | _ => false
  | .cint j, _, e => match e with
    | .Constant (.int i) _ _ => decide (i = j)
    | _ => false
  | .cbl j, _, e => match e with
    | .Constant (.bool i) _ _ => decide (i = j)
    | _ => false
  | .cnon, _, e => match e with
    | .Constant .none _ _ => true
    | _ => false
  | .cstr j, _, e => match e with
    | .Constant (.str i) _ _ => decide (i = j)
    | _ => false
  | .con c, k, e => match e with
    | .Name x _ => decide (k.cs.lookup x = some c) && glB k.sc x && okName x
    | _ => false
  | .cty n, k, e => match e with
    | .Name x _ => decide (x = Str.ofString n) && tyNames.contains n && glB k.sc x
    | _ => false
  | .nope, _, _ => true
  | .bin o a b, k, e => match e with
    | .BinOp l op r _ => bopB o op && chkE a k l && chkE b k r
    | _ => false
  | .neg a, k, e => match e with
    | .UnaryOp .USub x _ => chkE a k x
    | _ => false
  | .cmp o a b, k, e => match e with
    | .Compare l [op] [r] _ => copB o op && !behindInMarks op r && chkE a k l && chkE b k r
    | _ => false
  | .cmp2 o o2 a b c, k, e => match e with
    | .Compare l [op, op2] [r, t] _ => copB o op && copB o2 op2 && !lastMarks [op, op2] [r, t] && chkE a k l && chkE b k r && chkE c k t
    | _ => false
  | .and a b, k, e => match e with
    | .BoolOp .And [x, y] _ => chkE a k x && chkE b k y
    | .BoolOp .And (x :: y :: w :: r) p => chkE a k x && chkE b k (.BoolOp .And (y :: w :: r) p)
    | _ => false
  | .or a b, k, e => match e with
    | .BoolOp .Or [x, y] _ => chkE a k x && chkE b k y
    | .BoolOp .Or (x :: y :: w :: r) p => chkE a k x && chkE b k (.BoolOp .Or (y :: w :: r) p)
    | _ => false
  | .not a, k, e => match e with
    | .UnaryOp .Not x _ => chkE a k x
    | _ => false
  | .ife t a b, k, e => match e with
    | .IfExp x y z _ => tstB t x && chkE t k x && chkE a k y && chkE b k z
    | _ => false
  | .tup es, k, e => match e with
    | .Tuple xs _ _ => decide (es.len ≤ 1000) && chkEs es k xs
    | _ => false
  | .lst _ es, k, e => match e with
    | .List xs _ => decide (es.len ≤ 1000) && chkEs es k xs
    | _ => false
  | .frz a, k, e => chkE a k e
  | .call f es, k, e => match e with
    | .Call (.Name x _) (y :: ys) [] _ => decide (k.defs[f]? = some (x, es.len)) && glB k.sc x && okName x && chkEs es k (y :: ys) && !k.hot
    | _ => false
  | .bi f es, k, e => match e with
    | .Call (.Name x _) (y :: ys) [] _ => decide (x = biName f) && glB k.sc x && chkEs es k (y :: ys) && (!k.hot || (decide (f ≠ .max) && (decide (f ≠ .min) && (decide (f ≠ .sum) && notBest f))))
    | _ => false
  | .ix a b, k, e => match e with
    | .Subscript l r _ => noSlice r && chkE a k l && chkE b k r
    | _ => false
  | .sl _ a lo hi, k, e => match e with
    | .Subscript l (.Slice x y none _) _ => chkE a k l && chkO lo k x && chkO hi k y
    | _ => false
  | .lc own t it ts el, k, e => match e with
    | .ListComp elt [⟨tg, iter, ifs, 0⟩] scope _ => notSet iter && chkI it k tg iter && blkC k.N k.sc scope (ownOf k.N own) && t.slots.all (fun i => own.contains i) &&
        chkG t { k with sc := relS scope k.sc, all := fun x => scope.names.lookup x == some .cell, fr := false, lam := false, gen := k.gen && !k.ig, ng := k.ng && !k.ig } tg && chkTs ts { k with sc := relS scope k.sc, all := fun x => scope.names.lookup x == some .cell, fr := false, lam := false, gen := k.gen && !k.ig, ng := k.ng && !k.ig } ifs && chkE el { k with sc := relS scope k.sc, all := fun x => scope.names.lookup x == some .cell, fr := false, lam := false, gen := k.gen && !k.ig, ng := k.ng && !k.ig } elt && !k.hot
    | _ => false
  | .thk t m hs ie, k, e => match e with
    | .Call (.Name x _) [.Lambda ps body sc lpos] [] _ => k.lps.contains (lpos.line, lpos.col) && ((match k.ths[t]? with | some th => decide (th.name = x) && decide (th.m = m) && decide (th.hs = hs) | none => false) && glB k.sc x && okName x && k.lam && !k.hot && LamX.lamSB k.sc sc && emptyA ps && chkE ie { k with sc := sc, all := fun _ => false, gen := false, ng := false, fr := false, lam := false } body)
    | _ => false
  | .lc2 own vs1 t it ts t1 it1 ts1 el, k, e => match e with
    | .ListComp elt [⟨tg, iter, ifs, 0⟩, ⟨tg1, iter1, ifs1, 0⟩] scope _ => notSet iter && notSet iter1 && chkI it k tg iter && blkC k.N k.sc scope (ownOf k.N own) && t.slots.all (fun i => own.contains i) && t1.slots.all (fun i => vs1.contains i) && vs1.all (fun i => own.contains i) &&
        chkG t { k with sc := relS scope k.sc, all := fun x => scope.names.lookup x == some .cell, fr := false, lam := false, gen := k.gen && !k.ig, ng := k.ng && !k.ig } tg && chkTs ts { k with sc := relS scope k.sc, all := fun x => scope.names.lookup x == some .cell, fr := false, lam := false, gen := k.gen && !k.ig, ng := k.ng && !k.ig } ifs && chkG t1 { k with sc := relS scope k.sc, all := fun x => scope.names.lookup x == some .cell, fr := false, lam := false, gen := k.gen && !k.ig, ng := k.ng && !k.ig } tg1 && chkI it1 { k with sc := relS scope k.sc, all := fun x => scope.names.lookup x == some .cell, fr := false, lam := false, gen := k.gen && !k.ig, ng := k.ng && !k.ig } tg1 iter1 && chkTs ts1 { k with sc := relS scope k.sc, all := fun x => scope.names.lookup x == some .cell, fr := false, lam := false, gen := k.gen && !k.ig, ng := k.ng && !k.ig } ifs1 && chkE el { k with sc := relS scope k.sc, all := fun x => scope.names.lookup x == some .cell, fr := false, lam := false, gen := k.gen && !k.ig, ng := k.ng && !k.ig } elt && !k.hot
    | _ => false
  | .rp a b, k, e => match e with
    | .BinOp l .Mult r _ => chkE a k l && chkE b k r
    | _ => false
  | .rev _ a, k, e => match e with
    | .Subscript l (.Slice none none (some (.UnaryOp .USub (.Constant (.int i) _ _) _)) _) _ => decide (i = 1) && chkE a k l
    | _ => false
  | .lrg1 _ a, k, e => match e with
    | .Call (.Name x _) [.Call (.Name r _) [y] [] _] [] _ => decide (x = ("list" : Str)) && glB k.sc x && decide (r = ("range" : Str)) && glB k.sc r && noStar y && chkE a k y && !k.hot
    | _ => false
  | .lrg2 _ a b, k, e => match e with
    | .Call (.Name x _) [.Call (.Name r _) [y, w] [] _] [] _ => decide (x = ("list" : Str)) && glB k.sc x && decide (r = ("range" : Str)) && glB k.sc r && noStar y && noStar w && chkE a k y && chkE b k w && !k.hot
    | _ => false
  | .mt m o es, k, e => match e with
    | .Call (.Attribute x name apos) [] [] cpos => decide (name = ("pop" : Str)) && decide (m = .pop) && attB x && (apos.endLine == cpos.line) && decide (es.len = 0) && chkE o k x
    | .Call (.Attribute x name apos) (y :: ys) [] cpos => decide (name = mtName m) && decide (m ≠ .pop) && attB x && (apos.endLine == cpos.line) && decide (es.len ≤ 5) && chkE o k x && chkEs es k (y :: ys)
    | _ => false
  | .dnew _, _, e => match e with
    | .Dict [] [] _ => true
    | _ => false
  | .dg a b, k, e => match e with
    | .Subscript l r _ => noSlice r && chkE a k l && chkE b k r
    | _ => false
  | .din n a b, k, e => match e with
    | .Compare l [op] [r] _ => copB (if n then .notin else .isin) op && !behindInMarks op r && chkE a k l && chkE b k r
    | _ => false
  | .dgt a b c, k, e => match e with
    | .Call (.Attribute x name apos) [y, w] [] cpos => decide (name = ("get" : Str)) && attB x && (apos.endLine == cpos.line) && noStar y && noStar w && chkE a k x && chkE b k y && chkE c k w
    | _ => false
  | .dis _ es, k, e => match e with
    | .Dict keys vs _ => evenI es && decide (keys.length ≤ 15) && decide (keys.length = vs.length) && !keys.isEmpty && keys.all (·.isSome) && chkDs es k keys vs
    | _ => false
  | .fzd a, k, e => chkE a k e
  | .dln a, k, e => match e with
    | .Call (.Name x _) [y] [] _ => decide (x = ("len" : Str)) && glB k.sc x && noStar y && chkE a k y
    | _ => false
  | .deq n a b, k, e => match e with
    | .Compare l [op] [r] _ => copB (if n then .ne else .eq) op && !behindInMarks op r && chkE a k l && chkE b k r
    | _ => false
  | .dcp a, k, e => match e with
    | .Call (.Name x _) [y] [] _ => decide (x = ("dict" : Str)) && glB k.sc x && noStar y && chkE a k y
    | _ => false
  | .dpo a b, k, e => match e with
    | .Call (.Attribute x name apos) [y] [] cpos => decide (name = ("pop" : Str)) && attB x && (apos.endLine == cpos.line) && noStar y && chkE a k x && chkE b k y
    | _ => false
  | .dks _ a, k, e => match e with
    | .Call (.Name x _) [y] [] _ => decide (x = ("sorted" : Str)) && glB k.sc x && noStar y && chkE a k y && !k.hot
    | _ => false
  | .srk _ i it el, k, e => match e with
    | .Call (.Name x _) [y] [⟨some kw, .Lambda ps body sc lpos, _⟩] _ => k.lps.contains (lpos.line, lpos.col) && (decide (x = ("sorted" : Str)) && decide (kw = ("key" : Str)) && glB k.sc x && k.lam && !k.hot && noStar y && chkC it k y && (match k.N[i]? with | some a => oneA ps a && lamS1B k.sc sc a | none => false) && chkE el { k with sc := sc, all := fun _ => false, gen := false, ng := false, fr := false, lam := false } body)
    | _ => false
  | .mnk mx i a el, k, e => match e with
    | .Call (.Name x _) [y] [⟨some kw, .Lambda ps body sc lpos, _⟩] _ => k.lps.contains (lpos.line, lpos.col) && (decide (x = (if mx = true then ("max" : Str) else ("min" : Str))) && decide (kw = ("key" : Str)) && glB k.sc x && k.lam && !k.hot && noStar y && chkE a k y && (match k.N[i]? with | some a => oneA ps a && lamS1B k.sc sc a | none => false) && chkE el { k with sc := sc, all := fun _ => false, gen := false, ng := false, fr := false, lam := false } body)
    | _ => false
  | .idx tp a b, k, e => match e with
    | .Call (.Attribute x name apos) [y] [] cpos => decide (name = ("index" : Str)) && attB x && (apos.endLine == cpos.line) && noStar y && chkE a k x && chkE b k y
    | _ => false
  | .trv a, k, e => match e with
    | .Call (.Name x _) [.Call (.Name r _) [y] [] _] [] _ => decide (x = ("tuple" : Str)) && glB k.sc x && decide (r = ("reversed" : Str)) && glB k.sc r && noStar y && chkE a k y && !k.hot
    | _ => false
  | .trg a b, k, e => match e with
    | .Call (.Name x _) [.Call (.Name r _) [y, w] [] _] [] _ => decide (x = ("tuple" : Str)) && glB k.sc x && decide (r = ("range" : Str)) && glB k.sc r && noStar y && noStar w && chkE a k y && chkE b k w && !k.hot
    | _ => false
  | .tpx a, k, e => match e with
    | .Call (.Name x _) [y] [] _ => decide (x = ("tuple" : Str)) && glB k.sc x && noStar y && chkE a k y
    | _ => false
  | .dkp _ a, k, e => match e with
    | .Call (.Name x _) [y] [] _ => decide (x = ("sorted" : Str)) && glB k.sc x && noStar y && chkE a k y && !k.hot
    | _ => false
  | .tdc a, k, e => match e with
    | .Call (.Name x _) [y] [] _ => decide (x = ("tuple" : Str)) && glB k.sc x && noStar y && chkE a k y && !k.hot
    | _ => false
  | .join a b, k, e => match e with
    | .Call (.Attribute x name apos) [y] [] cpos => decide (name = ("join" : Str)) && attB x && (apos.endLine == cpos.line) && noStar y && chkE a k x && chkE b k y
    | _ => false
  | .gen m own t it ts el, k, e => match e with
    | .Call (.Name x _) [.GeneratorExp elt [⟨tg, iter, ifs, 0⟩] scope gpos] [] _ => !k.lps.contains (gpos.line, gpos.col) && (k.gen && decide (x = gmName m) && glB k.sc x && notSet iter && notList iter && chkI it k tg iter && gscB k.N k.sc scope (ownOf k.N own) && t.slots.all (fun i => own.contains i) &&
        chkG t { k with sc := scope, all := fun _ => false, gen := k.ng, ng := false, ig := true, fr := false, lam := false } tg && chkTs ts { k with sc := scope, all := fun _ => false, gen := k.ng, ng := false, ig := true, fr := false, lam := false } ifs && chkE el { k with sc := scope, all := fun _ => false, gen := k.ng, ng := false, ig := true, fr := false, lam := false } elt && !k.hot)
    | _ => false
def chkEs : IEs → Ck → List Expr → Bool
  | .nil, _, es => es.isEmpty
  | .cons a r, k, es => match es with
    | e :: es => noStar e && chkE a k e && chkEs r k es
    | [] => false
def chkDs : IEs → Ck → List (Option Expr) → List Expr → Bool
  | .nil, _, ks, vs => ks.isEmpty && vs.isEmpty
  | .cons _ .nil, _, _, _ => false
  | .cons a (.cons b r), k, ks, vs => match ks, vs with
    | some x :: ks, y :: vs => chkE a k x && chkE b k y && chkDs r k ks vs
    | _, _ => false
def chkO : IEs → Ck → Option Expr → Bool
  | .nil, _, e => e.isNone
  | .cons a .nil, k, e => match e with
    | some e => chkE a k e
    | none => false
  | .cons _ (.cons _ _), _, _ => false
def chkTs : IEs → Ck → List Expr → Bool
  | .nil, _, es => es.isEmpty
  | .cons a .nil, k, es => match es with
    | [e] => tstB a e && chkE a k e
    | _ => false
  | .cons _ (.cons _ _), _, _ => false
def chkC : II → Ck → Expr → Bool
  | .val a, k, e => chkE a k e
  | .rng1 a, k, e => match e with
    | .Call (.Name x _) [y] [] _ => decide (x = ("range" : Str)) && glB k.sc x && noStar y && chkE a k y
    | _ => false
  | .rng2 a b, k, e => match e with
    | .Call (.Name x _) [y, z] [] _ => decide (x = ("range" : Str)) && glB k.sc x && noStar y && noStar z && chkE a k y && chkE b k z
    | _ => false
  | _, _, _ => false
def chkI : II → Ck → Expr → Expr → Bool
  | .val a, k, _, e => chkE a k e
  | .rng1 a, k, _, e => match e with
    | .Call (.Name x _) [y] [] _ => decide (x = ("range" : Str)) && glB k.sc x && noStar y && chkE a k y
    | _ => false
  | .rng2 a b, k, _, e => match e with
    | .Call (.Name x _) [y, z] [] _ => decide (x = ("range" : Str)) && glB k.sc x && noStar y && noStar z && chkE a k y && chkE b k z
    | _ => false
  | .enm a, k, tg, e => match tg, e with
    | .Tuple _ _ _, .Call (.Name x _) [y] [] _ => decide (x = ("enumerate" : Str)) && glB k.sc x && noStar y && chkE a k y
    | _, _ => false
  | .zip a b, k, tg, e => match tg, e with
    | .Tuple _ _ _, .Call (.Name x _) [y, z] [] _ => decide (x = ("zip" : Str)) && glB k.sc x && noStar y && noStar z && chkE a k y && chkE b k z
    | _, _ => false
  | .rngd a b c, k, _, e => match e with
    | .Call (.Name x _) [y, z, w] [] _ => decide (x = ("range" : Str)) && glB k.sc x && noStar y && noStar z && noStar w && chkE a k y && chkE b k z && chkE c k w
    | _ => false
  | .rvd a, k, _, e => match e with
    | .Call (.Name x _) [y] [] _ => decide (x = ("reversed" : Str)) && glB k.sc x && noStar y && chkE a k y
    | _ => false
/-- what may be asked as a test -/
def tstB : IE → Expr → Bool
  | .cmp _ _ _, _ => true
  | .cmp2 _ _ _ _ _, _ => true
  | .din _ _ _, _ => true
  | .deq _ _ _, _ => true
  | .dg _ _, _ => true
  | .and a b, e => match e with
    | .BoolOp .And [x, y] _ => tstB a x && tstB b y
    | .BoolOp .And (x :: y :: w :: r) p => tstB a x && tstB b (.BoolOp .And (y :: w :: r) p)
    | _ => false
  | .or a b, e => match e with
    | .BoolOp .Or [x, y] _ => tstB a x && tstB b y
    | .BoolOp .Or (x :: y :: w :: r) p => tstB a x && tstB b (.BoolOp .Or (y :: w :: r) p)
    | _ => false
  | .not a, e => match e with
    | .UnaryOp .Not x _ => tstB a x
    | _ => false
  | .var _, _ => true
  | .call _ _, _ => true
  | .bi _ _, _ => true
  | .ix _ _, _ => true
  | .gen _ _ _ _ _ _, _ => true
  | _, _ => false
end
/-- what isinstance asks of a caught error -/
structure IsxC (K : PySem.W.Frag) (cl : Addr) : Prop where
  e : L2.ExcC K cl
  v : PySem.W.kitOne K (.ref cl) (.type "ValueError") = some true
def isxB (K : PySem.W.Frag) (C : Addr) : Bool := decide (PySem.W.findIn K (.ref C) "__getattribute__" = some (some (.builtin "BaseException.__getattribute__"))) && (decide (PySem.W.findIn K (.ref C) "__getattr__" = some none) && (decide (PySem.W.subIn K (.ref C) (.type "BaseException") = some true) && (PySem.W.hasDictIn K C &&
  (decide (PySem.W.findIn K (.ref C) "__class__" = some (some (.builtin "object.__class__"))) && (decide (PySem.W.specialIn K (.builtin "object.__class__") "__get__" = some (some (.builtin "getset_descriptor.__get__"))) && (decide (PySem.W.takesIn K (.builtin "object.__class__") = some true) && (decide (PySem.W.mroIn K C (.type "object") = some true) &&
  decide (PySem.W.kitOne K (.ref C) (.type "ValueError") = some true))))))))
theorem isxB_ok {K : PySem.W.Frag} {C : Addr} (h : isxB K C = true) : IsxC K C := by
  unfold isxB at h
  simp only [Bool.and_eq_true, decide_eq_true_eq] at h
  obtain ⟨h1, h2, h3, h4, h5, h6, h7, h8, h9⟩ := h
  exact ⟨⟨h1, h2, h3, h4, h5, h6, h7, h8⟩, h9⟩
/-- what stands of an own class of errors -/
structure XOk (P : Program) (K : PySem.W.Frag) (mg : Str → Option Value) (c : XC) (cl : Addr) : Prop where
  mg : mg c.name = some (.ref cl)
  kp : PySem.W.keepIn K (.ref cl) = true
  sb : PySem.W.subIn K (.ref cl) (.type "BaseException") = some true
  ty : PySem.W.typeIn K (.ref cl) = some (.type "type")
  no : c.fld = none → PySem.W.excIn K cl HandSPX.veTail "ValueError.__new__" = true
  ini : ∀ f, c.fld = some f → ∃ fi cc co, XI.Txt P K f cl fi cc co
  xf : ∀ f, c.fld = some f → L2.XfC K cl
  isx : c.isx = true → IsxC K cl
structure Gd (k : Ck) (ct : CT) (B : BP) (C : Cl) (ES : XS) (X : Cx) : Prop where
  N : X.N = k.N
  sc : X.env.scope = k.sc
  calm : k.hot = false → X.calm = true
  nd : X.N.Nodup
  fn : ∀ x, k.all x = true → X.fn x = true
  pass : PassesOwn (model X.prog X.w) X.A X.env X.xe
  tk : Takes X (wx ct B X.K ES)
  blt : ∀ x ∈ bltNames, X.mg x = none
  con : ∀ x c, k.cs.lookup x = some c → ∃ u, X.mg x = some u ∧ RelV c.v u
  gen : k.gen = true → ∃ c P, ∃ ck : Hp → Prop, X.env.code = .ref c ∧ (∃ Pl, X.base.BuiltinsAt X.mg Pl) ∧ (∀ (H : Hp) (h : Heap), (∀ b o, X.base.get? b = some o → h.get? b = some o) → HOk X.prog X.w H h → ck H → PySem.W.CodeHd h c P) ∧ (∀ K st H, B.p K st H → ck H) ∧ B.T P ∧ (∀ l c, k.lps.contains (l, c) = false → LamT.lp P l c = false) ∧ (k.ig = false → ∀ H, ck H)
  nl : ∀ Q, ¬ B.T Q → NoL Q
  frig : k.fr = true → k.ig = false
  un : X.A.units + 65 < cLine
  stk : k.fr = true → X.stack = X.env :: X.outer ∧ X.env.frame = some X.env.locals
  xn : ∀ n cls, ct n = some cls → n < k.xs.length
  xc : ∀ n c, k.xs[n]? = some c → ∃ cl, ct n = some (.ref cl) ∧ XOk X.prog X.K X.mg c cl
  xm : ∀ n c m cls cv, k.xs[n]? = some c → ct n = some cls → ct m = some cv → PySem.W.exmOne X.K cls cv = some (c.up.contains m)
  lam : k.lam = true → ∃ c P, X.env.code = .ref c ∧ LamX.TabB X.base X.mg c P ∧ B.T P ∧ LamT.nm P = some (lamQ X) ∧ ∀ l c, k.lps.contains (l, c) = true → LamT.lp P l c = true
  ths : ∀ (t : Nat) (th : TH), k.ths[t]? = some th → (∃ fa fd, X.mg th.name = some (.ref fa) ∧ Fun X.K th.name th.name th.st fa fd ∧ Binds X.K fd [th.a] []) ∧ thB k.xs th = true
  fns : k.hot = false → ∃ n, Room (n + ((if k.gen = true then 1 else 0) + (if k.ng = true then 1 else 0)) + (if k.lam = true then 2 else 0)) X.A ∧ ∀ f nm np, k.defs[f]? = some (nm, np) → ∃ fa fd ps, ps.length = np ∧ X.mg nm = some (.ref fa) ∧ PySem.W.keepIn X.K (.ref fa) = true ∧
    FnOk X.prog X.w X.K X.mg X.base (L2.CX X.prog X.w) n fa fd ps (spOf B.T ct X.K C f np) ∧ Binds X.K fd ps []
section
variable {k : Ck} {ct : CT} {B : BP} {C : Cl} {ES : XS} {X : Cx}
theorem Gd.units (g : Gd k ct B C ES X) : X.A.units + 65 < cLine := g.un
theorem Gd.blk (g : Gd k ct B C ES X) (s : Shared) (H : Hp) (scope : Scope) (p : Addr) (cl : List (Str × Addr)) (fp : List Addr) : Gd { k with sc := relS scope k.sc, all := fun x => scope.names.lookup x == some .cell, fr := false, lam := false, gen := k.gen && !k.ig, ng := k.ng && !k.ig } ct (BT B.T) C XF (X.blk s H scope (compEnvC scope cl p X.env) fp) where
  N := g.N
  sc := by
    show relS scope X.env.scope = relS scope k.sc
    rw [g.sc]
  calm := g.calm
  nd := g.nd
  fn := fun x h => h
  pass := PassesOwn.never
  tk := takes_none5.imp fun c d σ H ⟨_, _, _, _, _, _, _, z⟩ => z
  blt := g.blt
  con := g.con
  gen := fun h => by
    simp only [Bool.and_eq_true, Bool.not_eq_true'] at h
    obtain ⟨c, P, ck, h1, h2, h3, h4, h5, h6, h7⟩ := g.gen h.1
    exact ⟨c, P, ck, h1, h2, h3, fun _ _ H2 _ => h7 h.2 H2, h5, h6, h7⟩
  nl := g.nl
  frig := fun h => by cases h
  un := g.un
  stk := fun h => by cases h
  xn := g.xn
  xc := g.xc
  xm := g.xm
  lam := fun h => by cases h
  ths := g.ths
  fns := fun h => by
    obtain ⟨n, hr, q⟩ := g.fns h
    exact ⟨n, hr.mono (by show n + ((if (k.gen && !k.ig) = true then 1 else 0) + (if (k.ng && !k.ig) = true then 1 else 0)) + (if (false : Bool) = true then 2 else 0) ≤ _; cases k.gen <;> cases k.ng <;> cases k.ig <;> cases k.lam <;> simp <;> omega), q⟩
theorem Room.gen {n : Nat} {A : Around} (h : Room (n + 1) A) (env : Env) : Room n (A.in1.in1.deeper env) :=
  ⟨h.hd, by have := h.dp; show A.depth + 1 + 3 * n + 5 < _; omega, by have := h.un; show A.units + 1 + 1 + 3 + 16 * n + 200 < _; omega⟩
theorem Gd.gcx (g : Gd k ct B C ES X) (hk : k.gen = true) (hh : k.hot = false) (s : Shared) (H : Hp) (scope : Scope) (c P2 : Addr) (hn : NoL P2) (fp : List Addr) : Gd { k with sc := scope, all := fun _ => false, gen := k.ng, ng := false, ig := true, fr := false, lam := false } ct (BX B.T c P2) C XF (gcx X s H (genC X scope s.heap.objs.size (.ref c)) fp) where
  N := g.N
  sc := rfl
  calm := fun _ => rfl
  nd := g.nd
  fn := fun x h => by cases h
  pass := PassesOwn.never
  tk := takes_none5.imp fun c d σ H ⟨_, _, _, _, _, _, _, z⟩ => z
  blt := g.blt
  con := g.con
  gen := fun h => by
    obtain ⟨_, _, _, _, h2, _⟩ := g.gen hk
    exact ⟨c, P2, fun H2 => H2 c = some (GCodeO c P2), rfl, h2, fun H2 h2 _ ok y => (ok _ _ y).1, fun _ _ _ y => y.2.1, .inr rfl, fun l c _ => hn.2 l c, fun z => by cases z⟩
  nl := fun Q z => g.nl Q fun y => z (.inl y)
  frig := fun h => by cases h
  un := by
    obtain ⟨n, hr, _⟩ := g.fns hh
    have hr2 : Room (n + 1) X.A := hr.mono (by rw [if_pos hk]; omega)
    have := (Room.gen hr2 (genC X scope s.heap.objs.size (.ref c))).un
    show (X.A.in1.in1.deeper (genC X scope s.heap.objs.size (.ref c))).units + 65 < cLine
    omega
  stk := fun h => by cases h
  xn := g.xn
  xc := g.xc
  xm := g.xm
  lam := fun h => by cases h
  ths := g.ths
  fns := fun _ => by
    obtain ⟨n, hr, h⟩ := g.fns hh
    have hr2 : Room ((n + (if k.ng = true then 1 else 0)) + 1) X.A := hr.mono (by rw [if_pos hk]; omega)
    refine ⟨n, ?_, fun f nm np e => ?_⟩
    · exact (Room.gen hr2 _).mono (by show n + ((if k.ng = true then 1 else 0) + (if (false : Bool) = true then 1 else 0)) + (if (false : Bool) = true then 2 else 0) ≤ _; simp)
    · obtain ⟨fa, fd, ps, y1, y2, y3, y4, y5⟩ := h f nm np e
      exact ⟨fa, fd, ps, y1, y2, y3, y4.imp fun vs H Q E z => ⟨z.1, fun P hP => z.2.1 P (.inl hP), z.2.2⟩, y5⟩
/-- the body of a try -/
theorem Gd.tr (g : Gd k ct B C ES X) {B2 : BP} {ES2 : XS} {pn : List (Addr × Obj)} {xe : Value → Shared → Prop} (hfr : k.fr = true) (eT : B2.T = B.T) (tk : Takes (X.tr pn xe) (wx ct B2 X.K ES2)) (pass : PassesOwn (model X.prog X.w) X.A X.env xe) : Gd k ct B2 C ES2 (X.tr pn xe) where
  N := g.N
  sc := g.sc
  calm := g.calm
  nd := g.nd
  fn := g.fn
  pass := pass
  tk := tk
  blt := g.blt
  con := g.con
  gen := fun h => by
    obtain ⟨c, P, ck, h1, h2, h3, h4, h5, h6, h7⟩ := g.gen h
    exact ⟨c, P, ck, h1, h2, h3, fun _ _ H _ => h7 (g.frig hfr) H, by rw [eT]; exact h5, h6, h7⟩
  nl := by rw [eT]; exact g.nl
  frig := g.frig
  un := g.un
  stk := g.stk
  xn := g.xn
  xc := g.xc
  xm := g.xm
  lam := fun h => by rw [eT]; exact g.lam h
  ths := g.ths
  fns := fun h => by rw [eT]; exact g.fns h
/-- an except suite -/
theorem Gd.suite (g : Gd k ct B C ES X) (a : Addr) (pn : List (Addr × Obj)) : Gd { k with hot := true } ct B C XF (X.suite a pn) where
  N := g.N
  sc := g.sc
  calm := fun h => by cases h
  nd := g.nd
  fn := g.fn
  pass := PassesOwn.never
  tk := takes_none5.imp fun c d σ H ⟨_, _, _, _, _, _, _, z⟩ => z
  blt := g.blt
  con := g.con
  gen := fun h => by
    obtain ⟨c, P, ck, h1, h2, h3, h4, h5, h6, h7⟩ := g.gen h
    exact ⟨c, P, ck, h1, h2, h3, h4, h5, h6, h7⟩
  nl := g.nl
  frig := g.frig
  un := g.un
  stk := g.stk
  xn := g.xn
  xc := g.xc
  xm := g.xm
  lam := g.lam
  ths := g.ths
  fns := fun h => by cases h
theorem Gd.vis (g : Gd k ct B C ES X) {x : Str} (h : visB k.sc x = true) : Vis X.env.scope x := by
  unfold visB at h
  unfold Vis
  rw [g.sc]
  split at h <;> simp_all
theorem Gd.gl (g : Gd k ct B C ES X) {x : Str} (h : glB k.sc x = true) : Gl X x := by
  unfold glB at h
  unfold Gl Env.kindOf
  rw [g.sc]
  split at h <;> simp_all
theorem Gd.sto (g : Gd k ct B C ES X) {x : Str} (h : stoB k x = true) : L2.Loc X.env.scope x ∧ (X.fn x = true ∨ X.env.scope.names.lookup x = some .local) := by
  unfold stoB at h
  unfold L2.Loc
  rw [g.sc]
  split at h
  · rename_i e
    exact ⟨.inl e, .inr e⟩
  · rename_i e
    exact ⟨.inr e, .inl (g.fn x h)⟩
  · cases h
theorem okName_1 {x : Str} (h : okName x = true) : (x == ("__debug__" : Str)) = false ∧ (x == ("__classdict__" : Str)) = false := by
  unfold okName at h
  simpa using h
end
/-! ### targets -/
mutual
theorem asgP_ex : ∀ (t : Tg) (d : D) (z : DSt) (R : DSt → Prop), asgP t d z R → ∃ z2, R z2
  | .nm i, d, z, R, h => ⟨_, by simpa only [asgP] using h⟩
  | .tp ts, d, z, R, h => by
    cases d <;> first | (simp only [asgP] at h; done) | skip
    all_goals
      simp only [asgP] at h
      exact asgsP_ex ts _ z R h
theorem asgsP_ex : ∀ (ts : Tgs) (ds : List D) (z : DSt) (R : DSt → Prop), asgsP ts ds z R → ∃ z2, R z2
  | .nil, [], z, _, h => ⟨z, by simpa only [asgsP] using h⟩
  | .nil, _ :: _, _, _, h => by simp only [asgsP] at h
  | .cons _ _, [], _, _, h => by simp only [asgsP] at h
  | .cons t r, d :: ds, z, R, h => by
    simp only [asgsP] at h
    obtain ⟨z2, h2⟩ := asgP_ex t d z _ h
    exact asgsP_ex r ds z2 R h2
end
theorem asgsP_len : ∀ (ts : Tgs) (ds : List D) (z : DSt) (R : DSt → Prop), asgsP ts ds z R → ds.length = ts.len
  | .nil, [], _, _, _ => rfl
  | .nil, _ :: _, _, _, h => by simp only [asgsP] at h
  | .cons _ _, [], _, _, h => by simp only [asgsP] at h
  | .cons t r, d :: ds, z, R, h => by
    simp only [asgsP] at h
    obtain ⟨z2, h2⟩ := asgP_ex _ _ _ _ h
    rw [List.length_cons, asgsP_len r ds z2 R h2]
    rfl
theorem chkGs_star : ∀ {ts : Tgs} {k : Ck} {es : List Expr}, chkGs ts k es = true → es.all noStar = true
  | .nil, k, es, h => by
    simp only [chkGs, List.isEmpty_iff] at h
    subst h
    rfl
  | .cons t r, k, [], h => by simp [chkGs] at h
  | .cons t r, k, e :: es, h => by
    simp only [chkGs, Bool.and_eq_true] at h
    rw [List.all_cons, h.1.1, chkGs_star h.2]
    rfl
theorem chkEs_star : ∀ {ts : IEs} {k : Ck} {es : List Expr}, chkEs ts k es = true → es.all noStar = true ∧ es.length = ts.len
  | .nil, k, es, h => by
    simp only [chkEs, List.isEmpty_iff] at h
    subst h
    exact ⟨rfl, rfl⟩
  | .cons t r, k, [], h => by simp [chkEs] at h
  | .cons t r, k, e :: es, h => by
    simp only [chkEs, Bool.and_eq_true] at h
    obtain ⟨h1, h2⟩ := chkEs_star h.2
    rw [List.all_cons, h.1.1, h1]
    exact ⟨rfl, congrArg Nat.succ h2⟩
mutual
theorem sndG : ∀ (t : Tg) (k : Ck) (e : Expr) {ct : CT} {B : BP} {C : Cl} {ES : XS} {X : Cx}, Gd k ct B C ES X → chkG t k e = true → PG X e (liftG B X.K t)
  | .nm i, k, e, ct, B, C, ES, X, g, h => by
    simp only [chkG] at h
    split at h
    · simp only [Bool.and_eq_true, decide_eq_true_eq] at h
      obtain ⟨h1, h2⟩ := g.sto h.2
      exact snd_nm g.nd (by rw [g.N]; exact h.1) h1 h2
    · cases h
  | .tp ts, k, e, ct, B, C, ES, X, g, h => by
    simp only [chkG] at h
    split at h
    · simp only [Bool.and_eq_true, decide_eq_true_eq, Bool.not_eq_true'] at h
      obtain ⟨h, hk⟩ := h
      exact snd_tp (n := 0) (g.calm hk) (chkGs_star h.2) (fun ds z R q => by rw [asgsP_len ts ds z R q, h.1]) (sndGs ts k _ g h.2)
    · cases h
theorem sndGs : ∀ (t : Tgs) (k : Ck) (es : List Expr) {ct : CT} {B : BP} {C : Cl} {ES : XS} {X : Cx}, Gd k ct B C ES X → chkGs t k es = true → PGs X es (liftGs B X.K t)
  | .nil, k, es, ct, B, C, ES, X, g, h => by
    simp only [chkGs, List.isEmpty_iff] at h
    subst h
    exact snd_gnil
  | .cons t r, k, [], ct, B, C, ES, X, g, h => by simp [chkGs] at h
  | .cons t r, k, e :: es, ct, B, C, ES, X, g, h => by
    simp only [chkGs, Bool.and_eq_true] at h
    exact snd_gcons h.1.1 (sndG t k e g h.1.2) (sndGs r k es g h.2)
end
def isT6 (t : String) : Bool := t == "NoneType" || t == "bool" || t == "int" || t == "str" || t == "tuple" || t == "list" || t == "dict"
theorem kit_known {K : PySem.W.Frag} {t T : String} (ht : isT6 t = true) (hT : knownT T = true) : PySem.W.kitOne K (.type t) (.type T) = some (subT t T) := by
  simp only [isT6, knownT, Bool.or_eq_true, beq_iff_eq] at ht hT
  rcases ht with (((((rfl | rfl) | rfl) | rfl) | rfl) | rfl) | rfl <;> rcases hT with ((((rfl | rfl) | rfl) | rfl) | rfl) | rfl <;> rfl
theorem reps_ints {K : KH} {st : Sto} {H : Hp} : ∀ {xs : List V} {ns : List Int}, Reps K st H xs (ns.map D.int) → xs = ns.map V.int
  | _, [], .nil => rfl
  | _, n :: ns, .cons r s => by
    cases r
    rw [reps_ints s, List.map_cons]
/-- the pair that a value names -/
def prK (H : Hp) : V → Int × Int
  | .ref t => (match H t with
    | some (.tup [.int i, .int j]) => (i, j)
    | _ => (0, 0))
  | _ => (0, 0)
theorem reps_prs {K : KH} {st : Sto} {H : Hp} : ∀ {xs : List V} {ps : List (Int × Int)}, Reps K st H xs (ps.map prD) → xs.map (prK H) = ps ∧ ∀ x ∈ xs, ∃ t, x = V.ref t ∧ H t = some (.tup [.int (prK H x).1, .int (prK H x).2])
  | _, [], .nil => ⟨rfl, fun _ h => by cases h⟩
  | _, p :: ps, .cons r s => by
    obtain ⟨h1, h2⟩ := reps_prs s
    cases r with
    | tup hq r hz =>
      cases r with
      | cons r1 r =>
        cases r with
        | cons r2 r =>
          cases r
          cases r1
          cases r2
          rename_i a
          have e : prK H (.ref a) = p := by
            simp only [prK, hq]
          refine ⟨by rw [List.map_cons, h1, e], fun x hx => ?_⟩
          rcases List.mem_cons.mp hx with rfl | hx
          · exact ⟨_, rfl, by rw [e]; exact hq⟩
          · exact h2 x hx
theorem prs_reps {K : KH} {st : Sto} {H : Hp} : ∀ {ys : List V}, (∀ x ∈ ys, ∃ t, x = V.ref t ∧ H t = some (.tup [.int (prK H x).1, .int (prK H x).2])) → Reps K st H ys ((ys.map (prK H)).map prD)
  | [], _ => .nil
  | y :: ys, h => by
    obtain ⟨t, e, ht⟩ := h y List.mem_cons_self
    refine .cons ?_ (prs_reps fun x hx => h x (List.mem_cons_of_mem _ hx))
    have : Rep K st H (.ref t) (prD (prK H y)) := .tup ht (.cons (.int _) (.cons (.int _) .nil)) (show 2 ≤ sizeLine by decide)
    rw [e]
    rw [e] at this
    exact this
/-- isinstance, of a dict with tuple keys that no one changes, too -/
def rIsiF : List V → Hp → VK → Prop := fun xs H Q => (∃ (a : Addr) (o : Obj) (kvs : List (List Key × V)) (T : String), xs = [.ref a, .ty T] ∧ H a = some (.frz o (.dT kvs)) ∧ knownT T = true ∧ Q (.bl (subT "dict" T)) H) ∨ ∃ (a : Addr) (o : Obj) (ys : List V) (T : String), xs = [.ref a, .ty T] ∧ H a = some (.frz o (.tup ys)) ∧ knownT T = true ∧ Q (.bl (subT "tuple" T)) H
theorem call_isiF {X : Cx} : CallR X (.builtin "isinstance") rIsiF := by
  intro pins s σ H xs us Q I r h
  rcases h with ⟨a, o, kvs, T, rfl, hd, hT, q⟩ | ⟨a, o, ys, T, rfl, hd, hT, q⟩
  · obtain ⟨u1, u2, rfl, r1, r2⟩ := vals2 r
    obtain rfl : u1 = Value.ref a := r1
    obtain rfl : u2 = Value.type T := r2
    obtain ⟨_, _, _, xs, _, ob, es, ep, h1, h2, _⟩ := (show ObjOk X.prog X.w H s.heap a (.frz o (.dT kvs)) from I.hok a _ hd)
    exact PySem.W.kia_one PySem.W.kitx_dict I.kIn ⟨ob, h1, h2.1⟩ (kit_known (t := "dict") (by decide) hT) (fun z => nomatch z) fun tk => ⟨.bl (subT "dict" T), H, I.tok tk, rfl, q⟩
  · obtain ⟨u1, u2, rfl, r1, r2⟩ := vals2 r
    obtain rfl : u1 = Value.ref a := r1
    obtain rfl : u2 = Value.type T := r2
    obtain ⟨its, _, pt, _⟩ := I.tuple (sqT_fz (K := X.K) hd)
    have pt2 : s.heap.IsTuple a its.toArray := pt
    obtain ⟨ob, h1, h2, _⟩ := pt2
    exact PySem.W.kia_one PySem.W.kitx_tuple I.kIn ⟨ob, h1, h2⟩ (kit_known (t := "tuple") (by decide) hT) (fun z => nomatch z) fun tk => ⟨.bl (subT "tuple" T), H, I.tok tk, rfl, q⟩
theorem srd_rows {K : KH} {st : Sto} {H : Hp} (so : StoOk K st H) : ∀ {ds : List D} {ps : List PyData} {xs : List V}, Pys st ds ps → Reps K st H xs ds →
    ∃ bs : List (V × D × PyData), xs = bs.map (·.1) ∧ bs.map (fun b => b.2.1) = ds ∧ bs.map (fun b => b.2.2) = ps ∧ ∀ b ∈ bs, Rep K st H b.1 b.2.1 ∧ Dp K.K H b.1 b.2.2
  | _, _, _, .nil, .nil => ⟨[], rfl, rfl, rfl, fun _ h => by cases h⟩
  | _, _, _, .cons p ps, .cons r rs => by
    obtain ⟨bs, e1, e2, e3, e4⟩ := srd_rows so ps rs
    refine ⟨(_, _, _) :: bs, by rw [List.map_cons, ← e1], by rw [List.map_cons, e2], by rw [List.map_cons, e3], fun b hb => ?_⟩
    rcases List.mem_cons.mp hb with rfl | hb
    · exact ⟨r, Py.dp so p r⟩
    · exact e4 b hb
theorem zip_maps {α β γ : Type} (f : α → β) (g : α → γ) : ∀ l : List α, l.map (fun a => (f a, g a)) = (l.map f).zip (l.map g)
  | [] => rfl
  | a :: l => by rw [List.map_cons, List.map_cons, List.map_cons, List.zip_cons_cons, zip_maps f g l]
theorem srd_sorted {bs : List (V × D × PyData)} : (((bs.map (fun b => (b.1, b.2.2))).mergeSort dle).map (·.1)) = ((bs.mergeSort (fun a b => dle (a.1, a.2.2) (b.1, b.2.2))).map (·.1)) ∧
    (((bs.map (fun b => (b.2.1, b.2.2))).mergeSort dlD).map (·.1)) = ((bs.mergeSort (fun a b => dle (a.1, a.2.2) (b.1, b.2.2))).map (fun b => b.2.1)) := by
  constructor
  · rw [← List.map_mergeSort (r := fun a b => dle (a.1, a.2.2) (b.1, b.2.2)) (fun _ _ _ _ => rfl), List.map_map]
    rfl
  · rw [← List.map_mergeSort (r := fun a b => dle (a.1, a.2.2) (b.1, b.2.2)) (fun _ _ _ _ => rfl), List.map_map]
    rfl
theorem srd_reps {K : KH} {st : Sto} {H : Hp} : ∀ {bs : List (V × D × PyData)}, (∀ b ∈ bs, Rep K st H b.1 b.2.1) → Reps K st H (bs.map (·.1)) (bs.map (fun b => b.2.1))
  | [], _ => .nil
  | b :: bs, h => .cons (h b List.mem_cons_self) (srd_reps fun c hc => h c (List.mem_cons_of_mem _ hc))
/-! ### expressions -/
theorem bi_rule (k : Ck) {ct : CT} {B : BP} {C : Cl} {ES : XS} {X : Cx} (g : Gd k ct B C ES X) (f : Bi) (hcm : X.calm = true ∨ (f ≠ .max ∧ f ≠ .min ∧ f ≠ .sum ∧ notBest f = true)) {x : Str} {p pos : Pos} {y : Expr} {ys : List Expr} {ies : IEs} (hx : x = biName f) (hg : Gl X x) (hn : (y :: ys).all noStar = true) {n : Nat} (ha : PA X (y :: ys) (liftA B X.K n (wpEs C ES ies))) :
    PE X (.Call (.Name x p) (y :: ys) [] pos) (liftE B X.K (wpE C ES (.bi f ies))) := by
  subst hx
  rw [List.all_cons, Bool.and_eq_true] at hn
  have h1 := star_cons (env := X.env) (es := ys) hn.1
  have h2 := any_back (pos := pos) (env := X.env) hn.2
  cases f with
  | abs =>
    refine snd_bi (x := "abs") (es := ys) (p := p) (pe_callB call_abs hg (g.blt _ (by decide)) (by decide +kernel) ha (by decide) (by decide) h1 h2) ?_
    intro hs ds st H Q R vs h so r q
    rcases ds with _ | ⟨d, _ | ⟨d2, ds⟩⟩
    · exact h.elim
    · cases d <;> first | exact h.elim | skip
      cases r with
      | cons r rr =>
        cases rr
        cases r
        exact ⟨_, rfl, q _ st _ H h .refl (.int _) so⟩
    · cases d <;> exact h.elim
  | int =>
    refine snd_bi (x := "int") (es := ys) (p := p) (pe_callTy call_int1 hg (g.blt _ (by decide)) (by decide +kernel) ha (by decide) (by decide) h1 h2) ?_
    intro hs ds st H Q R vs h so r q
    rcases ds with _ | ⟨d, _ | ⟨d2, ds⟩⟩
    · exact h.elim
    · cases d <;> first | exact h.elim | skip
      · cases r with
        | cons r rr =>
          cases rr
          cases r
          exact .inr ⟨_, rfl, q _ st _ H h .refl (.int _) so⟩
      · cases r with
        | cons r rr =>
          cases rr
          cases r
          exact .inl ⟨_, rfl, q _ st _ H h .refl (.int _) so⟩
    · cases d <;> exact h.elim
  | len =>
    refine snd_bi (x := "len") (es := ys) (p := p) (pe_callB (CallR.or (CallR.or call_len_seq call_len_str) call_lenDR) hg (g.blt _ (by decide)) (by decide +kernel) ha (by decide) (by decide) h1 h2) ?_
    intro hs ds st H Q R vs h so r q
    rcases ds with _ | ⟨d, _ | ⟨d2, ds⟩⟩
    · exact h.elim
    · have h : lenP d st R := h
      cases d <;> first | exact h.elim | skip
      · cases r with
        | cons r rr =>
          cases rr
          cases r
          exact .inl (.inr ⟨_, rfl, h.1, q _ st _ H h.2 .refl (.int _) so⟩)
      · cases r with
        | cons r rr =>
          cases rr
          cases r with
          | tup hq r hz => exact .inl (.inl ⟨_, _, rfl, .inr (SqT.of hq), by rw [r.length]; exact q _ st _ H h .refl (.int _) so⟩)
      · cases r with
        | cons r rr =>
          cases rr
          cases r with
          | fl hq r hz => exact .inl (.inl ⟨_, _, rfl, .inl hq.sq, by rw [r.length]; exact q _ st _ H h .refl (.int _) so⟩)
      · cases r with
        | cons r rr =>
          cases rr
          cases r
          obtain ⟨ds, e, h⟩ := h
          obtain ⟨_, xs, hx, r⟩ := so.c _ _ e
          exact .inl (.inl ⟨_, _, rfl, .inl (SqL.of hx), by rw [r.length]; exact q _ st _ H h .refl (.int _) so⟩)
      · cases r with
        | cons r rr =>
          cases rr
          cases r with
          | fd hx hk rr hz =>
            have hl := rr.length
            rw [List.length_map] at hl
            exact .inr ⟨_, _, _, _, rfl, .inr ⟨_, hx⟩, by rw [List.length_map]; exact hl, by rw [List.length_map]; exact q _ st _ H h .refl (.int _) so⟩
      · cases r with
        | cons r rr =>
          cases rr
          cases r with
          | tix hq _ _ r hz => exact .inl (.inl ⟨_, _, rfl, .inr (sqT_fz hq), by rw [r.length]; exact q _ st _ H h .refl (.int _) so⟩)
    · cases d <;> exact h.elim
  | isi =>
    refine snd_bi (x := "isinstance") (es := ys) (p := p) (pe_callB (CallR.or call_isi call_isiF) hg (g.blt _ (by decide)) (by decide +kernel) ha (by decide) (by decide) h1 h2) ?_
    intro hs ds st H Q R vs h so r q
    rcases ds with _ | ⟨d, _ | ⟨d2, _ | ⟨d3, ds⟩⟩⟩
    · exact h.elim
    · cases d <;> exact h.elim
    · cases d2 <;> first | (cases d <;> exact h.elim) | skip
      rename_i T
      have h : knownT T = true ∧ tyP d st fun t => R (.bl (subT t T)) st := by cases d <;> exact h
      obtain ⟨hT, h⟩ := h
      cases r with
      | cons r rr =>
        cases rr with
        | cons r2 rr =>
          cases rr
          cases r2
          have fin : ∀ (v : V) (t : String), TyX X.K H v (.type t) → isT6 t = true → R (.bl (subT t T)) st → rIsi X.K [v, .ty T] H Q ∨ rIsiF [v, .ty T] H Q := fun v t ty ht h => .inl ⟨v, .ty T, .type t, .type T, subT t T, rfl, .ty T, ty, kit_known ht hT, q _ st _ H h .refl (.bl _) so⟩
          have hfd : ∀ (td : Bool) (kvs : List (List Key × D)) (v : V), Rep ⟨X.K, hs⟩ st H v (.fd td kvs) → R (.bl (subT "dict" T)) st → rIsi X.K [v, .ty T] H Q ∨ rIsiF [v, .ty T] H Q := by
            intro td kvs v r h
            cases r with
            | fd hx hk rr hz =>
              cases td with
              | false => exact fin _ _ (.fDict hx) rfl h
              | true => exact .inr (.inl ⟨_, _, _, _, rfl, hx, hT, q _ st _ H h .refl (.bl _) so⟩)
          cases d <;> first | exact h.elim | skip
          · cases r; exact fin _ _ (.base .non) rfl h
          · cases r; exact fin _ _ (.base (.bl _)) rfl h
          · cases r; exact fin _ _ (.base (.int _)) rfl h
          · cases r; exact fin _ _ (.base (.str _)) rfl h
          · cases r with
            | tup hq r hz =>
              exact fin _ _ (.base (.tup hq)) rfl h
          · cases r with
            | fl hq r hz =>
              rcases hq.sq with (hq | ⟨o, hq⟩) | ⟨o, its, n, e1, e2, _⟩
              · exact fin _ _ (.base (.lst hq)) rfl h
              · exact fin _ _ (.base (.frz hq)) rfl h
              · exact fin _ _ (.kList e1 e2) rfl h
          · cases r
            obtain ⟨⟨ds, e⟩, h⟩ := h
            obtain ⟨_, xs, hx, _⟩ := so.c _ _ e
            exact fin _ _ (.base (.lst hx)) rfl h
          · exact hfd _ _ _ r h
          · cases r with
            | tix hq _ _ r hz => exact .inr (.inr ⟨_, _, _, _, rfl, hq, hT, q _ st _ H h .refl (.bl _) so⟩)
    · cases d <;> cases d2 <;> exact h.elim
  | tuple =>
    refine snd_bi (x := "tuple") (es := ys) (p := p) (pe_callTy call_tuple_of hg (g.blt _ (by decide)) (by decide +kernel) ha (by decide) (by decide) h1 h2) ?_
    intro hs ds st H Q R vs h so r q
    rcases ds with _ | ⟨d, _ | ⟨d2, ds⟩⟩
    · exact h.elim
    · have h : itemsT d st fun ds => R (.tup ds) st := by cases d <;> exact h
      have mk : ∀ (xs : List V) (ds : List D), Reps ⟨X.K, hs⟩ st H xs ds → ds.length ≤ sizeLine → R (.tup ds) st → ∀ l, H l = none → Q (.ref l) (upd H l (.tup xs)) := fun xs ds r hz h l hl => q _ st _ _ h (.new hl) (.tup upd_same (r.mono (.new hl)) hz) (so.new hl)
      cases d <;> first | exact h.elim | skip
      · cases r with
        | cons r rr =>
          cases rr
          cases r with
          | tup hq r hz => exact ⟨_, _, rfl, .inr ⟨SqT.of hq, q _ st _ H h .refl (.tup hq r hz) so⟩⟩
      · cases r with
        | cons r rr =>
          cases rr
          cases r with
          | fl hq r hz => exact ⟨_, _, rfl, .inl ⟨hq.sq, mk _ _ r hz h⟩⟩
      · cases r with
        | cons r rr =>
          cases rr
          cases r
          obtain ⟨ds, e, h⟩ := h
          obtain ⟨hz, xs, hx, r⟩ := so.c _ _ e
          exact ⟨_, _, rfl, .inl ⟨SqL.of hx, mk _ _ r hz h⟩⟩
    · cases d <;> exact h.elim
  | list z =>
    change PE X (.Call (.Name "list" p) (y :: ys) [] pos) _
    have hg : Gl X "list" := hg
    refine snd_bi (x := "list") (es := ys) (p := p) (pe_callTy call_list_of hg (g.blt _ (by decide)) (by decide +kernel) ha (by decide) (by decide) h1 h2) ?_
    intro hs ds st H Q R vs h so r q
    rcases ds with _ | ⟨d, _ | ⟨d2, ds⟩⟩
    · exact h.elim
    · have h : itemsP d st fun ds => newL z ds st R := by cases d <;> exact h
      cases d <;> first | exact h.elim | skip
      · cases r with
        | cons r rr =>
          cases rr
          cases r with
          | tup hq r hz => exact ⟨_, _, rfl, .inr (SqT.of hq), newL_ok h so r hz q⟩
      · cases r with
        | cons r rr =>
          cases rr
          cases r with
          | fl hq r hz => exact ⟨_, _, rfl, .inl hq.sq, newL_ok h so r hz q⟩
      · cases r with
        | cons r rr =>
          cases rr
          cases r
          obtain ⟨ds, e, h⟩ := h
          obtain ⟨hz, xs, hx, r⟩ := so.c _ _ e
          exact ⟨_, _, rfl, .inl (SqL.of hx), newL_ok h so r hz q⟩
      · cases r with
        | cons r rr =>
          cases rr
          cases r with
          | tix hq _ _ r hz => exact ⟨_, _, rfl, .inr (sqT_fz hq), newL_ok h so r hz q⟩
    · cases d <;> exact h.elim
  | sorted z =>
    change PE X (.Call (.Name "sorted" p) (y :: ys) [] pos) _
    have hg : Gl X "sorted" := hg
    refine snd_bi (x := "sorted") (es := ys) (p := p) (pe_callB (CallR.or cr_srtN (CallR.or (CallR.or cr_sortedI cr_sortedPO) (CallR.or cr_srtTI cr_srtTP))) hg (g.blt _ (by decide)) (by decide +kernel) ha (by decide) (by decide) h1 h2) ?_
    intro hs ds st H Q R vs h so r q
    rcases ds with _ | ⟨d, _ | ⟨d2, ds⟩⟩
    · exact h.elim
    · have h : itemsP d st fun ds => srtP z ds st R := by cases d <;> exact h
      have mi : ∀ (ns : List Int), (ns.map D.int).length ≤ sizeLine → (∀ ms : List Int, ms.Perm ns → ms.Pairwise (· ≤ ·) → newL z (ms.map D.int) st R) → ∀ (ms : List Int) (l : Addr), ms.Perm ns → ms.Pairwise (· ≤ ·) → H l = none → Q (.ref l) (upd H l (.lst (ms.map V.int))) := fun ns hz h ms l h1 h2 hl => newL_ok (h ms h1 h2) so (Reps.ints ms) (by rw [List.length_map, h1.length_eq]; simpa using hz) q l hl
      have mp : ∀ (xs : List V) (ps : List (Int × Int)), Reps ⟨X.K, hs⟩ st H xs (ps.map prD) → (ps.map prD).length ≤ sizeLine → (∀ qs : List (Int × Int), qs.Perm ps → qs.Pairwise (fun a b => SrtO.lexB b a = false) → newL z (qs.map prD) st R) → ∀ ys l, SrtO.Srtd (ltP (prK H)) ys → SrtO.Stb (ltP (prK H)) ys xs → H l = none → Q (.ref l) (upd H l (.lst ys)) := fun xs ps r hz h ys l h1 h2 hl => by
        obtain ⟨e1, e2⟩ := reps_prs r
        have pm : (ys.map (prK H)).Perm ps := by rw [← e1]; exact h2.perm.map _
        exact newL_ok (h _ pm (by rw [List.pairwise_map]; exact h1)) so (prs_reps fun y hy => e2 y (h2.perm.mem_iff.mp hy)) (by rw [List.length_map, pm.length_eq]; simpa using hz) q l hl
      have mN : ∀ (p : Addr) (xs : List V) (rows : List (List Int)) (dm : Nat), SqL X.K H p xs ∨ SqT X.K H p xs → Reps ⟨X.K, hs⟩ st H xs (rows.map rowD) → (rows.map rowD).length ≤ sizeLine → (2 ≤ rows.length → 1 ≤ dm) → (∀ r ∈ rows, r.length = dm) → (∀ rs : List (List Int), rs.Perm rows → rs.Pairwise (fun a b => lexN b a = false) → newL z (rs.map rowD) st R) → rSrtN X.K [.ref p] H Q := by
        intro p xs rows dm hq r hz h2 hd h
        obtain ⟨e1, e2⟩ := reps_rowsN r
        have ln : ∀ x ∈ xs, (tpK H x).length = dm := fun x hx => hd _ (by rw [← e1]; exact List.mem_map_of_mem hx)
        refine ⟨p, xs, dm, rfl, hq, fun z => h2 (by rw [← e1, List.length_map]; exact z), fun x hx => ?_, fun ys l h1 h2 hl => ?_⟩
        · obtain ⟨t, q1, q2, _⟩ := e2 x hx
          exact ⟨t, q1, q2, ln x hx⟩
        · have pm : (ys.map (tpK H)).Perm rows := by rw [← e1]; exact h1.map _
          exact newL_ok (h _ pm (by rw [List.pairwise_map]; exact h2)) so (rows_repsN fun y hy => e2 y (h1.mem_iff.mp hy)) (by rw [List.length_map, pm.length_eq]; simpa using hz) q l hl
      have mk : ∀ (p : Addr) (xs : List V) (ds : List D), SqL X.K H p xs → Reps ⟨X.K, hs⟩ st H xs ds → ds.length ≤ sizeLine → srtP z ds st R → rSrtN X.K [.ref p] H Q ∨ ((rSortedI X.K [.ref p] H Q ∨ rSortedPO X.K [.ref p] H Q) ∨ (rSrtTI X.K [.ref p] H Q ∨ rSrtTP X.K [.ref p] H Q)) := by
        rintro p xs ds hq r hz (⟨ns, rfl, h⟩ | ⟨ps, rfl, h⟩ | ⟨rows, dm, rfl, h2, hd, h⟩)
        · exact .inr (.inl (.inl ⟨p, ns, rfl, (reps_ints r) ▸ hq, mi ns hz h⟩))
        · exact .inr (.inl (.inr ⟨p, xs, prK H, rfl, hq, (reps_prs r).2, mp xs ps r hz h⟩))
        · exact .inl (mN p xs rows dm (.inl hq) r hz h2 hd h)
      cases d <;> first | exact h.elim | skip
      · cases r with
        | cons r rr =>
          cases rr
          cases r with
          | tup hq r hz =>
            rcases h with ⟨ns, rfl, hk⟩ | ⟨ps, rfl, hk⟩ | ⟨rows, dm, rfl, h2, hd, hk⟩
            · exact .inr (.inr (.inl ⟨_, ns, rfl, (reps_ints r) ▸ SqT.of hq, mi ns hz hk⟩))
            · exact .inr (.inr (.inr ⟨_, _, prK H, rfl, SqT.of hq, (reps_prs r).2, mp _ ps r hz hk⟩))
            · exact .inl (mN _ _ rows dm (.inr (SqT.of hq)) r hz h2 hd hk)
      · cases r with
        | cons r rr =>
          cases rr
          cases r with
          | fl hq r hz => exact mk _ _ _ hq.sq r hz h
      · cases r with
        | cons r rr =>
          cases rr
          cases r
          obtain ⟨ds, e, h⟩ := h
          obtain ⟨hz, xs, hx, r⟩ := so.c _ _ e
          exact mk _ _ _ (SqL.of hx) r hz h
      · cases r with
        | cons r rr =>
          cases rr
          cases r with
          | tix hq _ _ r hz =>
            rcases h with ⟨ns, rfl, hk⟩ | ⟨ps, rfl, hk⟩ | ⟨rows, dm, rfl, h2, hd, hk⟩
            · exact .inr (.inr (.inl ⟨_, ns, rfl, (reps_ints r) ▸ sqT_fz hq, mi ns hz hk⟩))
            · exact .inr (.inr (.inr ⟨_, _, prK H, rfl, sqT_fz hq, (reps_prs r).2, mp _ ps r hz hk⟩))
            · exact .inl (mN _ _ rows dm (.inr (sqT_fz hq)) r hz h2 hd hk)
    · cases d <;> exact h.elim
  | srd z =>
    change PE X (.Call (.Name "sorted" p) (y :: ys) [] pos) _
    have hg : Gl X "sorted" := hg
    refine snd_bi (x := "sorted") (es := ys) (p := p) (pe_callB (cr_srd g.un) hg (g.blt _ (by decide)) (by decide +kernel) ha (by decide) (by decide) h1 h2) ?_
    intro hs ds st H Q R vs h so r q
    rcases ds with _ | ⟨d, _ | ⟨d2, ds⟩⟩
    · exact h.elim
    · have h : itemsP d st fun ds => srdP z ds st R := by cases d <;> exact h
      have mk : ∀ (p : Addr) (xs : List V) (ds : List D), SqL X.K H p xs ∨ SqT X.K H p xs → Reps ⟨X.K, hs⟩ st H xs ds → ds.length ≤ sizeLine → srdP z ds st R → rSrd X.K [.ref p] H Q := by
        rintro p xs ds hq r hz ⟨ps, hp, hal, hso, hdp, h⟩
        obtain ⟨bs, e1, e2, e3, e4⟩ := srd_rows so hp r
        refine ⟨p, bs.map (fun b => (b.1, b.2.2)), rfl, by rw [List.map_map]; exact e1 ▸ hq, fun b hb => ?_, by rw [List.map_map]; exact e3 ▸ hal, by rw [List.map_map]; exact e3 ▸ hso, fun b hb => ?_, fun l hl => ?_⟩
        · obtain ⟨c, hc, rfl⟩ := List.mem_map.mp hb
          exact (e4 c hc).2
        · obtain ⟨c, hc, rfl⟩ := List.mem_map.mp hb
          exact hdp _ (by rw [← e3]; exact List.mem_map.mpr ⟨c, hc, rfl⟩)
        · obtain ⟨e5, e6⟩ := srd_sorted (bs := bs)
          rw [e5]
          have e7 : (ds.zip ps) = bs.map (fun b => (b.2.1, b.2.2)) := by rw [← e2, ← e3, ← zip_maps]
          rw [e7, e6] at h
          refine newL_ok h so (srd_reps fun b hb => (e4 b (List.mem_mergeSort.mp hb)).1) ?_ q l hl
          rw [List.length_map, List.length_mergeSort]
          rw [← e2, List.length_map] at hz
          exact hz
      cases d <;> first | exact h.elim | skip
      · cases r with
        | cons r rr =>
          cases rr
          cases r with
          | tup hq r hz => exact mk _ _ _ (.inr (SqT.of hq)) r hz h
      · cases r with
        | cons r rr =>
          cases rr
          cases r with
          | fl hq r hz => exact mk _ _ _ (.inl hq.sq) r hz h
      · cases r with
        | cons r rr =>
          cases rr
          cases r
          obtain ⟨ds, e, h⟩ := h
          obtain ⟨hz, xs, hx, r⟩ := so.c _ _ e
          exact mk _ _ _ (.inl (SqL.of hx)) r hz h
      · cases r with
        | cons r rr =>
          cases rr
          cases r with
          | tix hq _ _ r hz => exact mk _ _ _ (.inr (sqT_fz hq)) r hz h
    · cases d <;> exact h.elim
  | best mx =>
    have hcm2 := hcm.resolve_right fun z => Bool.false_ne_true z.2.2.2
    have hbn : bltNames.contains (biName (.best mx)) = true := by cases mx <;> decide
    refine snd_bi (x := biName (.best mx)) (es := ys) (p := p) (n := n) (t := rBest X.K mx) ?_ ?_
    · cases mx with
      | true => exact pe_callB (cr_best true hcm2 g.un) hg (g.blt _ (by decide)) (by decide +kernel) ha (by decide) (by decide) h1 h2
      | false => exact pe_callB (cr_best false hcm2 g.un) hg (g.blt _ (by decide)) (by decide +kernel) ha (by decide) (by decide) h1 h2
    intro hs ds st H Q R vs h so r q
    rcases ds with _ | ⟨d, _ | ⟨d2, ds⟩⟩
    · exact h.elim
    · have h : lstP d st fun ds => bestP mx ds st R := by cases d <;> exact h
      have mk : ∀ (p : Addr) (xs : List V) (ds : List D), SqL X.K H p xs → Reps ⟨X.K, hs⟩ st H xs ds → bestP mx ds st R → rBest X.K mx [.ref p] H Q := by
        rintro p xs ds hq r ⟨pd, ps, hp, hal, hdp, h⟩
        refine ⟨p, xs, pd, ps, rfl, hq, Pys.dp so hp r, hal, hdp, fun i x hx hb => ?_⟩
        obtain ⟨dd, hd, rd⟩ := r.get' hx
        exact q _ st _ H (h i dd hd hb) .refl rd so
      cases r with
      | cons r rr =>
        cases rr
        cases d <;> first | exact h.elim | skip
        · cases r with
          | fl hq r hz => exact mk _ _ _ hq.sq r h
        · cases r
          obtain ⟨_, e, h⟩ := h
          obtain ⟨hz, xs, hx, r⟩ := so.c _ _ e
          exact mk _ _ _ (SqL.of hx) r h
    · cases d <;> exact h.elim
  | max =>
    have hcm := hcm.resolve_right fun z => z.1 rfl
    refine snd_bi (x := "max") (es := ys) (p := p) (pe_callB (CallR.or (call_max2 hcm) (cr_max hcm)) hg (g.blt _ (by decide)) (by decide +kernel) ha (by decide) (by decide) h1 h2) ?_
    intro hs ds st H Q R vs h so r q
    rcases ds with _ | ⟨d, _ | ⟨d2, _ | ⟨d3, ds⟩⟩⟩
    · exact h.elim
    · have h : lstP d st fun ds => ∃ ns : List Int, ds = ns.map D.int ∧ 0 < ns.length ∧ ∀ m, m ∈ ns → (∀ y ∈ ns, y ≤ m) → R (.int m) st := by cases d <;> exact h
      cases r with
      | cons r rr =>
        cases rr
        cases d <;> first | exact h.elim | skip
        · cases r with
          | fl hq r hz =>
            obtain ⟨ns, rfl, h0, h⟩ := h
            exact .inr ⟨_, ns, rfl, (reps_ints r) ▸ hq.sq, h0, fun m h1 h2 => q _ st _ H (h m h1 h2) .refl (.int _) so⟩
        · cases r
          obtain ⟨_, e, ns, rfl, h0, h⟩ := h
          obtain ⟨hz, xs, hx, r⟩ := so.c _ _ e
          exact .inr ⟨_, ns, rfl, (reps_ints r) ▸ SqL.of hx, h0, fun m h1 h2 => q _ st _ H (h m h1 h2) .refl (.int _) so⟩
    · cases d <;> cases d2 <;> first | exact h.elim | skip
      cases r with
      | cons r rr =>
        cases rr with
        | cons r2 rr =>
          cases rr
          cases r
          cases r2
          exact .inl ⟨_, _, rfl, q _ st _ H h .refl (.int _) so⟩
    · cases d <;> cases d2 <;> exact h.elim
  | min =>
    have hcm := hcm.resolve_right fun z => z.2.1 rfl
    refine snd_bi (x := "min") (es := ys) (p := p) (pe_callB (CallR.or (call_min2 hcm) (cr_min hcm)) hg (g.blt _ (by decide)) (by decide +kernel) ha (by decide) (by decide) h1 h2) ?_
    intro hs ds st H Q R vs h so r q
    rcases ds with _ | ⟨d, _ | ⟨d2, _ | ⟨d3, ds⟩⟩⟩
    · exact h.elim
    · have h : lstP d st fun ds => ∃ ns : List Int, ds = ns.map D.int ∧ 0 < ns.length ∧ ∀ m, m ∈ ns → (∀ y ∈ ns, m ≤ y) → R (.int m) st := by cases d <;> exact h
      cases r with
      | cons r rr =>
        cases rr
        cases d <;> first | exact h.elim | skip
        · cases r with
          | fl hq r hz =>
            obtain ⟨ns, rfl, h0, h⟩ := h
            exact .inr ⟨_, ns, rfl, (reps_ints r) ▸ hq.sq, h0, fun m h1 h2 => q _ st _ H (h m h1 h2) .refl (.int _) so⟩
        · cases r
          obtain ⟨_, e, ns, rfl, h0, h⟩ := h
          obtain ⟨hz, xs, hx, r⟩ := so.c _ _ e
          exact .inr ⟨_, ns, rfl, (reps_ints r) ▸ SqL.of hx, h0, fun m h1 h2 => q _ st _ H (h m h1 h2) .refl (.int _) so⟩
    · cases d <;> cases d2 <;> first | exact h.elim | skip
      cases r with
      | cons r rr =>
        cases rr with
        | cons r2 rr =>
          cases rr
          cases r
          cases r2
          exact .inl ⟨_, _, rfl, q _ st _ H h .refl (.int _) so⟩
    · cases d <;> cases d2 <;> exact h.elim
  | sum =>
    have hcm := hcm.resolve_right fun z => z.2.2.1 rfl
    refine snd_bi (x := "sum") (es := ys) (p := p) (pe_callB (cr_sum hcm) hg (g.blt _ (by decide)) (by decide +kernel) ha (by decide) (by decide) h1 h2) ?_
    intro hs ds st H Q R vs h so r q
    rcases ds with _ | ⟨d, _ | ⟨d2, ds⟩⟩
    · exact h.elim
    · have h : lstP d st fun ds => ∃ ns : List Int, ds = ns.map D.int ∧ R (.int ns.sum) st := by cases d <;> exact h
      cases r with
      | cons r rr =>
        cases rr
        cases d <;> first | exact h.elim | skip
        · cases r with
          | fl hq r hz =>
            obtain ⟨ns, rfl, hk⟩ := h
            exact ⟨_, ns, rfl, (reps_ints r) ▸ hq.sq, q _ st _ H hk .refl (.int _) so⟩
        · cases r
          obtain ⟨_, e, ns, rfl, hk⟩ := h
          obtain ⟨hz, xs, hx, r⟩ := so.c _ _ e
          exact ⟨_, ns, rfl, (reps_ints r) ▸ SqL.of hx, q _ st _ H hk .refl (.int _) so⟩
    · cases d <;> exact h.elim
theorem Reps.insert {K : KH} {st : Sto} {H : Hp} {v : V} {d : D} {vs : List V} {ds : List D} (r : Reps K st H vs ds) (q : Rep K st H v d) (n : Nat) : Reps K st H (vs.take n ++ [v] ++ vs.drop n) (ds.take n ++ [d] ++ ds.drop n) := ((r.take n).append (.cons q .nil)).append (r.drop n)
theorem reps_rg {K : KH} {st : Sto} {H : Hp} (a b : Int) : Reps K st H (rgV a b) (rangeD a (b - a).toNat) := by
  unfold rgV rangeD
  generalize List.range (b - a).toNat = l
  induction l with
  | nil => exact .nil
  | cons i r ih => exact .cons (.int _) ih
theorem rg_len (a b : Int) (h1 : -1000000 ≤ a) (h2 : b ≤ 1000000) : (rangeD a (b - a).toNat).length ≤ sizeLine := by
  unfold rangeD
  rw [List.length_map, List.length_range]
  have : 2000000 ≤ sizeLine := by decide
  omega
theorem Reps.rev {K : KH} {st : Sto} {H : Hp} : ∀ {xs : List V} {ds : List D}, Reps K st H xs ds → Reps K st H xs.reverse ds.reverse
  | _, _, .nil => .nil
  | _, _, .cons r s => by
    rw [List.reverse_cons, List.reverse_cons]
    exact Reps.append (Reps.rev s) (.cons r .nil)
theorem snd_rev {B : BP} {X : Cx} {C : Cl} {ES : XS} {z : Bool} {a : Expr} {ia : IE} {k : Nat} {p1 p2 p3 pos : Pos} (ha : PE X a (liftE B X.K (wpE C ES ia))) :
    PE X (.Subscript a (.Slice none none (some (.UnaryOp .USub (.Constant (.int 1) k p1) p2)) p3) pos) (liftE B X.K (wpE C ES (.rev z ia))) := by
  refine pe_imp (pe_revL ha) ?_
  rintro s H Q ⟨hs, w, st, R, sr, so, h, q⟩
  simp only [wpE] at h
  refine ⟨hs, w, st, _, sr, so, h, fun d st1 v H1 h1 t1 r1 so1 => ?_⟩
  unfold lstP at h1
  split at h1
  · cases r1 with
    | fl hq r hz => exact ⟨_, _, rfl, hq.sq, newL_ok h1 so1 r.rev (by rw [List.length_reverse]; exact hz) (QOk.step q t1)⟩
  · obtain ⟨ds, e, h1⟩ := h1
    cases r1
    obtain ⟨hz, xs, hx, r⟩ := so1.c _ _ e
    exact ⟨_, _, rfl, SqL.of hx, newL_ok h1 so1 r.rev (by rw [List.length_reverse]; exact hz) (QOk.step q t1)⟩
  · exact h1.elim
theorem snd_lrg1 {B : BP} {X : Cx} {C : Cl} {ES : XS} {z : Bool} {a : Expr} {ia : IE} {p p2 pos pos2 : Pos} (hc : X.calm = true) (g1 : Gl X "list") (m1 : X.mg "list" = none) (g2 : Gl X "range") (m2 : X.mg "range" = none) (na : noStar a = true) (ha : PE X a (liftE B X.K (wpE C ES ia))) :
    PE X (.Call (.Name "list" p) [.Call (.Name "range" p2) [a] [] pos2] [] pos) (liftE B X.K (wpE C ES (.lrg1 z ia))) := by
  refine pe_imp (pe_listRg hc g1 m1 (prg_1 g2 m2 ha (star_cons na))) ?_
  rintro s H Q ⟨hs, w, st, R, sr, so, h, q⟩
  simp only [wpE] at h
  refine ⟨hs, w, st, _, sr, so, h, fun d st1 v H1 h1 t1 r1 so1 => ?_⟩
  cases d <;> first | exact h1.elim | skip
  cases r1
  obtain ⟨⟨b1, b2, b3, b4⟩, h1⟩ := h1
  exact ⟨_, rfl, ⟨by omega, by omega, by omega, by omega, by omega⟩, newL_ok h1 so1 (reps_rg 0 _) (rg_len 0 _ (by omega) (by omega)) (QOk.step q t1)⟩
theorem snd_lrg2 {B : BP} {X : Cx} {C : Cl} {ES : XS} {z : Bool} {a b : Expr} {ia ib : IE} {p p2 pos pos2 : Pos} (hc : X.calm = true) (g1 : Gl X "list") (m1 : X.mg "list" = none) (g2 : Gl X "range") (m2 : X.mg "range" = none) (na : noStar a = true) (nb : noStar b = true) (ha : PE X a (liftE B X.K (wpE C ES ia))) (hb : PE X b (liftE B X.K (wpE C ES ib))) :
    PE X (.Call (.Name "list" p) [.Call (.Name "range" p2) [a, b] [] pos2] [] pos) (liftE B X.K (wpE C ES (.lrg2 z ia ib))) := by
  have nb2 : ([b] : List Expr).all noStar = true := by rw [List.all_cons, nb]; rfl
  refine pe_imp (pe_listRg hc g1 m1 (prg_2 g2 m2 ha hb (star_cons na) (star_cons nb) (any_back nb2))) ?_
  rintro s H Q ⟨hs, w, st, R, sr, so, h, q⟩
  simp only [wpE] at h
  refine ⟨hs, w, st, _, sr, so, h, fun d st1 v H1 h1 t1 r1 so1 => ⟨hs, w, st1, _, sr.mono t1, so1, h1, fun d2 st2 v2 H2 h2 t2 r2 so2 => ?_⟩⟩
  cases d <;> cases d2 <;> first | exact h2.elim | skip
  cases r1
  cases r2
  obtain ⟨⟨b1, b2, b3, b4⟩, h2⟩ := h2
  exact ⟨_, _, rfl, rfl, ⟨by omega, by omega, by omega, by omega, by omega⟩, newL_ok h2 so2 (reps_rg _ _) (rg_len _ _ (by omega) (by omega)) (QOk.step q (t1.trans t2))⟩
theorem snd_mt {B : BP} {X : Cx} {C : Cl} {ES : XS} {m : Mt} {o e : Expr} {es : List Expr} {io : IE} {ies : IEs} {name : Str} {apos cpos : Pos} {id : String} {r : V → List V → Hp → VK → Prop} {n : Nat} (pa : PlainAttrs "list") (slot : Slot "list" name id) (hty : typeOf (.builtin id) = pure (.type "method_descriptor")) (hm : MtR X id r)
    (ho : PE X o (liftE B X.K (wpE C ES io))) (ha : PA X (e :: es) (liftA B X.K n (wpEs C ES ies))) (hb : attB o = true) (hline : (apos.endLine == cpos.line) = true) (hn : (e :: es).all noStar = true) (hl : (e :: es).length ≤ 5)
    (hr : ∀ (hs : Addr → Prop) x ys st H Q R v vs, mtP m x ys st R → StoOk ⟨X.K, hs⟩ st H → Rep ⟨X.K, hs⟩ st H v x → Reps ⟨X.K, hs⟩ st H vs ys → QOk ⟨X.K, hs⟩ st H R Q → r v vs H Q) : PE X (.Call (.Attribute o name apos) (e :: es) [] cpos) (liftE B X.K (wpE C ES (.mt m io ies))) := by
  have hn2 := hn
  rw [List.all_cons, Bool.and_eq_true] at hn2
  refine pe_imp (pe_bm pa slot hty hm ho ha ?_ ?_ hline (star_cons hn2.1) (any_back hn2.2)) ?_
  · exact attB_base hb
  · rw [← List.not_any_eq_all_not, any_back hn]
    have : decide ((e :: es).length + ([] : List Keyword).length + (if ([] : List Keyword).isEmpty then 0 else 1) < 30) = true := decide_eq_true (by
      show (e :: es).length + 0 + 0 < 30
      omega)
    rw [this]
    rfl
  rintro s H Q ⟨hs, z, st, R, sr, so, h, q⟩
  simp only [wpE] at h
  refine ⟨hs, z, st, _, sr, so, h, fun x st1 v H1 h1 t1 r1 so1 => ⟨?_, hs, z, st1, _, sr.mono t1, so1, h1.2, fun ys st2 vs H2 h2 n2 t2 r2 so2 => hr hs x ys st2 H2 Q R v vs h2 so2 (r1.mono t2) r2 (QOk.step q (t1.trans t2))⟩⟩
  have h1 := h1.1
  cases x <;> first | exact h1.elim | skip
  obtain ⟨ds, e⟩ := h1
  obtain ⟨_, xs, hx, _⟩ := so1.c _ _ e
  cases r1
  exact .inl ⟨rfl, xs, SqL.of hx⟩
theorem mt_rule (k : Ck) {ct : CT} {B : BP} {C : Cl} {ES : XS} {X : Cx} (g : Gd k ct B C ES X) (m : Mt) {name : Str} {apos cpos : Pos} {o y : Expr} {ys : List Expr} {io : IE} {ies : IEs} {n : Nat} (hx : name = mtName m) (hp : m ≠ .pop) (hb : attB o = true) (hline : (apos.endLine == cpos.line) = true) (hn : (y :: ys).all noStar = true) (hl : (y :: ys).length ≤ 5)
    (ho : PE X o (liftE B X.K (wpE C ES io))) (ha : PA X (y :: ys) (liftA B X.K n (wpEs C ES ies))) : PE X (.Call (.Attribute o name apos) (y :: ys) [] cpos) (liftE B X.K (wpE C ES (.mt m io ies))) := by
  subst hx
  cases m with
  | append =>
    refine snd_mt PySem.F.plainAttrs_list PySem.F.slot_list_append PySem.F.type_list_append mt_append ho ha hb hline hn hl ?_
    intro hs x ys st H Q R v vs h so rx r q
    rcases ys with _ | ⟨d, _ | ⟨d2, ys⟩⟩ <;> cases x <;> first | exact h.elim | skip
    cases rx
    cases r with
    | cons rd rr =>
      cases rr
      obtain ⟨ds, e, hz, hR⟩ := h
      obtain ⟨_, xs, hx, rr⟩ := so.c _ _ e
      obtain ⟨so4, t4⟩ := so.setLst e (rr.append (.cons rd .nil)) (by rw [List.length_append]; exact hz)
      exact ⟨_, xs, _, rfl, rfl, hx, by rw [rr.length]; exact hz, q _ _ _ _ hR t4 .non so4⟩
  | insert =>
    refine snd_mt PySem.F.plainAttrs_list PySem.F.slot_list_insert PySem.F.type_list_insert mt_insert ho ha hb hline hn hl ?_
    intro hs x ys st H Q R v vs h so rx r q
    rcases ys with _ | ⟨d, _ | ⟨d2, _ | ⟨d3, ys⟩⟩⟩
    · cases x <;> exact h.elim
    · cases x <;> cases d <;> exact h.elim
    · cases x <;> first | exact h.elim | skip
      cases d <;> first | exact h.elim | skip
      cases rx
      cases r with
      | cons ri rr =>
        cases rr with
        | cons rd rr =>
          cases rr
          cases ri
          obtain ⟨ds, e, hz, h0, h1, hR⟩ := h
          obtain ⟨_, xs, hx, rr⟩ := so.c _ _ e
          obtain ⟨so4, t4⟩ := so.setLst e (rr.insert rd _) (by simp only [List.length_append, List.length_take, List.length_drop, List.length_cons, List.length_nil]; omega)
          exact ⟨_, xs, _, _, rfl, rfl, hx, by rw [rr.length]; exact hz, h0, h1, q _ _ _ _ hR t4 .non so4⟩
    · cases x <;> cases d <;> exact h.elim
  | extend =>
    refine snd_mt PySem.F.plainAttrs_list PySem.F.slot_list_extend PySem.F.type_list_extend mt_extend ho ha hb hline hn hl ?_
    intro hs x ys st H Q R v vs h so rx r q
    rcases ys with _ | ⟨d, _ | ⟨d2, ys⟩⟩
    · cases x <;> exact h.elim
    · cases x <;> first | exact h.elim | skip
      cases d <;> first | exact h.elim | skip
      cases rx
      cases r with
      | cons rd rr =>
        cases rr
        cases rd with
        | fl hq rd hz2 =>
          obtain ⟨ds, e, hz, hR⟩ := h
          obtain ⟨_, xs, hx, rr⟩ := so.c _ _ e
          obtain ⟨so4, t4⟩ := so.setLst e (rr.append rd) (by rw [List.length_append]; exact hz)
          exact ⟨_, _, xs, _, rfl, rfl, hx, hq.1, by rw [rr.length, rd.length]; exact hz, q _ _ _ _ hR t4 .non so4⟩
    · cases x <;> cases d <;> exact h.elim
  | pop => exact absurd rfl hp
  | remove =>
    refine snd_mt PySem.F.plainAttrs_list PySem.F.slot_list_remove PySem.F.type_list_remove mt_rem ho ha hb hline hn hl ?_
    intro hs x ys st H Q R v vs h so rx r q
    rcases ys with _ | ⟨d, _ | ⟨d2, ys⟩⟩
    · cases x <;> exact h.elim
    · cases x <;> first | exact h.elim | skip
      cases d <;> first | exact h.elim | skip
      · cases rx
        cases r with
        | cons rd rr =>
          cases rr
          cases rd
          obtain ⟨ns, e, hk, hR⟩ := h
          obtain ⟨hz, xs, hx, rr⟩ := so.c _ _ e
          obtain rfl := Reps.ints_eq rr
          obtain ⟨j, hj, h1, h2, h3⟩ := first_of hk
          rw [← h3] at hR
          obtain ⟨so4, t4⟩ := so.setLst (ds := (ns.eraseIdx j).map D.int) (xs := (ns.eraseIdx j).map V.int) e (Reps.ints _) (by
            have := List.length_eraseIdx_le ns j
            rw [List.length_map] at hz ⊢
            omega)
          exact .inl ⟨_, ns, _, j, rfl, rfl, hx, h1, h2, q _ _ _ _ hR t4 .non so4⟩
      · cases rx
        cases r with
        | cons rd rr =>
          cases rr
          cases rd
          obtain ⟨ns, e, hk, hR⟩ := h
          obtain ⟨hz, xs, hx, rr⟩ := so.c _ _ e
          obtain rfl := Reps.strs_eq rr
          obtain ⟨j, hj, h1, h2, h3⟩ := first_of hk
          rw [← h3] at hR
          obtain ⟨so4, t4⟩ := so.setLst (ds := (ns.eraseIdx j).map D.str) (xs := (ns.eraseIdx j).map V.str) e (Reps.strs _) (by
            have := List.length_eraseIdx_le ns j
            rw [List.length_map] at hz ⊢
            omega)
          exact .inr ⟨_, ns, _, j, rfl, rfl, hx, h1, h2, q _ _ _ _ hR t4 .non so4⟩
    · cases x <;> cases d <;> exact h.elim
/-- list.pop() -/
theorem snd_pop {B : BP} {X : Cx} {C : Cl} {ES : XS} {o : Expr} {io : IE} {apos cpos : Pos} (ho : PE X o (liftE B X.K (wpE C ES io))) (hb : attB o = true) (hline : (apos.endLine == cpos.line) = true) : PE X (.Call (.Attribute o "pop" apos) [] [] cpos) (liftE B X.K (wpE C ES (.mt .pop io .nil))) := by
  refine pe_imp (pe_bm0 PySem.F.plainAttrs_list PySem.F.slot_list_pop PySem.F.type_list_pop mt_pop ho ?_ hline) ?_
  · exact attB_base hb
  rintro s H Q ⟨hs, z, st, R, sr, so, h, q⟩
  simp only [wpE, wpEs] at h
  refine ⟨hs, z, st, _, sr, so, h, fun x st1 v H1 h1 t1 r1 so1 => ?_⟩
  obtain ⟨h0, h1⟩ := h1
  cases x <;> first | exact h0.elim | skip
  cases r1
  obtain ⟨ds, y, e, hR⟩ := h1
  obtain ⟨hz, xs, hx, rr⟩ := so1.c _ _ e
  refine ⟨.inl ⟨rfl, xs, SqL.of hx⟩, ?_⟩
  have hl := rr.length
  rw [List.length_append, List.length_singleton] at hl hz
  obtain ⟨u, hu, ru⟩ := rr.get (i := ds.length) (d := y) (by simp)
  have r2 := rr.take ds.length
  rw [List.take_left] at r2
  have eq : xs.dropLast = xs.take ds.length := by rw [List.dropLast_eq_take, hl]; rfl
  obtain ⟨so4, t4⟩ := so1.setLst e r2 (by omega)
  refine ⟨_, xs, u, rfl, rfl, hx, by rw [hl]; exact hu, ?_⟩
  rw [eq]
  exact q _ _ _ _ hR (t1.trans t4) (ru.mono t4) so4
theorem Reps.atP {K : KH} {st : Sto} {H : Hp} {vs : List V} {ds : List D} (r : Reps K st H vs ds) {j : Nat} {v : V} (h : vs[j]? = some v) : ∃ d, ds[j]? = some d ∧ Rep K st H v d := r.get' h
/-- list.index -/
theorem snd_idx {k : Ck} {ct : CT} {B : BP} {X : Cx} {C : Cl} {ES : XS} (g : Gd k ct B C ES X) {o y : Expr} {ia ib : IE} {apos cpos : Pos} (ho : PE X o (liftE B X.K (wpE C ES ia))) (hy : PE X y (liftE B X.K (wpE C ES ib))) (hb : attB o = true) (hline : (apos.endLine == cpos.line) = true) (hn : noStar y = true) :
    PE X (.Call (.Attribute o "index" apos) [y] [] cpos) (liftE B X.K (wpE C ES (.idx false ia ib))) := by
  have hn2 : ([y] : List Expr).all noStar = true := by rw [List.all_cons, hn]; rfl
  refine pe_imp (pe_bm PySem.F.plainAttrs_list PySem.F.slot_list_index PySem.F.type_list_index (mt_idx g.un) ho (snd_cons hn hy snd_nil) ?_ ?_ hline (star_cons hn) (any_back rfl)) ?_
  · exact attB_base hb
  · rw [← List.not_any_eq_all_not, any_back hn2]
    rfl
  rintro s H Q ⟨hs, z, st, R, sr, so, h, q⟩
  simp only [wpE] at h
  refine ⟨hs, z, st, _, sr, so, h, fun x st1 v H1 h1 t1 r1 so1 => ?_⟩
  obtain ⟨h0, h1⟩ := h1
  have fin : ∀ {p : Addr} {xs : List V} {ds : List D} {st2 : Sto} {H2 : Hp} {d : D} {w : V}, Step ⟨X.K, hs⟩ st1 H1 st2 H2 → StoOk ⟨X.K, hs⟩ st2 H2 → Rep ⟨X.K, hs⟩ st2 H2 w d → SqL X.K H2 p xs → Reps ⟨X.K, hs⟩ st2 H2 xs ds → (idxL ds d st2 fun j => R (.int (j : Nat)) st2) → rIdx X.K (.ref p) [w] H2 Q := by
    intro p xs ds st2 H2 d w t2 so2 rd hq r hh
    rcases hh with ⟨f1, f2, j, zz, e1, e2, e3, hR⟩ | ⟨pd, ps, j, zz, p1, p2, s1, s2, e1, e2, e3, hR⟩
    · obtain ⟨u, hu, ru⟩ := r.get e1
      have fz : flatD zz = true := List.all_eq_true.mp f2 zz (List.mem_of_getElem? e1)
      refine .inl ⟨p, xs, w, j, u, rfl, rfl, hq, rd.flat f1, r.flat f2, hu, ?_, fun m z' hm hz' => ?_, q _ st2 _ H2 hR (t1.trans t2) (.int _) so2⟩
      · rw [ru.eqF rd fz f1]
        exact e2
      · obtain ⟨dm, em, rm⟩ := r.get' hz'
        rw [rm.eqF rd (List.all_eq_true.mp f2 dm (List.mem_of_getElem? em)) f1]
        exact e3 m dm hm em
    · exact .inr ⟨p, w, pd, ps, j, zz, rfl, rfl, .lst hq (Pys.dp so2 p2 r), Py.dp so2 p1 rd, s2, s1, e1, e2, e3, q _ st2 _ H2 hR (t1.trans t2) (.int _) so2⟩
  cases x <;> first | exact h0.elim | skip
  · rename_i dd
    have r0 := r1
    cases r1 with
    | fl hq r hz =>
      refine ⟨.inl ⟨rfl, _, hq.sq⟩, hs, z, st1, fun ds st2 => ∃ d, ds = [d] ∧ idxP false (.fl dd) d st2 R, sr.mono t1, so1, ?_, fun ds st2 vs H2 h2 n2 t2 r2 so2 => ?_⟩
      · simp only [wpEs]
        refine (congrArg (wpE C ES ib z st1) ?_).mp h1
        funext x st1
        simp
      · obtain ⟨d, rfl, h2⟩ := h2
        cases r2 with
        | cons r2 rr =>
          cases rr
          have r3 := r0.mono t2
          cases r3 with
          | fl hq2 rr2 hz2 => exact fin t2 so2 r2 hq2.sq rr2 h2
  · rename_i aa
    cases r1
    obtain ⟨ds0, e0⟩ := h0
    obtain ⟨_, xs0, hx0, _⟩ := so1.c _ _ e0
    refine ⟨.inl ⟨rfl, _, SqL.of hx0⟩, hs, z, st1, fun ds st2 => ∃ d, ds = [d] ∧ idxP false (.ref aa) d st2 R, sr.mono t1, so1, ?_, fun ds st2 vs H2 h2 n2 t2 r2 so2 => ?_⟩
    · simp only [wpEs]
      refine (congrArg (wpE C ES ib z st1) ?_).mp h1
      funext x st1
      simp
    · obtain ⟨d, rfl, ds2, e2, h2⟩ := h2
      cases r2 with
      | cons r2 rr =>
        cases rr
        obtain ⟨_, xs2, hx2, rr2⟩ := so2.c _ _ e2
        exact fin t2 so2 r2 (SqL.of hx2) rr2 h2
theorem snd_idxT {k : Ck} {ct : CT} {B : BP} {X : Cx} {C : Cl} {ES : XS} (g : Gd k ct B C ES X) {o y : Expr} {ia ib : IE} {apos cpos : Pos} (ho : PE X o (liftE B X.K (wpE C ES ia))) (hy : PE X y (liftE B X.K (wpE C ES ib))) (hb : attB o = true) (hline : (apos.endLine == cpos.line) = true) (hn : noStar y = true) :
    PE X (.Call (.Attribute o "index" apos) [y] [] cpos) (liftE B X.K (wpE C ES (.idx true ia ib))) := by
  have hn2 : ([y] : List Expr).all noStar = true := by rw [List.all_cons, hn]; rfl
  refine pe_imp (pe_bmt (mt_idxT g.un) ho (snd_cons hn hy snd_nil) ?_ ?_ hline (star_cons hn) (any_back rfl)) ?_
  · exact attB_base hb
  · rw [← List.not_any_eq_all_not, any_back hn2]
    rfl
  rintro s H Q ⟨hs, z, st, R, sr, so, h, q⟩
  simp only [wpE] at h
  refine ⟨hs, z, st, _, sr, so, h, fun x st1 v H1 h1 t1 r1 so1 => ?_⟩
  obtain ⟨h0, h1⟩ := h1
  cases x <;> first | exact h0.elim | skip
  rename_i dd
  have r0 := r1
  cases r1 with
  | tix hq c1 c2 r hz =>
    refine ⟨⟨_, _, _, rfl, hq, c1, c2⟩, hs, z, st1, fun ds st2 => ∃ d, ds = [d] ∧ idxP true (.tix dd) d st2 R, sr.mono t1, so1, ?_, fun ds st2 vs H2 h2 n2 t2 r2 so2 => ?_⟩
    · simp only [wpEs]
      refine (congrArg (wpE C ES ib z st1) ?_).mp h1
      funext x st1
      simp
    · obtain ⟨d, rfl, pd, ps, j, zz, p1, p2, s1, s2, e1, e2, e3, hR⟩ := h2
      cases r2 with
      | cons r2 rr =>
        cases rr
        have r3 := r0.mono t2
        cases r3 with
        | tix hq2 _ _ rr2 hz2 => exact ⟨_, _, pd, ps, j, zz, rfl, rfl, .tup (sqT_fz hq2) (Pys.dp so2 p2 rr2), Py.dp so2 p1 r2, s2, s1, e1, e2, e3, q _ st2 _ H2 hR (t1.trans t2) (.int _) so2⟩
theorem snd_tpx {B : BP} {X : Cx} {C : Cl} {ES : XS} {a : Expr} {ia : IE} {p pos : Pos} (hg : Gl X "tuple") (hm : X.mg "tuple" = none) (hn : noStar a = true) (ha : PE X a (liftE B X.K (wpE C ES ia))) : PE X (.Call (.Name "tuple" p) [a] [] pos) (liftE B X.K (wpE C ES (.tpx ia))) := by
  refine pe_imp (pe_tixOf hg hm ha (star_cons hn)) ?_
  rintro s H Q ⟨hs, w, st, R, sr, so, h, q⟩
  simp only [wpE] at h
  refine ⟨hs, w, st, _, sr, so, h, fun d st1 v H1 h1 t1 r1 so1 => ?_⟩
  unfold lstP at h1
  split at h1
  · cases r1 with
    | fl hq r hz => exact ⟨_, _, rfl, hq.sq, fun p o hp ho => q _ st1 _ _ h1 (t1.trans (.new hp)) (.tix upd_same ho.1 ho.2 (r.mono (.new hp)) hz) (so1.new hp)⟩
  · obtain ⟨ds, e, h1⟩ := h1
    cases r1
    obtain ⟨hz, xs, hx, r⟩ := so1.c _ _ e
    exact ⟨_, _, rfl, SqL.of hx, fun p o hp ho => q _ st1 _ _ h1 (t1.trans (.new hp)) (.tix upd_same ho.1 ho.2 (r.mono (.new hp)) hz) (so1.new hp)⟩
  · exact h1.elim
theorem reps_strsE {K : KH} {st : Sto} {H : Hp} : ∀ {ns : List Str} {xs : List V}, Reps K st H xs (ns.map D.str) → xs = ns.map V.str
  | [], _, .nil => rfl
  | n :: ns, _, .cons r t => by
    cases r
    rw [List.map_cons, reps_strsE t]
theorem snd_join {B : BP} {X : Cx} {C : Cl} {ES : XS} {o y : Expr} {ia ib : IE} {apos cpos : Pos} (ho : PE X o (liftE B X.K (wpE C ES ia))) (hy : PE X y (liftE B X.K (wpE C ES ib))) (hb : attB o = true) (hline : (apos.endLine == cpos.line) = true) (hn : noStar y = true) :
    PE X (.Call (.Attribute o "join" apos) [y] [] cpos) (liftE B X.K (wpE C ES (.join ia ib))) := by
  have hn2 : ([y] : List Expr).all noStar = true := by rw [List.all_cons, hn]; rfl
  refine pe_imp (pe_bm PySem.F.plainAttrs_str PySem.F.slot_str_join PySem.F.type_str_join mt_join ho (snd_cons hn hy snd_nil) ?_ ?_ hline (star_cons hn) (any_back rfl)) ?_
  · exact attB_base hb
  · rw [← List.not_any_eq_all_not, any_back hn2]
    rfl
  rintro s H Q ⟨hs, z, st, R, sr, so, h, q⟩
  simp only [wpE] at h
  refine ⟨hs, z, st, _, sr, so, h, fun x st1 v H1 h1 t1 r1 so1 => ?_⟩
  obtain ⟨h0, h1⟩ := h1
  cases x <;> first | exact h0.elim | skip
  cases r1
  rename_i a
  refine ⟨rfl, hs, z, st1, fun ds st2 => ∃ d, ds = [d] ∧ joinP (.str a) d st2 R, sr.mono t1, so1, ?_, fun ds st2 vs H2 h2 n2 t2 r2 so2 => ?_⟩
  · simp only [wpEs]
    refine (congrArg (wpE C ES ib z st1) ?_).mp h1
    funext x st1
    simp
  · obtain ⟨d, rfl, h2⟩ := h2
    cases r2 with
    | cons r2 rr =>
      cases rr
      have h2 : lstP d st2 fun ds => ∃ ys : List Str, ds = ys.map D.str ∧ (ys.map (·.length)).sum + ys.length * a.length ≤ 16777216 ∧ R (.str (Txt.join a ys)) st2 := h2
      unfold lstP at h2
      split at h2
      · cases r2 with
        | fl hq r hz =>
          obtain ⟨ys, rfl, hl, hR⟩ := h2
          exact ⟨a, _, ys, rfl, rfl, .inl ((reps_strsE r) ▸ hq.sq), hl, q _ st2 _ H2 hR (t1.trans t2) (.str _) so2⟩
      · obtain ⟨ds, e, ys, rfl, hl, hR⟩ := h2
        cases r2
        obtain ⟨hz, xs, hx, r⟩ := so2.c _ _ e
        exact ⟨a, _, ys, rfl, rfl, .inl ((reps_strsE r) ▸ SqL.of hx), hl, q _ st2 _ H2 hR (t1.trans t2) (.str _) so2⟩
      · exact h2.elim
theorem snd_trg {B : BP} {X : Cx} {C : Cl} {ES : XS} {a b : Expr} {ia ib : IE} {p p2 pos pos2 : Pos} (hc : X.calm = true) (g1 : Gl X "tuple") (m1 : X.mg "tuple" = none) (g2 : Gl X "range") (m2 : X.mg "range" = none) (na : noStar a = true) (nb : noStar b = true) (ha : PE X a (liftE B X.K (wpE C ES ia))) (hb : PE X b (liftE B X.K (wpE C ES ib))) :
    PE X (.Call (.Name "tuple" p) [.Call (.Name "range" p2) [a, b] [] pos2] [] pos) (liftE B X.K (wpE C ES (.trg ia ib))) := by
  have nb2 : ([b] : List Expr).all noStar = true := by rw [List.all_cons, nb]; rfl
  refine pe_imp (pe_tupRg hc g1 m1 (prg_2 g2 m2 ha hb (star_cons na) (star_cons nb) (any_back nb2))) ?_
  rintro s H Q ⟨hs, w, st, R, sr, so, h, q⟩
  simp only [wpE] at h
  refine ⟨hs, w, st, _, sr, so, h, fun d st1 v H1 h1 t1 r1 so1 => ⟨hs, w, st1, _, sr.mono t1, so1, h1, fun d2 st2 v2 H2 h2 t2 r2 so2 => ?_⟩⟩
  cases d <;> cases d2 <;> first | exact h2.elim | skip
  cases r1
  cases r2
  obtain ⟨⟨b1, b2, b3, b4⟩, h2⟩ := h2
  exact ⟨_, _, rfl, rfl, ⟨by omega, by omega, by omega, by omega, by omega⟩, fun p hp => q _ st2 _ _ h2 ((t1.trans t2).trans (.new hp)) (.tup upd_same ((reps_rg _ _).mono (.new hp)) (rg_len _ _ (by omega) (by omega))) (so2.new hp)⟩
theorem fold_ok {e : Expr} {env : Env} (h : notSet e = true) : ∀ x, foldedSetIterable e env x = pure x := fun x => by
  cases e <;> first | rfl | cases h
theorem gfold_ok {e : Expr} {env : Env} (h : notSet e = true) (k : notList e = true) : ∀ x, genFold e env x = pure x := fun x => by
  cases e <;> first | rfl | (cases h; done) | (cases k; done)
theorem gscp_by {N : List Str} {sc scope : Scope} {own : List (Str × Nat)} (h : gscB N sc scope own = true) : GScp N sc scope own := by
  simp only [gscB, Bool.and_eq_true, Bool.not_eq_true', decide_eq_true_eq, List.all_eq_true] at h
  obtain ⟨⟨⟨h1, h2⟩, h3⟩, h4⟩ := h
  refine ⟨blkOk_by h1, h2, fun y hy e => ?_, h4⟩
  have := h3 y hy
  rw [e] at this
  cases this
theorem ownOf_snd (N : List Str) (own : List Nat) : (ownOf N own).map (·.2) = own := by
  unfold ownOf
  rw [List.map_map]
  exact List.map_id'' (fun _ => rfl) own
theorem ty_known {n : String} (h : tyNames.contains n = true) : Str.ofString n ∈ bltNames ∧ bootBuiltins (Str.ofString n) = some (.type n) ∧ Str.ofString n ≠ "__name__" ∧ (Str.ofString n == ("__debug__" : Str)) = false := by
  have h : n ∈ tyNames := by simpa using h
  simp only [tyNames, List.mem_cons, List.not_mem_nil, or_false] at h
  rcases h with rfl | rfl | rfl | rfl | rfl | rfl <;> exact ⟨by decide, by decide +kernel, by decide, by decide⟩
/-- both of an expression: as a value, as a test -/
def Both (B : BP) (X : Cx) (C : Cl) (ES : XS) (i : IE) (e : Expr) : Prop := PE X e (liftE B X.K (wpE C ES i)) ∧ (tstB i e = true → PT X e (liftT B X.K (wpT C ES i)) ∧ ∀ op vs p, e = .BoolOp op vs p → PW X e (liftT B X.K (wpT C ES i)))
theorem Both.val {B : BP} {X : Cx} {C : Cl} {ES : XS} {i : IE} {e : Expr} (h : PE X e (liftE B X.K (wpE C ES i))) (ht : tstB i e = false) : Both B X C ES i e := ⟨h, fun z => by rw [ht] at z; cases z⟩
theorem Both.plain {B : BP} {X : Cx} {C : Cl} {ES : XS} {i : IE} {e : Expr} (h : PE X e (liftE B X.K (wpE C ES i))) (he : ∀ whole, isTrue e X.env whole = (do let v ← whole; standAt e.pos; holding [v] (truthy v))) (hb : ∀ op vs p, e ≠ .BoolOp op vs p) : Both B X C ES i e :=
  ⟨h, fun _ => ⟨snd_T h he, fun op vs p z => absurd z (hb op vs p)⟩⟩
theorem Both.test {B : BP} {X : Cx} {C : Cl} {ES : XS} {i : IE} {e : Expr} (h : PE X e (liftE B X.K (wpE C ES i))) (ht : tstB i e = true → PT X e (liftT B X.K (wpT C ES i))) (hb : ∀ op vs p, e ≠ .BoolOp op vs p) : Both B X C ES i e :=
  ⟨h, fun z => ⟨ht z, fun op vs p y => absurd y (hb op vs p)⟩⟩
section
variable {k : Ck} {ct : CT} {B : BP} {C : Cl} {ES : XS} {X : Cx}
theorem tsG_pss {Z : Cx} {i : Option Nat} {g : GC} {a : Addr} {cls : Value} {d : Option Addr} {ss : List Stmt} {T : TS} (h : PSs Z ss T) (hi : ∀ j, i = some j → j < Z.N.length) (q : ∀ D s H, (∀ j, i = some j → s[j]? = some (some (.ref a))) → g a cls d H D.rt → T D s H) : PSs Z ss (tsG i g a cls d) :=
  ⟨fun pins s z H D I w => h.run pins s z H D I (q D z H (fun j e => w.1 j e (by rw [I.len]; exact hi j e)) w.2)⟩
theorem glB_ok {sc : Scope} {x : Str} {Z : Cx} (h : glB sc x = true) (e : Z.env.scope = sc) : Gl Z x := by
  show Z.env.scope.names.lookup _ = _
  rw [e]
  revert h
  unfold glB
  split <;> simp_all
theorem kit_of {K : PySem.W.Frag} {cls c : Value} (h : PySem.W.exmOne K cls c = some true) : PySem.W.kitOne K cls c = some true := by
  unfold PySem.W.exmOne at h
  unfold PySem.W.kitOne
  split
  · rfl
  · split at h
    · exact h
    · cases h
theorem hdB_ok {N : List Str} {xs : List XC} {sc : Scope} (hb : ∀ x ∈ bltNames, X.mg x = none) (hn : ∀ n cls, ct n = some cls → n < xs.length) (hc : ∀ n c, xs[n]? = some c → ∃ cl, ct n = some (.ref cl) ∧ XOk X.prog X.K X.mg c cl) (hm : ∀ n c m cls cv, xs[n]? = some c → ct n = some cls → ct m = some cv → PySem.W.exmOne X.K cls cv = some (c.up.contains m)) :
    ∀ (hds : List ExceptHandler) (hs : List HC), hdB N xs sc hds hs = true → (∀ Z : Cx, Z.mg = X.mg → Z.K = X.K → Z.N = N → Z.env.scope = sc → HdsN Z hds (hdl (hvs ct hs))) ∧ ∀ h ∈ hs, h.Ok ct X.K ∧ ∀ n cls, ct n = some cls → ∃ cv, ct h.c = some cv ∧ PySem.W.exmOne X.K cls cv = some (h.cs.contains n) := by
  intro hds hs h
  induction hs generalizing hds with
  | nil =>
    cases hds with
    | nil => exact ⟨fun _ _ _ _ _ => .nil, fun _ z => by cases z⟩
    | cons a r => simp [hdB] at h
  | cons p l ih =>
    unfold hdB at h
    split at h
    · rename_i e1 e2
      cases e2
    · rename_i x px n b0 su pp hds2 p2 l2 e1
      cases e1
      simp only [Bool.and_eq_true, decide_eq_true_eq, List.all_eq_true, List.mem_range] at h
      obtain ⟨⟨⟨⟨⟨⟨h1, h2⟩, h3⟩, h4⟩, ht⟩, h5⟩, h6⟩ := h
      obtain ⟨y, ey, rfl⟩ := Option.map_eq_some_iff.mp h1
      obtain ⟨cl, e2, xo⟩ := hc _ y ey
      obtain ⟨i1, i2⟩ := ih _ h6
      have hx : ∀ n cls, ct n = some cls → ∃ cv, ct p.c = some cv ∧ PySem.W.exmOne X.K cls cv = some (p.cs.contains n) := fun n cls e3 => by
        refine ⟨_, e2, ?_⟩
        have lt := hn n cls e3
        have q := h5 n lt
        rw [List.getElem?_eq_getElem lt, Option.any_some, beq_iff_eq] at q
        rw [hm n _ _ cls _ (List.getElem?_eq_getElem lt) e3 e2, q]
      have slot : (n = none ∧ p.i = none) ∨ ∃ m j, n = some m ∧ p.i = some j ∧ N[j]? = some m ∧ sc.names.lookup m = some .local := by
        split at h4
        · rename_i q1 q2
          exact .inl ⟨rfl, q2⟩
        · rename_i m j q2
          simp only [Bool.and_eq_true, decide_eq_true_eq] at h4
          exact .inr ⟨m, j, rfl, q2, h4.1, h4.2⟩
        · cases h4
      have lt2 : ∀ {Z : Cx}, Z.N = N → ∀ j, p.i = some j → j < Z.N.length := fun {Z} e j ej => by
        rcases slot with ⟨_, q⟩ | ⟨m, j2, q1, q2, q3, q4⟩
        · rw [q] at ej; cases ej
        · rw [q2] at ej
          cases ej
          rw [e]
          exact (List.getElem?_eq_some_iff.mp q3).1
      have cons : (p.Ok ct X.K) → (∀ Z : Cx, Z.mg = X.mg → Z.K = X.K → Z.N = N → Z.env.scope = sc → ∀ (a : Addr) (oe : Obj) (cls : Value) (d : Option Addr) (pn : List (Addr × Obj)), Zc cls d oe → (∃ vs, oe.data = .fields vs) → PSs (Z.suite a ((a, oe) :: pn)) (b0 :: su) (tsG p.i (p.x.g ct p.c) a cls d)) →
          (∀ Z : Cx, Z.mg = X.mg → Z.K = X.K → Z.N = N → Z.env.scope = sc → HdsN Z (.ExceptHandler (some (.Name y.name px)) n (b0 :: su) pp :: hds2) (hdl (hvs ct (p :: l)))) ∧ ∀ h ∈ p :: l, h.Ok ct X.K ∧ ∀ n cls, ct n = some cls → ∃ cv, ct h.c = some cv ∧ PySem.W.exmOne X.K cls cv = some (h.cs.contains n) := fun ok su => by
        refine ⟨fun Z e3 eK eN e4 => ?_, fun a ha => ?_⟩
        · show HdsN Z _ (((ct _).getD .none, _, _) :: _)
          rw [e2]
          refine .cons ⟨glB_ok h2 e4, (okName_1 h3).1, .inl (by rw [e3]; exact xo.mg)⟩ ?_ (su Z e3 eK eN e4) (i1 Z e3 eK eN e4)
          rcases slot with q | ⟨m, j, q1, q2, q3, q4⟩
          · exact .inl q
          · exact .inr ⟨m, j, q1, q2, by rw [eN]; exact q3, by unfold Env.kindOf; rw [e4]; exact q4⟩
        · rcases List.mem_cons.mp ha with rfl | ha
          · exact ⟨ok, hx⟩
          · exact i2 a ha
      obtain ⟨c, cs, i, tx⟩ := p
      have fldp : ∀ {e f : Str}, xfoB xs sc ⟨c, cs, i, tx⟩ n e f = true → (∃ j, n = some e ∧ i = some j ∧ N[j]? = some e) ∧ visB sc e = true ∧ okName e = true ∧ cs = [c] ∧ (∀ cls, ct c = some cls → ∀ g, FldOk X.K cls g → g = f) ∧ L2.XfC X.K cl ∧ PySem.W.findIn X.K (.ref cl) f = some none := fun {e f} q => by
        simp only [xfoB, Bool.and_eq_true, decide_eq_true_eq] at q
        obtain ⟨⟨⟨⟨q1, q2⟩, q3⟩, q4⟩, q5⟩ := q
        obtain ⟨y2, ey2, ef⟩ := Option.bind_eq_some_iff.mp q5
        rw [ey] at ey2
        cases ey2
        obtain ⟨fi, cc, co, T⟩ := xo.ini _ ef
        refine ⟨?_, q2, q3, q4, fun cls e3 g hg => ?_, xo.xf _ ef, T.nof⟩
        · rcases slot with ⟨z1, z2⟩ | ⟨m, j, z1, z2, z3, z4⟩
          · rw [z1] at q1; cases q1
          · rw [z1] at q1
            cases q1
            exact ⟨j, z1, z2, z3⟩
        · rw [e2] at e3
          cases e3
          exact T.one hg
      have vis : ∀ {Z : Cx} {e : Str}, Z.env.scope = sc → visB sc e = true → Vis Z.env.scope e := fun {Z e} q h => by
        rw [q]
        revert h
        unfold visB Vis
        split <;> simp_all
      cases tx with
      | cst v =>
        unfold txB at ht
        split at ht
        all_goals first | contradiction | skip
        all_goals first | (rename_i hq1 hq; cases hq1; done) | skip
        rename_i hq1 hq
        cases hq1
        cases hq
        exact cons trivial fun Z e3 eK eN e4 a oe cls d pn _ _ => tsG_pss (pss_one (ps_ret (tcB_ok _ _ ht))) (lt2 eN) fun D s H _ g => g
      | fld f =>
        unfold txB at ht
        split at ht
        all_goals first | contradiction | skip
        all_goals first | (rename_i hq1 hq; cases hq1; done) | skip
        rename_i hq1 hq
        cases hq1
        cases hq
        simp only [Bool.and_eq_true, decide_eq_true_eq] at ht
        obtain ⟨rfl, ht⟩ := ht
        obtain ⟨⟨j, z1, z2, z3⟩, k1, k2, k3, k4, k5, k6⟩ := fldp ht
        refine cons ⟨k3, k4⟩ fun Z e3 eK eN e4 a oe cls d pn hz hf => tsG_pss (pss_one (ps_ret (pe_xf (C := cl) (by rw [eK]; exact k5) (by rw [eK]; exact k6) hz hf (pe_var (X := Z.suite a ((a, oe) :: pn)) (i := j) (by show Z.N[j]? = _; rw [eN]; exact z3) (vis e4 k1) (okName_1 k2).1 (okName_1 k2).2)))) (lt2 eN) fun D s H sl q => ?_
        obtain ⟨ec, da, v, h1, h2, h3⟩ := q
        rw [e2] at ec
        cases ec
        exact ⟨_, sl j z2, rfl, rfl, da, [(_, v)], v, h1, h2, by simp [List.lookup], h3⟩
      | prF t f =>
        unfold txB at ht
        split at ht
        all_goals first | contradiction | skip
        all_goals first | (rename_i hq1 hq; cases hq1; done) | skip
        rename_i hq1 hq
        cases hq1
        cases hq
        simp only [Bool.and_eq_true, decide_eq_true_eq] at ht
        obtain ⟨⟨rfl, rfl⟩, ht⟩ := ht
        obtain ⟨⟨j, z1, z2, z3⟩, k1, k2, k3, k4, k5, k6⟩ := fldp ht
        refine cons ⟨k3, k4⟩ fun Z e3 eK eN e4 a oe cls d pn hz hf => tsG_pss (pss_one (ps_ret (pe_tup (pa_cons pe_str (pa_cons (pe_xf (C := cl) (by rw [eK]; exact k5) (by rw [eK]; exact k6) hz hf (pe_var (X := Z.suite a ((a, oe) :: pn)) (i := j) (by show Z.N[j]? = _; rw [eN]; exact z3) (vis e4 k1) (okName_1 k2).1 (okName_1 k2).2)) pa_nil))))) (lt2 eN) fun D s H sl q => ?_
        obtain ⟨ec, da, v, h1, h2, h3⟩ := q
        rw [e2] at ec
        cases ec
        exact ⟨_, sl j z2, rfl, rfl, da, [(_, v)], v, h1, h2, by simp [List.lookup], h3⟩
      | isx g v =>
        unfold txB at ht
        split at ht
        all_goals first | contradiction | skip
        all_goals first | (rename_i hq1 hq; cases hq1; done) | skip
        rename_i hq1 hq
        cases hq1
        cases hq
        simp only [Bool.and_eq_true, decide_eq_true_eq] at ht
        obtain ⟨⟨⟨⟨⟨⟨⟨⟨⟨⟨⟨⟨⟨⟨rfl, rfl⟩, g1⟩, rfl⟩, q1⟩, k1⟩, k2⟩, t1⟩, t2⟩, t3⟩, rfl⟩, t5⟩, k3⟩, t6⟩, t7⟩ := ht
        rw [ey, Option.any_some, Bool.and_eq_true] at t6
        obtain ⟨yg, eg, rfl⟩ := Option.map_eq_some_iff.mp t1
        obtain ⟨clg, eg2, xog⟩ := hc _ yg eg
        obtain ⟨j, z2, z3⟩ : ∃ j, i = some j ∧ N[j]? = some _ := by
          rcases slot with ⟨z1, z2⟩ | ⟨m, j, z1, z2, z3, z4⟩
          · rw [z1] at q1; cases q1
          · rw [z1] at q1
            cases q1
            exact ⟨j, z2, z3⟩
        have I := xo.isx t6.1
        have kg : PySem.W.kitOne X.K (.ref cl) (.ref clg) = some true := kit_of (by rw [hm _ _ _ _ _ ey e2 eg2, t6.2])
        refine cons k3 fun Z e3 eK eN e4 a oe cls d pn hz hf => ⟨fun pins s z H D J w => ?_⟩
        obtain ⟨ec, ed, w2⟩ := w.2
        rw [e2] at ec
        cases ec
        subst ed
        have sl : z[j]? = some (some (.ref a)) := w.1 j z2 (by rw [J.len]; exact lt2 eN j z2)
        have hv := fun pos => pe_var (X := Z.suite a ((a, oe) :: pn)) (i := j) (pos := pos) (by show Z.N[j]? = _; rw [eN]; exact z3) (vis e4 k1) (okName_1 k2).1 (okName_1 k2).2
        have hi : Z.mg "isinstance" = none := by rw [e3]; exact hb _ (by decide)
        have hve : Z.mg "ValueError" = none := by rw [e3]; exact hb _ (by decide)
        have ci : CallR (Z.suite a ((a, oe) :: pn)) (.builtin "isinstance") (L2.rIsE Z.K cl a) := L2.call_isE (by rw [eK]; exact I.e) hz hf
        refine (pss_one (ps_if (PW.pt (pw_and (pt_val (pe_callB ci (glB_ok g1 e4) hi (by decide +kernel) (pa_cons (hv _) (pa_cons (pe_glob (v := .ref clg) (glB_ok t2 e4) (by show Z.mg _ = _; rw [e3]; exact xog.mg) rfl (okName_1 t3).1) pa_nil)) (by decide) (by decide)))
          (pw_and1 (pt_val (pe_callB ci (glB_ok g1 e4) hi (by decide +kernel) (pa_cons (hv _) (pa_cons (pe_bltn (v := .ty "ValueError") (glB_ok t5 e4) hve L2.boot_ValueError rfl (by decide) (by decide)) pa_nil)) (by decide) (by decide))))))
          (pss_one (ps_ret (tcB_ok v _ t7))) pss_nil)).run pins s z H D J ?_
        refine ⟨_, sl, .ref clg, .ref clg, true, rfl, fun u r => r, by rw [eK]; exact kg, true, rfl, iteT ⟨_, sl, .ty "ValueError", .type "ValueError", true, rfl, fun u r => r, by rw [eK]; exact I.v, true, rfl, iteT w2⟩⟩
    · cases h
/-- the body of a lambda -/
theorem Gd.lamc (g : Gd k ct B C ES X) {B2 : BP} {ES2 : XS} (eT : B2.T = B.T) {A : Around} {outer : List Env} {s : Shared} {H : Hp} {E : XK} {sc : Scope} {f c2 : Addr} {n : Nat} (tk : Takes (LamX.lamCx X A outer s H E sc f c2) (wx ct B2 X.K ES2)) (hr : Room n (A.deeper (LamX.lamEnv X sc s.heap.objs.size f c2)))
    (hf : ∀ f nm np, k.defs[f]? = some (nm, np) → ∃ fa fd ps, ps.length = np ∧ X.mg nm = some (.ref fa) ∧ PySem.W.keepIn X.K (.ref fa) = true ∧ FnOk X.prog X.w X.K X.mg X.base (L2.CX X.prog X.w) n fa fd ps (spOf B.T ct X.K C f np) ∧ Binds X.K fd ps []) :
    Gd { k with sc := sc, all := fun _ => false, gen := false, ng := false, fr := false, lam := false } ct B2 C ES2 (LamX.lamCx X A outer s H E sc f c2) where
  N := g.N
  sc := rfl
  calm := fun _ => rfl
  nd := g.nd
  fn := fun x h => by cases h
  pass := passes_of rfl
  tk := tk
  blt := g.blt
  con := g.con
  gen := fun h => by cases h
  nl := by rw [eT]; exact g.nl
  frig := fun h => by cases h
  un := by
    have := hr.un
    show (A.deeper (LamX.lamEnv X sc s.heap.objs.size f c2)).units + 65 < cLine
    omega
  stk := fun h => by cases h
  xn := g.xn
  xc := g.xc
  xm := g.xm
  lam := fun h => by cases h
  ths := g.ths
  fns := fun _ => ⟨n, hr, by rw [eT]; exact hf⟩
theorem thk_snd {ie : IE} {th : TH} {ps : Arguments} {body : Expr} {sc : Scope} {p lpos pos : Pos} {co P : Addr} {n : Nat} (g : Gd k ct B C ES X) (ht : (∃ fa fd, X.mg th.name = some (.ref fa) ∧ Fun X.K th.name th.name th.st fa fd ∧ Binds X.K fd [th.a] []) ∧ thB k.xs th = true)
    (hcode : X.env.code = .ref co) (TB : LamX.TabB X.base X.mg co P) (hP : B.T P) (nm : LamT.nm P = some (lamQ X)) (lp : LamT.lp P lpos.line lpos.col = true) (hr : Room (n + 2) X.A) (hg : Gl X th.name) (hdb : (th.name == ("__debug__" : Str)) = false) (L : LamX.LamS X.env.scope sc) (he : emptyA ps = true)
    (hbody : ∀ (A : Around) (outer : List Env) (s : Shared) (H : Hp) (E : XK) (f c2 : Addr), Room n (A.deeper (LamX.lamEnv X sc s.heap.objs.size f c2)) → PE (LamX.lamCx X A outer s H E sc f c2) body (tLam1 B.T ct X.K C ie E)) :
    PE X (.Call (.Name th.name p) [.Lambda ps body sc lpos] [] pos) (liftE B X.K (wpK C th.m th.hs ie)) := by
  obtain ⟨⟨fa, fd, hm, F, hb⟩, ht⟩ := ht
  simp only [thB, Bool.and_eq_true] at ht
  obtain ⟨⟨h1, h2⟩, h3⟩ := ht
  have S := scB_ok h1
  obtain ⟨_, _, _, _, _, _, cdv, _, _, rfl, lk, hcd⟩ := F.ex
  have n0 : th.N[0]? = some th.a := by
    have := S.pre
    cases e : th.N with
    | nil => rw [e] at this; simp at this
    | cons a r => rw [e] at this; simp at this; rw [this]; rfl
  have hva : Vis (defScope th.st) th.a := by
    rcases S.par th.a (by simp) with q | q
    · exact .inl q
    · exact .inr (.inl q)
  have st0 : ∀ f : Addr, (L2.start th.N [V.ref f])[0]? = some (some (V.ref f)) := fun f => rfl
  have hps : ps = ⟨[], [], none, [], [], none, []⟩ := by
    unfold emptyA at he
    split at he
    · rfl
    · cases he
  subst hps
  have fin : ∀ {l : List (Value × Str)}, LamX.GivesTo X th.N th.name (defScope th.st) fa cdv (defBody th.st) th.a (lamQ X) (TTh X.K th.m (hvs ct th.hs)) → (∀ h ∈ th.hs, h.Ok ct X.K ∧ ∀ n cls, ct n = some cls → ∃ cv, ct h.c = some cv ∧ PySem.W.exmOne X.K cls cv = some (h.cs.contains n)) →
      PE X (.Call (.Name th.name p) [.Lambda ⟨[], [], none, [], [], none, []⟩ body sc lpos] [] pos) (liftE B X.K (wpK C th.m th.hs ie)) := fun {l} hG hx =>
    pe_imp (pe_thk hg hm F.kp lk hcd hb S n0 hva hG TB hcode nm lp hr L rfl (fun _ _ _ _ _ => rfl) hbody hdb (okName_1 h2).1 (okName_1 h2).2) (thk_ok hP hx)
  have nd := S.nd
  split at h3
  · rename_i e1 e2
    simp only [Bool.and_eq_true, decide_eq_true_eq] at h3
    obtain ⟨rfl, h3⟩ := h3
    obtain ⟨i1, i2⟩ := hdB_ok (X := X) g.blt g.xn g.xc g.xm _ _ h3
    refine fin (l := []) ?_ i2
    rw [e1, e2]
    exact gives_ret nd st0 fun s H => i1 _ rfl rfl rfl rfl
  · rename_i e1 e2
    simp only [Bool.and_eq_true, decide_eq_true_eq] at h3
    obtain ⟨⟨rfl, rfl⟩, h3⟩ := h3
    obtain ⟨i1, i2⟩ := hdB_ok (X := X) g.blt g.xn g.xc g.xm _ _ h3
    refine fin (l := []) ?_ i2
    rw [e1, e2]
    exact gives_tell nd st0 fun s H => i1 _ rfl rfl rfl rfl
  · rename_i e1 e2
    simp only [Bool.and_eq_true, decide_eq_true_eq] at h3
    obtain ⟨⟨rfl, hf⟩, h3⟩ := h3
    obtain ⟨i1, i2⟩ := hdB_ok (X := X) g.blt g.xn g.xc g.xm _ _ h3
    refine fin (l := []) ?_ i2
    rw [e1, e2]
    exact gives_drop nd st0 (fun s H => i1 _ rfl rfl rfl rfl) hf fun s H => rfl
  · cases h3
end
mutual
theorem sndE : ∀ (i : IE) (k : Ck) (e : Expr) {ct : CT} {B : BP} {C : Cl} {ES : XS} {X : Cx}, Gd k ct B C ES X → chkE i k e = true → Both B X C ES i e
  | .var i, k, e, ct, B, C, ES, X, g, h => by
    simp only [chkE] at h
    split at h
    · simp only [Bool.and_eq_true, decide_eq_true_eq] at h
      obtain ⟨h1, h2⟩ := okName_1 h.2
      exact .plain (snd_var (by rw [g.N]; exact h.1.1) (g.vis h.1.2) h1 h2) (fun _ => rfl) (fun _ _ _ z => by cases z)
    · cases h
  | .cint j, k, e, ct, B, C, ES, X, g, h => by
    simp only [chkE] at h
    split at h
    · simp only [decide_eq_true_eq] at h
      subst h
      exact .val (snd_const pe_int (fun s st R h => by simpa only [wpE] using h) fun _ _ _ => .int _) rfl
    · cases h
  | .cbl j, k, e, ct, B, C, ES, X, g, h => by
    simp only [chkE] at h
    split at h
    · simp only [decide_eq_true_eq] at h
      subst h
      exact .val (snd_const pe_bl (fun s st R h => by simpa only [wpE] using h) fun _ _ _ => .bl _) rfl
    · cases h
  | .cnon, k, e, ct, B, C, ES, X, g, h => by
    simp only [chkE] at h
    split at h
    · exact .val (snd_const pe_non (fun s st R h => by simpa only [wpE] using h) fun _ _ _ => .non) rfl
    · cases h
  | .cstr j, k, e, ct, B, C, ES, X, g, h => by
    simp only [chkE] at h
    split at h
    · simp only [decide_eq_true_eq] at h
      subst h
      exact .val (snd_const pe_str (fun s st R h => by simpa only [wpE] using h) fun _ _ _ => .str _) rfl
    · cases h
  | .con c, k, e, ct, B, C, ES, X, g, h => by
    simp only [chkE] at h
    split at h
    · simp only [Bool.and_eq_true, decide_eq_true_eq] at h
      obtain ⟨u, hm, r⟩ := g.con _ _ h.1.1
      refine .val (snd_const (v := c.v) (d := c.d) (pe_glob (g.gl h.1.2) hm r (okName_1 h.2).1) (fun s st R h => by simpa only [wpE] using h) fun _ _ _ => ?_) rfl
      cases c
      · exact .int _
      · exact .str _
    · cases h
  | .cty n, k, e, ct, B, C, ES, X, g, h => by
    simp only [chkE] at h
    split at h
    · simp only [Bool.and_eq_true, decide_eq_true_eq] at h
      obtain ⟨⟨rfl, h2⟩, h3⟩ := h
      obtain ⟨q1, q2, q3, q4⟩ := ty_known h2
      exact .val (snd_const (v := .ty n) (d := .ty n) (pe_bltn (g.gl h3) (g.blt _ q1) q2 rfl q3 q4) (fun s st R h => by simpa only [wpE] using h) fun _ _ _ => .ty _) rfl
    · cases h
  | .nope, k, e, ct, B, C, ES, X, g, h => .val ⟨fun pins s z H Q I q => by
      obtain ⟨_, _, _, _, _, _, q, _⟩ := q
      simp only [wpE] at q⟩ rfl
  | .bin o a b, k, e, ct, B, C, ES, X, g, h => by
    simp only [chkE] at h
    split at h
    · simp only [Bool.and_eq_true] at h
      obtain ⟨r, h1, h2⟩ := op_of (X := X) o
      rw [bopB_eq h.1.1]
      exact .val (snd_bin h1 h2 (sndE a k _ g h.1.2).1 (sndE b k _ g h.2).1) rfl
    · cases h
  | .neg a, k, e, ct, B, C, ES, X, g, h => by
    simp only [chkE] at h
    split at h
    · exact .val (snd_neg (sndE a k _ g h).1) rfl
    · cases h
  | .cmp o a b, k, e, ct, B, C, ES, X, g, h => by
    simp only [chkE] at h
    split at h
    · simp only [Bool.and_eq_true, Bool.not_eq_true'] at h
      obtain ⟨r, h1, h2⟩ := cop_of (X := X) g.units o
      have e1 := copB_eq h.1.1.1
      subst e1
      have ha := (sndE a k _ g h.1.2).1
      have hb := (sndE b k _ g h.2).1
      exact .test (snd_cmp h1 h2 h.1.1.2 ha hb) (fun _ => snd_cmpT h1 h2 h.1.1.2 ha hb) (fun _ _ _ z => by cases z)
    · cases h
  | .cmp2 o o2 a b c, k, e, ct, B, C, ES, X, g, h => by
    simp only [chkE] at h
    split at h
    · simp only [Bool.and_eq_true, Bool.not_eq_true'] at h
      obtain ⟨r, h1, h2⟩ := cop_of (X := X) g.units o
      obtain ⟨r2, h3, h4⟩ := cop_of (X := X) g.units o2
      have e1 := copB_eq h.1.1.1.1.1
      have e2 := copB_eq h.1.1.1.1.2
      subst e1
      subst e2
      have ha := (sndE a k _ g h.1.1.2).1
      have hb := (sndE b k _ g h.1.2).1
      have hc := (sndE c k _ g h.2).1
      exact .test (snd_cmp2 h1 h2 h3 h4 h.1.1.1.2 ha hb hc) (fun _ => snd_cmp2T h1 h2 h3 h4 h.1.1.1.2 ha hb hc) (fun _ _ _ z => by cases z)
    · cases h
  | .and a b, k, e, ct, B, C, ES, X, g, h => by
    simp only [chkE] at h
    split at h
    · simp only [Bool.and_eq_true] at h
      have ha := sndE a k _ g h.1
      have hb := sndE b k _ g h.2
      refine ⟨snd_and ha.1 (pe_one hb.1), fun t => ?_⟩
      simp only [tstB, Bool.and_eq_true] at t
      exact ⟨(snd_andT (ha.2 t.1).1 (pw_and1 (hb.2 t.2).1)).pt, fun _ _ _ _ => snd_andT (ha.2 t.1).1 (pw_and1 (hb.2 t.2).1)⟩
    · simp only [Bool.and_eq_true] at h
      have ha := sndE a k _ g h.1
      have hb := sndE b k _ g h.2
      refine ⟨snd_and ha.1 hb.1, fun t => ?_⟩
      simp only [tstB, Bool.and_eq_true] at t
      exact ⟨(snd_andT (ha.2 t.1).1 ((hb.2 t.2).2 _ _ _ rfl)).pt, fun _ _ _ _ => snd_andT (ha.2 t.1).1 ((hb.2 t.2).2 _ _ _ rfl)⟩
    · cases h
  | .or a b, k, e, ct, B, C, ES, X, g, h => by
    simp only [chkE] at h
    split at h
    · simp only [Bool.and_eq_true] at h
      have ha := sndE a k _ g h.1
      have hb := sndE b k _ g h.2
      refine ⟨snd_or ha.1 (pe_one hb.1), fun t => ?_⟩
      simp only [tstB, Bool.and_eq_true] at t
      exact ⟨(snd_orT (ha.2 t.1).1 (pw_or1 (hb.2 t.2).1)).pt, fun _ _ _ _ => snd_orT (ha.2 t.1).1 (pw_or1 (hb.2 t.2).1)⟩
    · simp only [Bool.and_eq_true] at h
      have ha := sndE a k _ g h.1
      have hb := sndE b k _ g h.2
      refine ⟨snd_or ha.1 hb.1, fun t => ?_⟩
      simp only [tstB, Bool.and_eq_true] at t
      exact ⟨(snd_orT (ha.2 t.1).1 ((hb.2 t.2).2 _ _ _ rfl)).pt, fun _ _ _ _ => snd_orT (ha.2 t.1).1 ((hb.2 t.2).2 _ _ _ rfl)⟩
    · cases h
  | .not a, k, e, ct, B, C, ES, X, g, h => by
    simp only [chkE] at h
    split at h
    · have ha := sndE a k _ g h
      exact .test (snd_not ha.1) (fun t => snd_notT (ha.2 (by simpa only [tstB] using t)).1) (fun _ _ _ z => by cases z)
    · cases h
  | .ife t a b, k, e, ct, B, C, ES, X, g, h => by
    simp only [chkE] at h
    split at h
    · simp only [Bool.and_eq_true] at h
      exact .val (snd_ife ((sndE t k _ g h.1.1.2).2 h.1.1.1).1 (sndE a k _ g h.1.2).1 (sndE b k _ g h.2).1) rfl
    · cases h
  | .tup es, k, e, ct, B, C, ES, X, g, h => by
    simp only [chkE] at h
    split at h
    · simp only [Bool.and_eq_true, decide_eq_true_eq] at h
      exact .val (snd_tup (Nat.le_trans h.1 (by decide)) (sndEs es k _ g h.2)) rfl
    · cases h
  | .lst y es, k, e, ct, B, C, ES, X, g, h => by
    simp only [chkE] at h
    split at h
    · simp only [Bool.and_eq_true, decide_eq_true_eq] at h
      exact .val (snd_lst (Nat.le_trans h.1 (by decide)) (sndEs es k _ g h.2)) rfl
    · cases h
  | .frz a, k, e, ct, B, C, ES, X, g, h => by
    simp only [chkE] at h
    exact .val (snd_frz (sndE a k _ g h).1) rfl
  | .call f es, k, e, ct, B, C, ES, X, g, h => by
    simp only [chkE] at h
    split at h
    · simp only [Bool.and_eq_true, decide_eq_true_eq, Bool.not_eq_true'] at h
      obtain ⟨h, hk⟩ := h
      obtain ⟨n, hr, hf⟩ := g.fns hk
      obtain ⟨fa, fd, ps, hl, hm, hk, F, hb⟩ := hf _ _ _ h.1.1.1
      rw [← hl] at F
      have ha := sndEs es k _ g h.2
      rw [← hl] at ha
      exact .plain (snd_call F (hr.mono (Nat.le_trans (Nat.le_add_right _ _) (Nat.le_add_right _ _))) (g.gl h.1.1.2) hm hk hb g.tk (okName_1 h.1.2).1 (chkEs_star h.2).1 ha) (fun _ => rfl) (fun _ _ _ z => by cases z)
    · cases h
  | .bi f es, k, e, ct, B, C, ES, X, g, h => by
    simp only [chkE] at h
    split at h
    · simp only [Bool.and_eq_true, decide_eq_true_eq, Bool.or_eq_true, Bool.not_eq_true'] at h
      obtain ⟨h, hk⟩ := h
      exact .plain (bi_rule k g f (hk.imp g.calm id) h.1.1 (g.gl h.1.2) (chkEs_star h.2).1 (sndEs es k _ g h.2)) (fun _ => rfl) (fun _ _ _ z => by cases z)
    · cases h
  | .ix a b, k, e, ct, B, C, ES, X, g, h => by
    simp only [chkE] at h
    split at h
    · simp only [Bool.and_eq_true] at h
      exact .plain (snd_ix (sndE a k _ g h.1.2).1 (sndE b k _ g h.2).1 (plainIx h.1.1)) (fun _ => rfl) (fun _ _ _ z => by cases z)
    · cases h
  | .sl y a lo hi, k, e, ct, B, C, ES, X, g, h => by
    simp only [chkE] at h
    split at h
    · simp only [Bool.and_eq_true] at h
      exact .val (snd_sl (sndE a k _ g h.1.1).1 (sndO lo k _ g h.1.2) (sndO hi k _ g h.2)) rfl
    · cases h
  | .lc own t it ts el, k, e, ct, B, C, ES, X, g, h => by
    simp only [chkE] at h
    split at h
    · rename_i elt tg iter ifs scope pos
      simp only [Bool.and_eq_true, Bool.not_eq_true'] at h
      obtain ⟨⟨⟨⟨⟨⟨⟨h1, h2⟩, h3⟩, h4⟩, h5⟩, h6⟩, h7⟩, hk⟩ := h
      have ok := blkOk_by h3
      rw [← g.N, ← g.sc] at ok
      have hi := sndI it k iter (tg := tg) g h2
      have hg : ∀ (s : Shared) (H : Hp) (p : Addr) (cl : List (Str × Addr)) (fp : List Addr), PG (X.blk s H scope (compEnvC scope cl p X.env) fp) tg (liftG (BT B.T) X.K t) := fun s H p cl fp => sndG t _ tg (g.blk s H scope p cl fp) h5
      have ht : ∀ (s : Shared) (H : Hp) (p : Addr) (cl : List (Str × Addr)) (fp : List Addr), PTs (X.blk s H scope (compEnvC scope cl p X.env) fp) ifs (liftT (BT B.T) X.K (wpTs C XF ts)) := fun s H p cl fp => sndTs ts _ ifs (g.blk s H scope p cl fp) h6
      have he : ∀ (s : Shared) (H : Hp) (p : Addr) (cl : List (Str × Addr)) (fp : List Addr), PE (X.blk s H scope (compEnvC scope cl p X.env) fp) elt (liftE (BT B.T) X.K (wpE C XF el)) := fun s H p cl fp => (sndE el _ elt (g.blk s H scope p cl fp) h7).1
      have ho : ∀ i ∈ t.slots, i ∈ (ownOf X.N own).map (·.2) := fun i hi => by
        rw [ownOf_snd]
        simpa using List.all_eq_true.mp h4 i hi
      have r := snd_lc (X := X) (C := C) (ES := ES) (g.calm hk) g.nd hi ok hg ht he (fold_ok h1) ho
      have q := pe_lc (pos := pos) (g.calm hk) g.nd hi ok hg ht he (fold_ok h1)
      rw [ownOf_snd] at r q
      exact .val (pe_imp q r) rfl
    · cases h
  | .thk t m hs ie, k, e, ct, B, C, ES, X, g, h => by
    simp only [chkE] at h
    split at h
    · rename_i x p ps body sc lpos pos
      simp only [Bool.and_eq_true, Bool.not_eq_true'] at h
      obtain ⟨hlp, ⟨⟨⟨⟨⟨⟨h0, h1⟩, h2⟩, h3⟩, hk⟩, h5⟩, h6⟩, h7⟩ := h
      split at h0
      · rename_i th hth
        simp only [Bool.and_eq_true, decide_eq_true_eq] at h0
        obtain ⟨⟨rfl, rfl⟩, rfl⟩ := h0
        obtain ⟨co, P, hcode, TB, hP, nm, lpp⟩ := g.lam h3
        obtain ⟨n, hr, hfn⟩ := g.fns hk
        rw [if_pos h3] at hr
        replace hr : Room (n + 2) X.A := hr.mono (by omega)
        have L := LamX.lamS_by h5
        rw [← g.sc] at L
        refine .plain ?_ (fun _ => rfl) (fun _ _ _ z => by cases z)
        refine pe_imp (thk_snd (p := p) (lpos := lpos) (pos := pos) (ie := ie) g (g.ths _ _ hth) hcode TB hP nm (lpp _ _ hlp) hr (g.gl h1) (okName_1 h2).1 L h6 (body := body) fun A outer s H E f c2 hr2 => ⟨fun pins s2 z2 H2 Q J y => ?_⟩) ?_
        case refine_2 =>
          rintro s H Q ⟨hd, z, st, R, sr, so, hw, q⟩
          simp only [wpE] at hw
          exact ⟨hd, z, st, R, sr, so, hw, q⟩
        · obtain ⟨hd, z, st, R, EE, sr, tb, so, hw, q1, q2⟩ := y
          refine (sndE ie _ body (g.lamc (B2 := BFrom B.T X.K hd st H2 tb) (ES2 := fun x _ st => EE x st) rfl ((takes_of rfl rfl rfl rfl).imp ?_) hr2 hfn) h7).1.run pins s2 z2 H2 Q J ⟨hd, z, st, R, ⟨sr, rfl, .refl⟩, so, hw, q1⟩
          rintro cls dd z3 H3 ⟨hs2, z4, x, st2, sr2, so2, xr, h3⟩
          obtain ⟨e3, t3⟩ := sr2.b
          cases e3
          exact q2 x st2 cls dd H3 h3 t3 xr so2
      · cases h0
    · cases h
  | .mnk mx i ia el, k, e, ct, B, C, ES, X, g, h => by
    simp only [chkE] at h
    split at h
    · rename_i x p y kw ps body sc lpos kpos pos
      simp only [Bool.and_eq_true, Bool.not_eq_true', decide_eq_true_eq] at h
      obtain ⟨hlp, ⟨⟨⟨⟨⟨⟨⟨hx, rfl⟩, h1⟩, h3⟩, hk⟩, hs⟩, hc⟩, hn⟩, h7⟩ := h
      split at hn
      · rename_i a ha
        simp only [Bool.and_eq_true] at hn
        obtain ⟨ho, hl⟩ := hn
        obtain ⟨co, P, hcode, TB, hP, nm, lpp⟩ := g.lam h3
        obtain ⟨n, hr, hfn⟩ := g.fns hk
        rw [if_pos h3] at hr
        replace hr : Room (n + 2) X.A := hr.mono (by omega)
        have L := lamS1_by hl
        rw [← g.sc] at L
        unfold oneA at ho
        split at ho
        · rename_i b
          have hb := of_decide_eq_true ho
          have hN : X.N[i]? = some a := by rw [g.N]; exact ha
          obtain ⟨b1, b2, b3⟩ := b
          simp only at hb
          subst hb
          refine .plain ?_ (fun _ => rfl) (fun _ _ _ z => by cases z)
          have hbd : ∀ (A : Around) (outer : List Env) (s : Shared) (H : Hp) (f c2 : Addr), Room n (A.deeper (LamX.lamEnv X sc s.heap.objs.size f c2)) → PE (LamX.lamCx X A outer s H (fun _ _ _ => False) sc f c2) body (tLam1 B.T ct X.K C el (fun _ _ _ => False)) := by
            intro A outer s H f c2 hr2
            refine ⟨fun pins s2 z2 H2 Q J yy => ?_⟩
            obtain ⟨hd, zz, st, R, EE, sr, tb, so, hw, q1, q2⟩ := yy
            refine (sndE el _ body (g.lamc (B2 := BFrom B.T X.K hd st H2 tb) (ES2 := fun x _ st => EE x st) rfl ((takes_of rfl rfl rfl rfl).imp ?_) hr2 hfn) h7).1.run pins s2 z2 H2 Q J ⟨hd, zz, st, R, ⟨sr, rfl, .refl⟩, so, hw, q1⟩
            rintro cls dd z3 H3 ⟨hs2, z4, x, st2, sr2, so2, xr, h3⟩
            obtain ⟨e3, t3⟩ := sr2.b
            cases e3
            exact q2 x st2 cls dd H3 h3 t3 xr so2
          cases mx with
          | true =>
            have hx : x = ("max" : Str) := hx
            subst hx
            exact pe_imp (pe_maxk (p := p) (lpos := lpos) (kpos := kpos) (pos := pos) (tb := tLam1 B.T ct X.K C el (fun _ _ _ => False)) (g.calm hk) g.un (g.gl h1) (g.blt _ (by decide)) (sndE ia k y g hc).1 TB hcode nm (lpp _ _ hlp) hr L hN g.nd rfl (fun _ _ _ _ _ _ => bind1) hbd (star_cons hs)) (mnk_ok hP)
          | false =>
            have hx : x = ("min" : Str) := hx
            subst hx
            exact pe_imp (pe_mink (p := p) (lpos := lpos) (kpos := kpos) (pos := pos) (tb := tLam1 B.T ct X.K C el (fun _ _ _ => False)) (g.calm hk) g.un (g.gl h1) (g.blt _ (by decide)) (sndE ia k y g hc).1 TB hcode nm (lpp _ _ hlp) hr L hN g.nd rfl (fun _ _ _ _ _ _ => bind1) hbd (star_cons hs)) (mnk_ok hP)
        · cases ho
      · cases hn
    · cases h
  | .dnew t, k, e, ct, B, C, ES, X, g, h => by
    simp only [chkE] at h
    split at h
    · exact .plain snd_dnew (fun _ => rfl) (fun _ _ _ z => by cases z)
    · cases h
  | .dg a b, k, e, ct, B, C, ES, X, g, h => by
    simp only [chkE] at h
    split at h
    · simp only [Bool.and_eq_true] at h
      exact .plain (snd_dg g.units (sndE a k _ g h.1.2).1 (sndE b k _ g h.2).1 (plainIx h.1.1)) (fun _ => rfl) (fun _ _ _ z => by cases z)
    · cases h
  | .din n a b, k, e, ct, B, C, ES, X, g, h => by
    simp only [chkE] at h
    split at h
    · simp only [Bool.and_eq_true, Bool.not_eq_true'] at h
      have e1 := copB_eq h.1.1.1
      have e2 : _ = (if n then CmpOp.NotIn else .In) := e1.trans (by cases n <;> rfl)
      have ha := (sndE a k _ g h.1.2).1
      have hb := (sndE b k _ g h.2).1
      exact .test (snd_din e2 g.units h.1.1.2 ha hb) (fun _ => snd_dinT e2 g.units h.1.1.2 ha hb) (fun _ _ _ z => by cases z)
    · cases h
  | .dgt a b c, k, e, ct, B, C, ES, X, g, h => by
    simp only [chkE] at h
    split at h
    · simp only [Bool.and_eq_true, decide_eq_true_eq] at h
      obtain ⟨⟨⟨⟨⟨⟨⟨rfl, h2⟩, h3⟩, h4⟩, h5⟩, h6⟩, h7⟩, h8⟩ := h
      exact .plain (snd_dgt g.units (sndE a k _ g h6).1 (sndE b k _ g h7).1 (sndE c k _ g h8).1 (m2_ok h2 h3 h4 h5)) (fun _ => rfl) (fun _ _ _ z => by cases z)
    · cases h
  | .dis t es, k, e, ct, B, C, ES, X, g, h => by
    simp only [chkE] at h
    split at h
    · rename_i keys vs pos
      simp only [Bool.and_eq_true, decide_eq_true_eq, Bool.not_eq_true'] at h
      obtain ⟨⟨⟨⟨⟨h1, h2⟩, h3⟩, h4⟩, h5⟩, h6⟩ := h
      exact .val (snd_dis g.units (sndDs es k keys vs pos g h6) h1 h5 h3 (fun z => by rw [z] at h4; cases h4) h2) rfl
    · cases h
  | .fzd a, k, e, ct, B, C, ES, X, g, h => by
    simp only [chkE] at h
    exact .val (snd_fzd (sndE a k _ g h).1) rfl
  | .dln a, k, e, ct, B, C, ES, X, g, h => by
    simp only [chkE] at h
    split at h
    · simp only [Bool.and_eq_true, decide_eq_true_eq] at h
      obtain ⟨⟨⟨rfl, h2⟩, h3⟩, h4⟩ := h
      exact .val (snd_dln (g.gl h2) (g.blt _ (by decide)) h3 (snd_cons h3 (sndE a k _ g h4).1 snd_nil)) rfl
    · cases h
  | .deq n a b, k, e, ct, B, C, ES, X, g, h => by
    simp only [chkE] at h
    split at h
    · simp only [Bool.and_eq_true, Bool.not_eq_true'] at h
      have e1 := copB_eq h.1.1.1
      have e2 : _ = (if n then CmpOp.NotEq else .Eq) := e1.trans (by cases n <;> rfl)
      have ha := (sndE a k _ g h.1.2).1
      have hb := (sndE b k _ g h.2).1
      exact .test (snd_deq e2 g.units h.1.1.2 ha hb) (fun _ => snd_deqT e2 g.units h.1.1.2 ha hb) (fun _ _ _ z => by cases z)
    · cases h
  | .dcp a, k, e, ct, B, C, ES, X, g, h => by
    simp only [chkE] at h
    split at h
    · simp only [Bool.and_eq_true, decide_eq_true_eq] at h
      obtain ⟨⟨⟨rfl, h2⟩, h3⟩, h4⟩ := h
      exact .val (snd_dcp (g.gl h2) (g.blt _ (by decide)) h3 (snd_cons h3 (sndE a k _ g h4).1 snd_nil)) rfl
    · cases h
  | .dpo a b, k, e, ct, B, C, ES, X, g, h => by
    simp only [chkE] at h
    split at h
    · simp only [Bool.and_eq_true, decide_eq_true_eq] at h
      obtain ⟨⟨⟨⟨⟨rfl, h2⟩, h3⟩, h4⟩, h5⟩, h6⟩ := h
      exact .val (snd_dpo (sndE a k _ g h5).1 (sndE b k _ g h6).1 (m1_ok h2 h3 h4)) rfl
    · cases h
  | .dks z a, k, e, ct, B, C, ES, X, g, h => by
    simp only [chkE] at h
    split at h
    · simp only [Bool.and_eq_true, decide_eq_true_eq, Bool.not_eq_true'] at h
      obtain ⟨⟨⟨⟨rfl, h2⟩, h3⟩, h4⟩, hk⟩ := h
      exact .val (snd_dks (g.calm hk) (g.gl h2) (g.blt _ (by decide)) h3 (snd_cons h3 (sndE a k _ g h4).1 snd_nil)) rfl
    · cases h
  | .srk z i it el, k, e, ct, B, C, ES, X, g, h => by
    simp only [chkE] at h
    split at h
    · rename_i x p y kw ps body sc lpos kpos pos
      simp only [Bool.and_eq_true, Bool.not_eq_true', decide_eq_true_eq] at h
      obtain ⟨hlp, ⟨⟨⟨⟨⟨⟨⟨rfl, rfl⟩, h1⟩, h3⟩, hk⟩, hs⟩, hc⟩, hn⟩, h7⟩ := h
      split at hn
      · rename_i a ha
        simp only [Bool.and_eq_true] at hn
        obtain ⟨ho, hl⟩ := hn
        obtain ⟨co, P, hcode, TB, hP, nm, lpp⟩ := g.lam h3
        obtain ⟨n, hr, hfn⟩ := g.fns hk
        rw [if_pos h3] at hr
        replace hr : Room (n + 2) X.A := hr.mono (by omega)
        have L := lamS1_by hl
        rw [← g.sc] at L
        unfold oneA at ho
        split at ho
        · rename_i b
          have hb := of_decide_eq_true ho
          have hN : X.N[i]? = some a := by rw [g.N]; exact ha
          obtain ⟨b1, b2, b3⟩ := b
          simp only at hb
          subst hb
          refine .plain ?_ (fun _ => rfl) (fun _ _ _ z => by cases z)
          refine pe_imp (pe_srk (p := p) (lpos := lpos) (kpos := kpos) (pos := pos) (tb := tLam1 B.T ct X.K C el (fun _ _ _ => False)) (g.calm hk) (g.gl h1) (g.blt _ (by decide)) (sndC it k y g hc) TB hcode nm (lpp _ _ hlp) hr L hN g.nd rfl (fun _ _ _ _ _ _ => bind1) (fun A outer s H f c2 hr2 => ⟨fun pins s2 z2 H2 Q J yy => ?_⟩) (star_cons hs)) (srk_ok hP)
          obtain ⟨hd, zz, st, R, EE, sr, tb, so, hw, q1, q2⟩ := yy
          refine (sndE el _ body (g.lamc (B2 := BFrom B.T X.K hd st H2 tb) (ES2 := fun x _ st => EE x st) rfl ((takes_of rfl rfl rfl rfl).imp ?_) hr2 hfn) h7).1.run pins s2 z2 H2 Q J ⟨hd, zz, st, R, ⟨sr, rfl, .refl⟩, so, hw, q1⟩
          rintro cls dd z3 H3 ⟨hs2, z4, x, st2, sr2, so2, xr, h3⟩
          obtain ⟨e3, t3⟩ := sr2.b
          cases e3
          exact q2 x st2 cls dd H3 h3 t3 xr so2
        · cases ho
      · cases hn
    · cases h
  | .lc2 own vs1 t it ts t1 it1 ts1 el, k, e, ct, B, C, ES, X, g, h => by
    simp only [chkE] at h
    split at h
    · rename_i elt tg iter ifs tg1 iter1 ifs1 scope pos
      simp only [Bool.and_eq_true, Bool.not_eq_true'] at h
      obtain ⟨⟨⟨⟨⟨⟨⟨⟨⟨⟨⟨⟨⟨h1, h1b⟩, h2⟩, h3⟩, h4⟩, h4b⟩, h4c⟩, h5⟩, h6⟩, h5b⟩, h2b⟩, h6b⟩, h7⟩, hk⟩ := h
      have ok := blkOk_by h3
      rw [← g.N, ← g.sc] at ok
      have hi := sndI it k iter (tg := tg) g h2
      have hg : ∀ (s : Shared) (H : Hp) (p : Addr) (cl : List (Str × Addr)) (fp : List Addr), PG (X.blk s H scope (compEnvC scope cl p X.env) fp) tg (liftG (BT B.T) X.K t) := fun s H p cl fp => sndG t _ tg (g.blk s H scope p cl fp) h5
      have ht : ∀ (s : Shared) (H : Hp) (p : Addr) (cl : List (Str × Addr)) (fp : List Addr), PTs (X.blk s H scope (compEnvC scope cl p X.env) fp) ifs (liftT (BT B.T) X.K (wpTs C XF ts)) := fun s H p cl fp => sndTs ts _ ifs (g.blk s H scope p cl fp) h6
      have hg1 : ∀ (s : Shared) (H : Hp) (p : Addr) (cl : List (Str × Addr)) (fp : List Addr), PG (X.blk s H scope (compEnvC scope cl p X.env) fp) tg1 (liftG (BT B.T) X.K t1) := fun s H p cl fp => sndG t1 _ tg1 (g.blk s H scope p cl fp) h5b
      have hi1 : ∀ (s : Shared) (H : Hp) (p : Addr) (cl : List (Str × Addr)) (fp : List Addr), PI (X.blk s H scope (compEnvC scope cl p X.env) fp) tg1 iter1 (liftI (BT B.T) X.K (wpI C XF it1)) := fun s H p cl fp => sndI it1 _ iter1 (tg := tg1) (g.blk s H scope p cl fp) h2b
      have ht1 : ∀ (s : Shared) (H : Hp) (p : Addr) (cl : List (Str × Addr)) (fp : List Addr), PTs (X.blk s H scope (compEnvC scope cl p X.env) fp) ifs1 (liftT (BT B.T) X.K (wpTs C XF ts1)) := fun s H p cl fp => sndTs ts1 _ ifs1 (g.blk s H scope p cl fp) h6b
      have he : ∀ (s : Shared) (H : Hp) (p : Addr) (cl : List (Str × Addr)) (fp : List Addr), PE (X.blk s H scope (compEnvC scope cl p X.env) fp) elt (liftE (BT B.T) X.K (wpE C XF el)) := fun s H p cl fp => (sndE el _ elt (g.blk s H scope p cl fp) h7).1
      have hv : ∀ i ∈ vs1, i ∈ (ownOf X.N own).map (·.2) := fun i hi => by
        rw [ownOf_snd]
        simpa using List.all_eq_true.mp h4c i hi
      have q := pe_lc2 (pos := pos) (g.calm hk) g.nd hi ok hv hg ht hi1 hg1 ht1 he (fold_ok h1) (fun env x => fold_ok h1b x)
      rw [ownOf_snd] at q
      exact .val (pe_imp q (snd_lc2 (fun i hi => by simpa using List.all_eq_true.mp h4 i hi) (fun i hi => by simpa using List.all_eq_true.mp h4b i hi))) rfl
    · cases h
  | .rp a b, k, e, ct, B, C, ES, X, g, h => by
    simp only [chkE] at h
    split at h
    · simp only [Bool.and_eq_true] at h
      exact .val (snd_rp (sndE a k _ g h.1).1 (sndE b k _ g h.2).1) rfl
    · cases h
  | .rev z a, k, e, ct, B, C, ES, X, g, h => by
    simp only [chkE] at h
    split at h
    · simp only [Bool.and_eq_true, decide_eq_true_eq] at h
      obtain ⟨rfl, h1⟩ := h
      exact .val (snd_rev (sndE a k _ g h1).1) rfl
    · cases h
  | .lrg1 z a, k, e, ct, B, C, ES, X, g, h => by
    simp only [chkE] at h
    split at h
    · simp only [Bool.and_eq_true, decide_eq_true_eq, Bool.not_eq_true'] at h
      obtain ⟨⟨⟨⟨⟨⟨rfl, h2⟩, rfl⟩, h4⟩, h5⟩, h6⟩, hk⟩ := h
      exact .val (snd_lrg1 (g.calm hk) (g.gl h2) (g.blt _ (by decide)) (g.gl h4) (g.blt _ (by decide)) h5 (sndE a k _ g h6).1) rfl
    · cases h
  | .lrg2 z a b, k, e, ct, B, C, ES, X, g, h => by
    simp only [chkE] at h
    split at h
    · simp only [Bool.and_eq_true, decide_eq_true_eq, Bool.not_eq_true'] at h
      obtain ⟨⟨⟨⟨⟨⟨⟨⟨rfl, h2⟩, rfl⟩, h4⟩, h5⟩, h6⟩, h7⟩, h8⟩, hk⟩ := h
      exact .val (snd_lrg2 (g.calm hk) (g.gl h2) (g.blt _ (by decide)) (g.gl h4) (g.blt _ (by decide)) h5 h6 (sndE a k _ g h7).1 (sndE b k _ g h8).1) rfl
    · cases h
  | .idx tp a b, k, e, ct, B, C, ES, X, g, h => by
    simp only [chkE] at h
    split at h
    · simp only [Bool.and_eq_true, decide_eq_true_eq] at h
      obtain ⟨⟨⟨⟨⟨rfl, h3⟩, h4⟩, h5⟩, h6⟩, h7⟩ := h
      cases tp with
      | false => exact .val (snd_idx g (sndE a k _ g h6).1 (sndE b k _ g h7).1 h3 h4 h5) rfl
      | true => exact .val (snd_idxT g (sndE a k _ g h6).1 (sndE b k _ g h7).1 h3 h4 h5) rfl
    · cases h
  | .tpx a, k, e, ct, B, C, ES, X, g, h => by
    simp only [chkE] at h
    split at h
    · simp only [Bool.and_eq_true, decide_eq_true_eq] at h
      obtain ⟨⟨⟨rfl, h2⟩, h5⟩, h7⟩ := h
      exact .val (snd_tpx (g.gl h2) (g.blt _ (by decide)) h5 (sndE a k _ g h7).1) rfl
    · cases h
  | .dkp z a, k, e, ct, B, C, ES, X, g, h => by
    simp only [chkE] at h
    split at h
    · simp only [Bool.and_eq_true, decide_eq_true_eq, Bool.not_eq_true'] at h
      obtain ⟨⟨⟨⟨rfl, h2⟩, h3⟩, h4⟩, hk⟩ := h
      exact .val (snd_dkp (g.calm hk) (g.gl h2) (g.blt _ (by decide)) h3 (snd_cons h3 (sndE a k _ g h4).1 snd_nil)) rfl
    · cases h
  | .tdc a, k, e, ct, B, C, ES, X, g, h => by
    simp only [chkE] at h
    split at h
    · simp only [Bool.and_eq_true, decide_eq_true_eq, Bool.not_eq_true'] at h
      obtain ⟨⟨⟨⟨rfl, h2⟩, h5⟩, h7⟩, hk⟩ := h
      exact .val (snd_tdc (g.calm hk) (g.gl h2) (g.blt _ (by decide)) h5 (snd_cons h5 (sndE a k _ g h7).1 snd_nil)) rfl
    · cases h
  | .join a b, k, e, ct, B, C, ES, X, g, h => by
    simp only [chkE] at h
    split at h
    · simp only [Bool.and_eq_true, decide_eq_true_eq] at h
      obtain ⟨⟨⟨⟨⟨rfl, h3⟩, h4⟩, h5⟩, h6⟩, h7⟩ := h
      exact .val (snd_join (sndE a k _ g h6).1 (sndE b k _ g h7).1 h3 h4 h5) rfl
    · cases h
  | .trv a, k, e, ct, B, C, ES, X, g, h => by
    simp only [chkE] at h
    split at h
    · simp only [Bool.and_eq_true, decide_eq_true_eq, Bool.not_eq_true'] at h
      obtain ⟨⟨⟨⟨⟨⟨rfl, h2⟩, rfl⟩, h4⟩, h5⟩, h7⟩, hk⟩ := h
      exact .val (snd_trv (g.calm hk) (g.gl h2) (g.blt _ (by decide)) (g.gl h4) (g.blt _ (by decide)) h5 (sndE a k _ g h7).1) rfl
    · cases h
  | .trg a b, k, e, ct, B, C, ES, X, g, h => by
    simp only [chkE] at h
    split at h
    · simp only [Bool.and_eq_true, decide_eq_true_eq, Bool.not_eq_true'] at h
      obtain ⟨⟨⟨⟨⟨⟨⟨⟨rfl, h2⟩, rfl⟩, h4⟩, h5⟩, h6⟩, h7⟩, h8⟩, hk⟩ := h
      exact .val (snd_trg (g.calm hk) (g.gl h2) (g.blt _ (by decide)) (g.gl h4) (g.blt _ (by decide)) h5 h6 (sndE a k _ g h7).1 (sndE b k _ g h8).1) rfl
    · cases h
  | .mt m o es, k, e, ct, B, C, ES, X, g, h => by
    simp only [chkE] at h
    split at h
    · simp only [Bool.and_eq_true, decide_eq_true_eq] at h
      obtain ⟨⟨⟨⟨⟨rfl, rfl⟩, h3⟩, h4⟩, h5⟩, h6⟩ := h
      cases es with
      | nil => exact .val (snd_pop (sndE o k _ g h6).1 h3 h4) rfl
      | cons _ _ => simp [IEs.len] at h5
    · simp only [Bool.and_eq_true, decide_eq_true_eq] at h
      obtain ⟨⟨⟨⟨⟨⟨h1, h2⟩, h3⟩, h4⟩, h5⟩, h6⟩, h7⟩ := h
      obtain ⟨q1, q2⟩ := chkEs_star h7
      exact .val (mt_rule k g m h1 h2 h3 h4 q1 (by rw [q2]; exact h5) (sndE o k _ g h6).1 (sndEs es k _ g h7)) rfl
    · cases h
  | .gen m own t it ts el, k, e, ct, B, C, ES, X, g, h => by
    simp only [chkE] at h
    split at h
    · rename_i x p elt tg iter ifs scope gpos pos
      simp only [Bool.and_eq_true, decide_eq_true_eq, Bool.not_eq_true'] at h
      obtain ⟨hlp, ⟨⟨⟨⟨⟨⟨⟨⟨⟨⟨h0, h1⟩, h2⟩, h3⟩, h4⟩, h5⟩, h6⟩, h7⟩, h8⟩, h9⟩, h10⟩, hk⟩ := h
      subst h1
      obtain ⟨c, P, ck, hcode, BM, hck, hB, hP, nm, _⟩ := g.gen h0
      obtain ⟨n, hr0, _⟩ := g.fns hk
      have hr : Room (n + 1) X.A := hr0.mono (by rw [if_pos h0]; omega)
      have S := gscp_by h6
      rw [← g.N, ← g.sc] at S
      have hi := sndI it k iter (tg := tg) g h5
      have hg : ∀ s H code fp, PG (gcx X s H (genC X scope s.heap.objs.size code) fp) tg (gG B.T X.K t code) := fun s H code fp => ⟨fun pins s2 σ H2 v u Q I rv y => by
        obtain ⟨c2, P2, rfl, np, y⟩ := y
        exact (sndG t _ tg (g.gcx h0 hk s H scope c2 P2 np fp) h8).run pins s2 σ H2 v u Q I rv y⟩
      have ht : ∀ s H code fp, PTs (gcx X s H (genC X scope s.heap.objs.size code) fp) ifs (gT B.T X.K (wpTs C XF ts) code) := fun s H code fp => ⟨fun pins s2 σ H2 Q I y => by
        obtain ⟨c2, P2, rfl, np, y⟩ := y
        exact (sndTs ts _ ifs (g.gcx h0 hk s H scope c2 P2 np fp) h9).run pins s2 σ H2 Q I y⟩
      have he : ∀ s H code fp, PE (gcx X s H (genC X scope s.heap.objs.size code) fp) elt (gE B.T X.K (wpE C XF el) code) := fun s H code fp => ⟨fun pins s2 σ H2 Q I y => by
        obtain ⟨c2, P2, rfl, np, y⟩ := y
        exact (sndE el _ elt (g.gcx h0 hk s H scope c2 P2 np fp) h10).1.run pins s2 σ H2 Q I y⟩
      have ho : ∀ i ∈ t.slots, i ∈ own := fun i hi => by simpa using List.all_eq_true.mp h7 i hi
      have r := snd_gen (X := X) (B := B) (C := C) (ES := ES) (m := m) (it := it) (ts := ts) (el := el) hP hB g.nl (nm _ _ hlp) ho
      have gl := g.gl h2
      refine .plain ?_ (fun _ => rfl) (fun _ _ _ z => by cases z)
      cases m with
      | all =>
        have q := pe_all (p := p) (pos := pos) (gpos := gpos) hr (g.calm hk) g.nd BM hck hcode S hi hg ht he (gfold_ok h3 h4) gl (g.blt _ (by decide)) (by decide +kernel)
        rw [ownOf_snd] at q
        exact pe_imp q r
      | any =>
        have q := pe_any (p := p) (pos := pos) (gpos := gpos) hr (g.calm hk) g.nd BM hck hcode S hi hg ht he (gfold_ok h3 h4) gl (g.blt _ (by decide)) (by decide +kernel)
        rw [ownOf_snd] at q
        exact pe_imp q r
      | sum =>
        have q := pe_sum (p := p) (pos := pos) (gpos := gpos) hr (g.calm hk) g.nd BM hck hcode S hi hg ht he (gfold_ok h3 h4) gl (g.blt _ (by decide)) (by decide +kernel)
        rw [ownOf_snd] at q
        exact pe_imp q r
    · cases h
theorem sndEs : ∀ (i : IEs) (k : Ck) (es : List Expr) {ct : CT} {B : BP} {C : Cl} {ES : XS} {X : Cx}, Gd k ct B C ES X → chkEs i k es = true → PA X es (liftA B X.K i.len (wpEs C ES i))
  | .nil, k, es, ct, B, C, ES, X, g, h => by
    simp only [chkEs, List.isEmpty_iff] at h
    subst h
    exact snd_nil
  | .cons a r, k, [], ct, B, C, ES, X, g, h => by simp [chkEs] at h
  | .cons a r, k, e :: es, ct, B, C, ES, X, g, h => by
    simp only [chkEs, Bool.and_eq_true] at h
    exact snd_cons h.1.1 (sndE a k e g h.1.2).1 (sndEs r k es g h.2)
theorem sndDs : ∀ (i : IEs) (k : Ck) (ks : List (Option Expr)) (vs : List Expr) (pos : Pos) {ct : CT} {B : BP} {C : Cl} {ES : XS} {X : Cx}, Gd k ct B C ES X → chkDs i k ks vs = true → PPs X pos ks vs (trsOf B X.K C ES i)
  | .nil, k, ks, vs, pos, ct, B, C, ES, X, g, h => by
    simp only [chkDs, List.isEmpty_iff, Bool.and_eq_true] at h
    obtain ⟨rfl, rfl⟩ := h
    exact pps_nil
  | .cons _ .nil, k, ks, vs, pos, ct, B, C, ES, X, g, h => by simp [chkDs] at h
  | .cons a (.cons b r), k, ks, vs, pos, ct, B, C, ES, X, g, h => by
    simp only [chkDs] at h
    split at h
    · simp only [Bool.and_eq_true] at h
      exact pps_cons (sndE a k _ g h.1.1).1 (sndE b k _ g h.1.2).1 (sndDs r k _ _ pos g h.2)
    · cases h
theorem sndO : ∀ (i : IEs) (k : Ck) (e : Option Expr) {ct : CT} {B : BP} {C : Cl} {ES : XS} {X : Cx}, Gd k ct B C ES X → chkO i k e = true → PO X e (liftO B X.K (wpO C ES i))
  | .nil, k, e, ct, B, C, ES, X, g, h => by
    simp only [chkO, Option.isNone_iff_eq_none] at h
    subst h
    exact snd_oN
  | .cons a .nil, k, e, ct, B, C, ES, X, g, h => by
    cases e with
    | none => simp [chkO] at h
    | some e => exact snd_oS (sndE a k e g (by simpa only [chkO] using h)).1
  | .cons a (.cons b c), k, e, ct, B, C, ES, X, g, h => by simp [chkO] at h
theorem sndTs : ∀ (i : IEs) (k : Ck) (es : List Expr) {ct : CT} {B : BP} {C : Cl} {ES : XS} {X : Cx}, Gd k ct B C ES X → chkTs i k es = true → PTs X es (liftT B X.K (wpTs C ES i))
  | .nil, k, es, ct, B, C, ES, X, g, h => by
    simp only [chkTs, List.isEmpty_iff] at h
    subst h
    exact snd_tsN
  | .cons a .nil, k, es, ct, B, C, ES, X, g, h => by
    simp only [chkTs] at h
    split at h
    · simp only [Bool.and_eq_true] at h
      exact snd_tsS ((sndE a k _ g h.2).2 h.1).1
    · cases h
  | .cons a (.cons b c), k, es, ct, B, C, ES, X, g, h => by simp [chkTs] at h
theorem sndC : ∀ (i : II) (k : Ck) (e : Expr) {ct : CT} {B : BP} {C : Cl} {ES : XS} {X : Cx}, Gd k ct B C ES X → chkC i k e = true → PE X e (liftC B X.K (wpC C ES i))
  | .val a, k, e, ct, B, C, ES, X, g, h => sndC_val (sndE a k e g (by simpa only [chkC] using h)).1
  | .rng1 a, k, e, ct, B, C, ES, X, g, h => by
    simp only [chkC] at h
    split at h
    · simp only [Bool.and_eq_true, decide_eq_true_eq] at h
      obtain ⟨⟨⟨rfl, h2⟩, h3⟩, h4⟩ := h
      refine pe_imp (pe_callTy cr_range1 (g.gl h2) (g.blt _ (by decide)) (by decide +kernel) (pa_cons (sndE a k _ g h4).1 pa_nil (star_cons h3)) (by decide) (by decide) (star_cons h3)) ?_
      rintro s H Q ⟨hs, z, st, R, sr, so, h, q⟩
      simp only [wpC] at h
      refine ⟨hs, z, st, _, sr, so, h, fun d st1 v H1 h1 t1 r1 so1 => ?_⟩
      cases d <;> first | exact h1.elim | skip
      rename_i j
      cases r1
      obtain ⟨⟨b1, b2, b3, b4⟩, h1⟩ := h1
      refine ⟨j, rfl, fun p hp => q _ st1 _ p _ h1 (t1.trans (.new hp)) (so1.new hp) (.inr (.inr ⟨0, j, upd_same, rfl, by omega, by omega, by omega, by omega⟩)) ((reps_rg 0 j).mono (.new hp)) (rg_len 0 j (by omega) (by omega))⟩
    · cases h
  | .rng2 a b, k, e, ct, B, C, ES, X, g, h => by
    simp only [chkC] at h
    split at h
    · simp only [Bool.and_eq_true, decide_eq_true_eq] at h
      obtain ⟨⟨⟨⟨⟨rfl, h2⟩, h3⟩, h3b⟩, h4⟩, h4b⟩ := h
      refine pe_imp (pe_callTy cr_range2 (g.gl h2) (g.blt _ (by decide)) (by decide +kernel) (pa_cons (sndE a k _ g h4).1 (pa_cons (sndE b k _ g h4b).1 pa_nil (star_cons h3b)) (star_cons h3)) (by decide) (by decide) (star_cons h3) (any_back (by rw [List.all_cons, h3b]; rfl))) ?_
      rintro s H Q ⟨hs, z, st, R, sr, so, h, q⟩
      simp only [wpC] at h
      refine ⟨hs, z, st, _, sr, so, h, fun d st1 v H1 h1 t1 r1 so1 => ⟨hs, z, st1, _, sr.mono t1, so1, h1, fun d2 st2 v2 H2 h2 t2 r2 so2 => ?_⟩⟩
      cases d <;> cases d2 <;> first | exact h2.elim | skip
      rename_i i j
      cases r1
      cases r2
      obtain ⟨⟨b1, b2, b3, b4⟩, h2⟩ := h2
      refine ⟨i, j, rfl, fun p hp => q _ st2 _ p _ h2 ((t1.trans t2).trans (.new hp)) (so2.new hp) (.inr (.inr ⟨i, j, upd_same, rfl, by omega, by omega, by omega, by omega⟩)) ((reps_rg i j).mono (.new hp)) (rg_len i j (by omega) (by omega))⟩
    · cases h
  | .enm a, k, e, ct, B, C, ES, X, g, h => by simp [chkC] at h
  | .zip a b, k, e, ct, B, C, ES, X, g, h => by simp [chkC] at h
  | .rngd a b c, k, e, ct, B, C, ES, X, g, h => by simp [chkC] at h
  | .rvd a, k, e, ct, B, C, ES, X, g, h => by simp [chkC] at h
theorem sndI : ∀ (i : II) (k : Ck) (e : Expr) {tg : Expr} {ct : CT} {B : BP} {C : Cl} {ES : XS} {X : Cx}, Gd k ct B C ES X → chkI i k tg e = true → PI X tg e (liftI B X.K (wpI C ES i))
  | .val a, k, e, tg, ct, B, C, ES, X, g, h => snd_val (sndE a k e g (by simpa only [chkI] using h)).1
  | .rng1 a, k, e, tg, ct, B, C, ES, X, g, h => by
    simp only [chkI] at h
    split at h
    · simp only [Bool.and_eq_true, decide_eq_true_eq] at h
      obtain ⟨⟨⟨rfl, h2⟩, h3⟩, h4⟩ := h
      exact snd_rng1 (g.gl h2) (g.blt _ (by decide)) h3 (sndE a k _ g h4).1
    · cases h
  | .rng2 a b, k, e, tg, ct, B, C, ES, X, g, h => by
    simp only [chkI] at h
    split at h
    · simp only [Bool.and_eq_true, decide_eq_true_eq] at h
      obtain ⟨⟨⟨⟨⟨rfl, h2⟩, h3⟩, h4⟩, h5⟩, h6⟩ := h
      exact snd_rng2 (g.gl h2) (g.blt _ (by decide)) h3 h4 (sndE a k _ g h5).1 (sndE b k _ g h6).1
    · cases h
  | .enm a, k, e, tg, ct, B, C, ES, X, g, h => by
    simp only [chkI] at h
    split at h
    · simp only [Bool.and_eq_true, decide_eq_true_eq] at h
      obtain ⟨⟨⟨rfl, h2⟩, h3⟩, h4⟩ := h
      exact snd_enm (g.gl h2) (g.blt _ (by decide)) h3 (sndE a k _ g h4).1
    · cases h
  | .zip a b, k, e, tg, ct, B, C, ES, X, g, h => by
    simp only [chkI] at h
    split at h
    · simp only [Bool.and_eq_true, decide_eq_true_eq] at h
      obtain ⟨⟨⟨⟨⟨rfl, h2⟩, h3⟩, h4⟩, h5⟩, h6⟩ := h
      exact snd_zip (g.gl h2) (g.blt _ (by decide)) h3 h4 (sndE a k _ g h5).1 (sndE b k _ g h6).1
    · cases h
  | .rngd a b c, k, e, tg, ct, B, C, ES, X, g, h => by
    simp only [chkI] at h
    split at h
    · simp only [Bool.and_eq_true, decide_eq_true_eq] at h
      obtain ⟨⟨⟨⟨⟨⟨⟨rfl, h2⟩, h3⟩, h4⟩, h5⟩, h6⟩, h7⟩, h8⟩ := h
      exact snd_rngd (g.gl h2) (g.blt _ (by decide)) h3 h4 h5 (sndE a k _ g h6).1 (sndE b k _ g h7).1 (sndE c k _ g h8).1
    · cases h
  | .rvd a, k, e, tg, ct, B, C, ES, X, g, h => by
    simp only [chkI] at h
    split at h
    · simp only [Bool.and_eq_true, decide_eq_true_eq] at h
      obtain ⟨⟨⟨rfl, h2⟩, h3⟩, h4⟩ := h
      exact snd_rvd (g.gl h2) (g.blt _ (by decide)) h3 (sndE a k _ g h4).1
    · cases h
end
end Fy

namespace Fy
open PySem PySem.Spec PyProof.Rows L2
variable [LamT]
/-! ### statements -/
/-- a comprehension's value goes to its target in the frame of the comprehension -/
def swB (sc : Scope) (tg e : Expr) : Bool := match e with
  | .ListComp _ _ s p => match tg with
    | .Name t q => (if sc.kind.isAnnotationScope then ScopeKind.function else sc.kind) == .function && sc.names.lookup t == some .local && q.line == p.line && !(s.names.any fun (n, k) => n == t && (k == .local || k == .cell))
    | _ => false
  | .SetComp _ _ s p => true
  | .DictComp _ _ _ s p => true
  | _ => false
theorem swB_ok {sc : Scope} {tg e : Expr} {l : Nat} {env : Env} (hs : env.scope = sc) (h : swB sc tg e = false) : swapsWith e (some tg) l env = pure false := by
  cases e <;> first | rfl | skip
  · rename_i s p
    cases tg <;> first | rfl | skip
    subst hs
    simp only [swB] at h
    show (pure (_ : Bool) : Sem Bool) = pure false
    exact congrArg pure h
  · cases h
  · cases h
/-- a tuple of names that is stored without the tuple -/
def parN (sc : Scope) (tg e : Expr) : Bool := match tg, e with
  | .Tuple ts _ _, .Tuple vs _ _ => !(ts.length == 2 || ts.length == 3) || vs.length != ts.length || (ts.filterMap fun
      | .Name id pos => if sc.names.lookup id == some .local && pos.line == (ts.head?.map (·.pos.line)).getD 0 then some id else none
      | _ => none).length != ts.length || vs.all (foldedForSure 8)
  | .List _ _, .Tuple _ _ _ => false
  | _, _ => true
theorem parN_ok {sc : Scope} {tg e : Expr} {env : Env} (hs : env.scope = sc) (h : parN sc tg e = true) : swappedStores [tg] e env = pure none := by
  subst hs
  cases tg <;> first | (cases e <;> first | rfl | (cases h)) | skip
  rename_i ts kt pt
  cases e <;> first | rfl | skip
  rename_i vs k2 p2
  simp only [parN, Bool.or_eq_true] at h
  unfold swappedStores
  dsimp only [pure_bind]
  rcases h with ((h | h) | h) | h
  · simp [h]
  · simp [h]
  · split
    · rfl
    · split
      · rfl
      · rw [if_pos]
        simp only [Bool.or_eq_true]
        exact .inl h
  · split
    · rfl
    · split
      · rfl
      · split
        · rfl
        · first | rfl | (rw [if_pos h]; rfl)
/-- a, b = x, y stored from the right -/
def parY (sc : Scope) (x y : Str) (px py : Pos) (a b : Expr) : Bool :=
  (match sc.kind with | .function => true | _ => false) && noStar a && noStar b && decide (sc.names.lookup x = some .local) && decide (sc.names.lookup y = some .local) && (py.line == px.line) && decide (x ≠ y) && !([a, b].all (foldedForSure 8)) && !([a, b].all (constantsAlone 8))
theorem parY_ok {sc : Scope} {x y : Str} {px py pt p2 : Pos} {kt k2 : Nat} {a b : Expr} {env : Env} (hs : env.scope = sc) (h : parY sc x y px py a b = true) :
    swappedStores [.Tuple [.Name x px, .Name y py] kt pt] (.Tuple [a, b] k2 p2) env = pure (some [x, y]) := by
  subst hs
  simp only [parY, Bool.and_eq_true, decide_eq_true_eq, Bool.not_eq_true'] at h
  obtain ⟨⟨⟨⟨⟨⟨⟨⟨h0, h1⟩, h2⟩, h3⟩, h4⟩, h5⟩, h6⟩, h7⟩, h8⟩ := h
  have hk : env.scope.kind = .function := by
    revert h0
    cases env.scope.kind <;> intro h0 <;> first | rfl | cases h0
  have hb : env.blockKind = .function := by
    unfold Env.blockKind
    rw [hk]
    rfl
  have s1 : ([a, b].any fun | .Starred .. => true | _ => false) = false := by
    cases a <;> cases b <;> first | rfl | (cases h1; done) | (cases h2; done)
  have kx : env.kindOf x = some .local := h3
  have ky : env.kindOf y = some .local := h4
  have e5 : (py.line == px.line) = true := h5
  have nd : ([x, y] : List Str).eraseDups = [x, y] := by
    have : (y == x) = false := by simpa using fun e => h6 e.symm
    simp [List.eraseDups_cons, this]
  unfold swappedStores
  simp only [List.filterMap_cons, List.filterMap_nil, List.head?_cons, Option.map_some, Option.getD_some, Expr.pos, kx, ky, e5, beq_self_eq_true, Bool.and_self, if_true, hb, nd, h7, h8]
  refine (if_neg (by simp)).trans ((if_neg ?_).trans ((if_neg (by simp)).trans rfl))
  intro z
  revert z h1 h2
  clear h7 h8
  cases a <;> cases b <;> intro h1 h2 z <;> first | (cases z; done) | (cases h1; done) | (cases h2; done)
/-- a, b, c = x, y, z stored from the right -/
def parY3 (sc : Scope) (x y w : Str) (px py pw : Pos) (a b c : Expr) : Bool :=
  (match sc.kind with | .function => true | _ => false) && noStar a && noStar b && noStar c && decide (sc.names.lookup x = some .local) && decide (sc.names.lookup y = some .local) && decide (sc.names.lookup w = some .local) && (py.line == px.line) && (pw.line == px.line) && decide (x ≠ y) && decide (x ≠ w) && decide (y ≠ w) && !([a, b, c].all (foldedForSure 8)) && !([a, b, c].all (constantsAlone 8))
theorem parY3_ok {sc : Scope} {x y w : Str} {px py pw pt p2 : Pos} {kt k2 : Nat} {a b c : Expr} {env : Env} (hs : env.scope = sc) (h : parY3 sc x y w px py pw a b c = true) :
    swappedStores [.Tuple [.Name x px, .Name y py, .Name w pw] kt pt] (.Tuple [a, b, c] k2 p2) env = pure (some [x, y, w]) := by
  subst hs
  simp only [parY3, Bool.and_eq_true, decide_eq_true_eq, Bool.not_eq_true'] at h
  obtain ⟨⟨⟨⟨⟨⟨⟨⟨⟨⟨⟨⟨⟨h0, h1⟩, h2⟩, h2b⟩, h3⟩, h4⟩, h4b⟩, h5⟩, h5b⟩, h6⟩, h6b⟩, h6c⟩, h7⟩, h8⟩ := h
  have hk : env.scope.kind = .function := by
    revert h0
    cases env.scope.kind <;> intro h0 <;> first | rfl | cases h0
  have hb : env.blockKind = .function := by
    unfold Env.blockKind
    rw [hk]
    rfl
  have kx : env.kindOf x = some .local := h3
  have ky : env.kindOf y = some .local := h4
  have kw : env.kindOf w = some .local := h4b
  have nd : ([x, y, w] : List Str).eraseDups = [x, y, w] := by
    have e1 : (y == x) = false := by simpa using fun e => h6 e.symm
    have e2 : (w == x) = false := by simpa using fun e => h6b e.symm
    have e3 : (w == y) = false := by simpa using fun e => h6c e.symm
    simp [List.eraseDups_cons, e1, e2, e3]
  unfold swappedStores
  simp only [List.filterMap_cons, List.filterMap_nil, List.head?_cons, Option.map_some, Option.getD_some, Expr.pos, kx, ky, kw, h5, h5b, beq_self_eq_true, Bool.and_self, if_true, hb, nd, h7, h8]
  refine (if_neg (by simp)).trans ((if_neg ?_).trans ((if_neg (by simp)).trans rfl))
  intro z
  have z2 : ([a, b, c].any fun e => match e with | .Starred .. => true | _ => false) = true := z
  simp only [List.any_cons, List.any_nil, Bool.or_false, Bool.or_eq_true] at z2
  rcases z2 with z2 | z2 | z2
  · revert z2 h1
    cases a <;> intro h1 z2 <;> first | (cases z2; done) | (cases h1; done)
  · revert z2 h2
    cases b <;> intro h2 z2 <;> first | (cases z2; done) | (cases h2; done)
  · revert z2 h2b
    cases c <;> intro h2b z2 <;> first | (cases z2; done) | (cases h2b; done)
/-- the class that an except clause names, and what it takes -/
def clsB (k : Ck) (c : Nat) (cs : List Nat) (x : Str) : Bool := decide ((k.xs[c]?).map (·.name) = some x) && glB k.sc x && okName x && (List.range k.xs.length).all fun n => (k.xs[n]?).any fun y => y.up.contains c == cs.contains n
mutual
def chkS : IS → Ck → Stmt → Bool
  | .ex a, k, s => match s with
    | .Expr e _ => noComp e && chkE a k e
    | _ => false
  | .set t a, k, s => match s with
    | .Assign [tg] e _ => noStar tg && chkG t k tg && chkE a k e && parN k.sc tg e && (!swB k.sc tg e || (match t, tg, a, e with
        | .nm i, .Name y _, .lc own u it ts el, .ListComp elt [⟨tg2, iter, ifs, 0⟩] scope _ => decide (k.sc.names.lookup y = some .local)
        | .nm i, .Name y _, .lc2 own vs1 u it ts u1 it1 ts1 el, .ListComp elt [⟨tg2, iter, ifs, 0⟩, ⟨tg3, iter1, ifs1, 0⟩] scope _ => decide (k.sc.names.lookup y = some .local)
        | _, _, _, _ => false))
    | _ => false
  | .par i j a b, k, s => match s with
    | .Assign [.Tuple [.Name x px, .Name y py] _ _] (.Tuple [c, d] _ _) _ => decide (k.N[i]? = some x) && decide (k.N[j]? = some y) && decide (i ≠ j) && parY k.sc x y px py c d && chkE a k c && chkE b k d && !k.hot
    | _ => false
  | .par3 i j l a b c, k, s => match s with
    | .Assign [.Tuple [.Name x px, .Name y py, .Name w pw] _ _] (.Tuple [d, e, f] _ _) _ => decide (k.N[i]? = some x) && decide (k.N[j]? = some y) && decide (k.N[l]? = some w) && decide (i ≠ j) && decide (i ≠ l) && decide (j ≠ l) && parY3 k.sc x y w px py pw d e f && chkE a k d && chkE b k e && chkE c k f && !k.hot
    | _ => false
  | .rs c es, k, s => match s with
    | .Raise (some (.Call (.Name x _) [a] [] _)) none _ => decide ((k.xs[c]?).map (·.name) = some x) && glB k.sc x && okName x && !k.hot && (match es, a with
        | .nil, .Constant (.str _) _ _ => decide ((k.xs[c]?).map (·.fld) = some none)
        | .cons ia .nil, a => ((k.xs[c]?).any fun y => y.fld.isSome) && noStar a && noComp a && chkE ia k a
        | _, _ => false)
    | _ => false
  | .tr b h, k, s => match s with
    | .Try x (h0 :: hds) [] [] _ => k.fr && !k.hot && chkSs b k x && (chkHN h k h0 hds || chkHs h k (h0 :: hds))
    | _ => false
  | .setIx a i c, k, s => match s with
    | .Assign [.Subscript o x _] e _ => noSlice x && noComp e && chkE a k o && chkE i k x && chkE c k e
    | _ => false
  | .dset a i c, k, s => match s with
    | .Assign [.Subscript o x _] e _ => noSlice x && noComp e && chkE a k o && chkE i k x && chkE c k e
    | _ => false
  | .aug i o a, k, s => match s with
    | .AugAssign (.Name x _) op e _ => decide (k.N[i]? = some x) && stoB k x && bopB o op && decide (o ≠ .pow) && chkE a k e
    | _ => false
  | .ifs t a b, k, s => match s with
    | .If c x y _ => tstB t c && chkE t k c && chkSs a k x && chkSs b k y
    | _ => false
  | .whl t b, k, s => match s with
    | .While c x [] _ => tstB t c && chkE t k c && chkSs b k x
    | _ => false
  | .fr t it b, k, s => match s with
    | .For tg iter x [] _ => notSet iter && chkG t k tg && chkI it k tg iter && chkSs b k x && !k.hot
    | _ => false
  | .ret a, k, s => match s with
    | .Return (some e) _ => chkE a k e
    | _ => false
  | .retN, _, s => match s with
    | .Return none _ => true
    | _ => false
  | .pass, _, s => match s with
    | .Pass _ => true
    | _ => false
  | .brk, _, s => match s with
    | .Break _ => true
    | _ => false
  | .cont, _, s => match s with
    | .Continue _ => true
    | _ => false
  | .nope, _, _ => true
  | .gh _, _, _ => false
  | .ghd _, _, _ => false
def chkSs : ISs → Ck → List Stmt → Bool
  | .nil, _, ss => ss.isEmpty
  | .cons a r, k, ss => match a with
    | .gh _ => chkSs r k ss
    | .ghd _ => chkSs r k ss
    | a => match ss with
      | s :: ss => chkS a k s && chkSs r k ss
      | [] => false
def chkHs : IHs → Ck → List ExceptHandler → Bool
  | .nil, _, l => l.isEmpty
  | .cons c cs i b r, k, l => match i, l with
    | none, .ExceptHandler (some (.Name x _)) none (b0 :: su) _ :: l => clsB k c cs x && chkSs b { k with hot := true } (b0 :: su) && chkHs r k l
    | _, _ => false
  | .cx _ _ _ _ _ _ _, _, _ => false
/-- one clause, with a name -/
def chkHN : IHs → Ck → ExceptHandler → List ExceptHandler → Bool
  | .nil, _, _, _ => false
  | .cons c cs i b r, k, h0, hds => match i, r, h0, hds with
    | some i, .nil, .ExceptHandler (some (.Name x _)) (some n) (b0 :: su) _, [] => clsB k c cs x && decide (k.N[i]? = some n) && decide (k.sc.names.lookup n = some .local) && chkSs b { k with hot := true } (b0 :: su)
    | _, _, _, _ => false
  | .cx c cs i m t f b, k, h0, hds => match m, h0, hds with
    | 0, .ExceptHandler (some (.Name x _)) (some n) [.Return (some (.Tuple [.Constant (.str t2) _ _, .Attribute (.Name e _) f2 _] _ _)) _] _, [] => clsB k c cs x && decide (k.N[i]? = some n) && decide (k.sc.names.lookup n = some .local) && decide (e = n) && decide (t2 = t) && decide (f2 = f) && decide (cs = [c]) && decide ((k.xs[c]?).bind (·.fld) = some f) && visB k.sc n && okName n
    | 1, .ExceptHandler (some (.Name x _)) (some n) [.Return (some (.Attribute (.Name e _) f2 _)) _] _, [] => clsB k c cs x && decide (k.N[i]? = some n) && decide (k.sc.names.lookup n = some .local) && decide (e = n) && decide (f2 = f) && decide (cs = [c]) && decide ((k.xs[c]?).bind (·.fld) = some f) && visB k.sc n && okName n
    | 2, .ExceptHandler (some (.Name x _)) (some n) [.Return (some (.Compare (.Constant (.int z) _ _) [.LtE, .LtE] [.Attribute (.Name e pe) f2 pf, be] _)) _] _, [] => clsB k c cs x && decide (k.N[i]? = some n) && decide (k.sc.names.lookup n = some .local) && decide (e = n) && decide (f2 = f) && decide (cs = [c]) && decide ((k.xs[c]?).bind (·.fld) = some f) && visB k.sc n && okName n && decide (z = 0) && !lastMarks [.LtE, .LtE] [.Attribute (.Name e pe) f2 pf, be] && chkE b { k with hot := true } be
    | _, _, _ => false
end
theorem clsB_ok {k : Ck} {ct : CT} {B : BP} {C : Cl} {ES : XS} {X : Cx} (g : Gd k ct B C ES X) {c : Nat} {cs : List Nat} {x : Str} (h : clsB k c cs x = true) : ∃ cl, ct c = some (.ref cl) ∧ Names X x (.ref cl) ∧ ∀ n cls, ct n = some cls → PySem.W.exmOne X.K cls (.ref cl) = some (cs.contains n) := by
  simp only [clsB, Bool.and_eq_true, decide_eq_true_eq, List.all_eq_true, List.mem_range] at h
  obtain ⟨⟨⟨h1, h2⟩, h3⟩, h4⟩ := h
  obtain ⟨y, e1, rfl⟩ := Option.map_eq_some_iff.mp h1
  obtain ⟨cl, e2, xo⟩ := g.xc c y e1
  refine ⟨cl, e2, ⟨g.gl h2, (okName_1 h3).1, .inl xo.mg⟩, fun n cls e3 => ?_⟩
  have hn := g.xn n cls e3
  have h5 := h4 n hn
  obtain ⟨w, e4, e5⟩ := (Option.any_eq_true _ _).mp h5
  rw [g.xm n w c cls (.ref cl) e4 e3 e2]
  rw [beq_iff_eq] at e5
  rw [e5]
theorem sw_none {e : Expr} {l : Nat} {env : Env} (h : noComp e = true) : swapsWith e none l env = pure false := by
  cases e <;> first | rfl | cases h
theorem sw_sub {e o x : Expr} {p : Pos} {l : Nat} {env : Env} (h : noComp e = true) : swapsWith e (some (.Subscript o x p)) l env = pure false := by
  cases e <;> first | rfl | cases h
theorem ss_sub {e o x : Expr} {p : Pos} {env : Env} : swappedStores [.Subscript o x p] e env = pure none := by
  cases e <;> rfl
theorem sw_lc {k : Ck} {y : Str} {py p : Pos} {elt : Expr} {gs : List Comprehension} {scope : Scope} {l : Nat} {env : Env} (hs : env.scope = k.sc) (h : swB k.sc (.Name y py) (.ListComp elt gs scope p) = true) : swapsWith (.ListComp elt gs scope p) (some (.Name y py)) l env = pure true := by
  simp only [swB] at h
  rw [← hs] at h
  show (pure (_ : Bool) : Sem Bool) = pure true
  exact congrArg pure h
mutual
theorem sndS : ∀ (i : IS) (k : Ck) (s : Stmt) {ct : CT} {B : BP} {C : Cl} {ES : XS} {X : Cx}, Gd k ct B C ES X → chkS i k s = true → PS X s (liftS B X.K (wpS C ES i))
  | .ex a, k, s, ct, B, C, ES, X, g, h => by
    simp only [chkS] at h
    split at h
    · simp only [Bool.and_eq_true] at h
      exact snd_ex (sndE a k _ g h.2).1 (sw_none h.1)
    · cases h
  | .set t a, k, s, ct, B, C, ES, X, g, h => by
    simp only [chkS] at h
    split at h
    · rename_i tg e pos
      simp only [Bool.and_eq_true] at h
      obtain ⟨⟨⟨⟨h1, h2⟩, h3⟩, h4⟩, h5⟩ := h
      cases sw : swB k.sc tg e with
      | false => exact snd_set (sndE a k e g h3).1 (sndG t k tg g h2) h1 (swB_ok g.sc sw) (parN_ok g.sc h4)
      | true =>
        rw [sw] at h5
        simp only [Bool.not_true, Bool.false_or] at h5
        split at h5
        · rename_i i y py own u it ts el elt tg2 iter ifs scope p
          simp only [decide_eq_true_eq] at h5
          simp only [chkE, Bool.and_eq_true, Bool.not_eq_true'] at h3
          simp only [chkG, Bool.and_eq_true, decide_eq_true_eq] at h2
          obtain ⟨⟨⟨⟨⟨⟨⟨q1, q2⟩, q3⟩, q4⟩, q5⟩, q6⟩, q7⟩, hk⟩ := h3
          have ok := blkOk_by q3
          rw [← g.N, ← g.sc] at ok
          have hi := sndI it k iter (tg := tg2) g q2
          have hg : ∀ (s : Shared) (H : Hp) (p : Addr) (cl : List (Str × Addr)) (fp : List Addr), PG (X.blk s H scope (compEnvC scope cl p X.env) fp) tg2 (liftG (BT B.T) X.K u) := fun s H p cl fp => sndG u _ tg2 (g.blk s H scope p cl fp) q5
          have ht : ∀ (s : Shared) (H : Hp) (p : Addr) (cl : List (Str × Addr)) (fp : List Addr), PTs (X.blk s H scope (compEnvC scope cl p X.env) fp) ifs (liftT (BT B.T) X.K (wpTs C XF ts)) := fun s H p cl fp => sndTs ts _ ifs (g.blk s H scope p cl fp) q6
          have he : ∀ (s : Shared) (H : Hp) (p : Addr) (cl : List (Str × Addr)) (fp : List Addr), PE (X.blk s H scope (compEnvC scope cl p X.env) fp) elt (liftE (BT B.T) X.K (wpE C XF el)) := fun s H p cl fp => (sndE el _ elt (g.blk s H scope p cl fp) q7).1
          have ho : ∀ i ∈ u.slots, i ∈ (ownOf X.N own).map (·.2) := fun i hi => by
            rw [ownOf_snd]
            simpa using List.all_eq_true.mp q4 i hi
          have r := snd_setLc (X := X) (C := C) (ES := ES) (pos := pos) (py := py) (p := p) (g.calm hk) g.nd (by rw [g.N]; exact h2.1) (by rw [g.sc]; exact h5) (sw_lc g.sc sw) hi ok hg ht he (fold_ok q1) ho
          rw [ownOf_snd] at r
          exact r
        · rename_i i y py own vs1 u it ts u1 it1 ts1 el elt tg2 iter ifs tg3 iter1 ifs1 scope p
          simp only [decide_eq_true_eq] at h5
          simp only [chkE, Bool.and_eq_true, Bool.not_eq_true'] at h3
          simp only [chkG, Bool.and_eq_true, decide_eq_true_eq] at h2
          obtain ⟨⟨⟨⟨⟨⟨⟨⟨⟨⟨⟨⟨⟨q1, q1b⟩, q2⟩, q3⟩, q4⟩, q4b⟩, q4c⟩, q5⟩, q6⟩, q5b⟩, q2b⟩, q6b⟩, q7⟩, hk⟩ := h3
          have ok := blkOk_by q3
          rw [← g.N, ← g.sc] at ok
          have hi := sndI it k iter (tg := tg2) g q2
          have hg : ∀ (s : Shared) (H : Hp) (p : Addr) (cl : List (Str × Addr)) (fp : List Addr), PG (X.blk s H scope (compEnvC scope cl p X.env) fp) tg2 (liftG (BT B.T) X.K u) := fun s H p cl fp => sndG u _ tg2 (g.blk s H scope p cl fp) q5
          have ht : ∀ (s : Shared) (H : Hp) (p : Addr) (cl : List (Str × Addr)) (fp : List Addr), PTs (X.blk s H scope (compEnvC scope cl p X.env) fp) ifs (liftT (BT B.T) X.K (wpTs C XF ts)) := fun s H p cl fp => sndTs ts _ ifs (g.blk s H scope p cl fp) q6
          have hg1 : ∀ (s : Shared) (H : Hp) (p : Addr) (cl : List (Str × Addr)) (fp : List Addr), PG (X.blk s H scope (compEnvC scope cl p X.env) fp) tg3 (liftG (BT B.T) X.K u1) := fun s H p cl fp => sndG u1 _ tg3 (g.blk s H scope p cl fp) q5b
          have hi1 : ∀ (s : Shared) (H : Hp) (p : Addr) (cl : List (Str × Addr)) (fp : List Addr), PI (X.blk s H scope (compEnvC scope cl p X.env) fp) tg3 iter1 (liftI (BT B.T) X.K (wpI C XF it1)) := fun s H p cl fp => sndI it1 _ iter1 (tg := tg3) (g.blk s H scope p cl fp) q2b
          have ht1 : ∀ (s : Shared) (H : Hp) (p : Addr) (cl : List (Str × Addr)) (fp : List Addr), PTs (X.blk s H scope (compEnvC scope cl p X.env) fp) ifs1 (liftT (BT B.T) X.K (wpTs C XF ts1)) := fun s H p cl fp => sndTs ts1 _ ifs1 (g.blk s H scope p cl fp) q6b
          have he : ∀ (s : Shared) (H : Hp) (p : Addr) (cl : List (Str × Addr)) (fp : List Addr), PE (X.blk s H scope (compEnvC scope cl p X.env) fp) elt (liftE (BT B.T) X.K (wpE C XF el)) := fun s H p cl fp => (sndE el _ elt (g.blk s H scope p cl fp) q7).1
          have hv : ∀ i ∈ vs1, i ∈ (ownOf X.N own).map (·.2) := fun i hi => by
            rw [ownOf_snd]
            simpa using List.all_eq_true.mp q4c i hi
          have r := ps_setLc2 (X := X) (i := i) (py := py) (pos := p) (spos := pos) (g.calm hk) g.nd (by rw [g.N]; exact h2.1) (by rw [g.sc]; exact h5) (sw_lc g.sc sw) hi ok hv hg ht hi1 hg1 ht1 he (fold_ok q1) (fun env x => fold_ok q1b x)
          rw [ownOf_snd] at r
          refine ps_imp r ?_
          rintro d s H ⟨hs, z, st, k, sr, so, h, q⟩
          simp only [wpS, asgP] at h
          refine snd_lc2 (fun i hi => by simpa using List.all_eq_true.mp q4 i hi) (fun i hi => by simpa using List.all_eq_true.mp q4b i hi) _ _ _ ⟨hs, z, st, _, sr, so, h, fun x st1 v H1 h1 t1 r1 so1 => ?_⟩
          exact q.nx _ st1 _ H1 h1 t1 ((sr.mono t1).set i r1).r so1
        · cases h5
    · cases h
  | .par i j a b, k, s, ct, B, C, ES, X, g, h => by
    simp only [chkS] at h
    split at h
    · simp only [Bool.and_eq_true, decide_eq_true_eq, Bool.not_eq_true'] at h
      obtain ⟨⟨⟨⟨⟨⟨h1, h2⟩, h3⟩, h4⟩, h5⟩, h6⟩, hk⟩ := h
      have hp := h4
      simp only [parY, Bool.and_eq_true, decide_eq_true_eq] at h4
      obtain ⟨⟨⟨⟨⟨⟨⟨⟨_, n1⟩, n2⟩, l1⟩, l2⟩, _⟩, _⟩, _⟩, _⟩ := h4
      exact snd_par (g.calm hk) g.nd (by rw [g.N]; exact h1) (by rw [g.N]; exact h2) h3 (by rw [g.sc]; exact l1) (by rw [g.sc]; exact l2) n1 n2 (sndE a k _ g h5).1 (sndE b k _ g h6).1 (parY_ok g.sc hp)
    · cases h
  | .setIx a i c, k, s, ct, B, C, ES, X, g, h => by
    simp only [chkS] at h
    split at h
    · simp only [Bool.and_eq_true] at h
      obtain ⟨⟨⟨⟨h1, h2⟩, h3⟩, h4⟩, h5⟩ := h
      exact snd_setIx (sndE a k _ g h3).1 (sndE i k _ g h4).1 (sndE c k _ g h5).1 h1 (sw_sub h2) ss_sub
    · cases h
  | .dset a i c, k, s, ct, B, C, ES, X, g, h => by
    simp only [chkS] at h
    split at h
    · simp only [Bool.and_eq_true] at h
      obtain ⟨⟨⟨⟨h1, h2⟩, h3⟩, h4⟩, h5⟩ := h
      exact snd_dset g.units (sndE a k _ g h3).1 (sndE i k _ g h4).1 (sndE c k _ g h5).1 (sw_sub h2) ss_sub h1
    · cases h
  | .aug i o a, k, s, ct, B, C, ES, X, g, h => by
    simp only [chkS] at h
    split at h
    · simp only [Bool.and_eq_true, decide_eq_true_eq] at h
      obtain ⟨⟨⟨⟨h1, h2⟩, h3⟩, h4⟩, h5⟩ := h
      obtain ⟨s1, s2⟩ := g.sto h2
      rw [bopB_eq h3]
      exact snd_aug h4 g.nd (by rw [g.N]; exact h1) s1 s2 (sndE a k _ g h5).1
    · cases h
  | .ifs t a b, k, s, ct, B, C, ES, X, g, h => by
    simp only [chkS] at h
    split at h
    · simp only [Bool.and_eq_true] at h
      exact snd_ifs ((sndE t k _ g h.1.1.2).2 h.1.1.1).1 (sndSs a k _ g h.1.2) (sndSs b k _ g h.2)
    · cases h
  | .whl t b, k, s, ct, B, C, ES, X, g, h => by
    simp only [chkS] at h
    split at h
    · simp only [Bool.and_eq_true] at h
      exact snd_whl g.pass ((sndE t k _ g h.1.2).2 h.1.1).1 (sndSs b k _ g h.2)
    · cases h
  | .fr t it b, k, s, ct, B, C, ES, X, g, h => by
    simp only [chkS] at h
    split at h
    · simp only [Bool.and_eq_true, Bool.not_eq_true'] at h
      obtain ⟨h, hk⟩ := h
      exact snd_for g.pass (g.calm hk) (sndI it k _ g h.1.2) (sndG t k _ g h.1.1.2) (sndSs b k _ g h.2) (fold_ok h.1.1.1)
    · cases h
  | .ret a, k, s, ct, B, C, ES, X, g, h => by
    simp only [chkS] at h
    split at h
    · exact snd_ret (sndE a k _ g h).1
    · cases h
  | .retN, k, s, ct, B, C, ES, X, g, h => by
    simp only [chkS] at h
    split at h
    · exact snd_retN
    · cases h
  | .pass, k, s, ct, B, C, ES, X, g, h => by
    simp only [chkS] at h
    split at h
    · exact snd_pass
    · cases h
  | .brk, k, s, ct, B, C, ES, X, g, h => by
    simp only [chkS] at h
    split at h
    · exact snd_brk
    · cases h
  | .cont, k, s, ct, B, C, ES, X, g, h => by
    simp only [chkS] at h
    split at h
    · exact snd_cont
    · cases h
  | .nope, k, s, ct, B, C, ES, X, g, h => ⟨fun pins s z H d I q => by
      obtain ⟨_, _, _, _, _, _, q, _⟩ := q
      simp only [wpS] at q⟩
  | .gh i, k, s, ct, B, C, ES, X, g, h => by simp [chkS] at h
  | .ghd i, k, s, ct, B, C, ES, X, g, h => by simp [chkS] at h
  | .par3 i j l a b c, k, s, ct, B, C, ES, X, g, h => by
    simp only [chkS] at h
    split at h
    · simp only [Bool.and_eq_true, decide_eq_true_eq, Bool.not_eq_true'] at h
      obtain ⟨⟨⟨⟨⟨⟨⟨⟨⟨⟨h1, h2⟩, h3⟩, n1⟩, n2⟩, n3⟩, h4⟩, h5⟩, h6⟩, h7⟩, hk⟩ := h
      have hp := h4
      simp only [parY3, Bool.and_eq_true, decide_eq_true_eq] at h4
      obtain ⟨⟨⟨⟨⟨⟨⟨⟨⟨⟨⟨⟨⟨_, s1⟩, s2⟩, s3⟩, l1⟩, l2⟩, l3⟩, _⟩, _⟩, _⟩, _⟩, _⟩, _⟩, _⟩ := h4
      exact snd_par3 (g.calm hk) g.nd (by rw [g.N]; exact h1) (by rw [g.N]; exact h2) (by rw [g.N]; exact h3) n1 n2 n3 (by rw [g.sc]; exact l1) (by rw [g.sc]; exact l2) (by rw [g.sc]; exact l3) s1 s2 s3 (sndE a k _ g h5).1 (sndE b k _ g h6).1 (sndE c k _ g h7).1 (parY3_ok g.sc hp)
    · cases h
  | .rs c es, k, s, ct, B, C, ES, X, g, h => by
    simp only [chkS] at h
    split at h
    · simp only [Bool.and_eq_true, decide_eq_true_eq, Bool.not_eq_true'] at h
      obtain ⟨⟨⟨⟨h1, h2⟩, h3⟩, hk⟩, h4⟩ := h
      split at h4
      · simp only [decide_eq_true_eq] at h4
        obtain ⟨y, e1, rfl⟩ := Option.map_eq_some_iff.mp h1
        obtain ⟨cl, e2, xo⟩ := g.xc c y e1
        rw [e1, Option.map_some] at h4
        exact snd_rs0 (g.calm hk) g.tk e2 (xo.no (Option.some.inj h4)) xo.mg xo.kp (raises_own xo.sb xo.ty) (g.gl h2) (okName_1 h3).1
      · rename_i ia
        simp only [Bool.and_eq_true] at h4
        obtain ⟨⟨⟨h5, h6⟩, h7⟩, h8⟩ := h4
        obtain ⟨y, e1, rfl⟩ := Option.map_eq_some_iff.mp h1
        obtain ⟨cl, e2, xo⟩ := g.xc c y e1
        rw [e1, Option.any_some] at h5
        obtain ⟨f, hf⟩ := Option.isSome_iff_exists.mp h5
        obtain ⟨fi, cc, co, T⟩ := xo.ini f hf
        obtain ⟨n, hr, _⟩ := g.fns hk
        exact snd_rs1 (g.calm hk) g.tk e2 T (g.blt _ (by decide)) xo.mg xo.kp (raises_own xo.sb xo.ty) hr (g.gl h2) (okName_1 h3).1 h6 (snd_cons h6 (sndE ia k _ g h8).1 snd_nil)
      · cases h4
    · cases h
  | .tr b h, k, s, ct, B, C, ES, X, g, q => by
    simp only [chkS] at q
    split at q
    · simp only [Bool.and_eq_true, Bool.not_eq_true'] at q
      obtain ⟨⟨⟨q1, q2⟩, q3⟩, q4⟩ := q
      obtain ⟨s1, s2⟩ := g.stk q1
      rw [Bool.or_eq_true] at q4
      rcases q4 with q4 | q4
      · exact sndHN h k _ _ g q1 q4 (fun B2 ES2 pn xe eT tk pas => sndSs b k _ (g.tr q1 eT tk pas) q3)
      · obtain ⟨hh, ho⟩ := sndHs h k _ g q4
        exact snd_try s1 s2 g.tk (fun B2 ES2 pn xe eT tk pas => sndSs b k _ (g.tr q1 eT tk pas) q3) hh ho
    · cases q
theorem sndSs : ∀ (i : ISs) (k : Ck) (ss : List Stmt) {ct : CT} {B : BP} {C : Cl} {ES : XS} {X : Cx}, Gd k ct B C ES X → chkSs i k ss = true → PSs X ss (liftS B X.K (wpSs C ES i))
  | .nil, k, ss, ct, B, C, ES, X, g, h => by
    simp only [chkSs, List.isEmpty_iff] at h
    subst h
    exact snd_snil
  | .cons a r, k, ss, ct, B, C, ES, X, g, h => by
    by_cases hg : ∃ i, a = .gh i
    · obtain ⟨i, rfl⟩ := hg
      simp only [chkSs] at h
      exact snd_gh (sndSs r k ss g h)
    by_cases hg2 : ∃ i, a = .ghd i
    · obtain ⟨i, rfl⟩ := hg2
      simp only [chkSs] at h
      exact snd_ghd (sndSs r k ss g h)
    · cases ss with
      | nil =>
        exfalso
        cases a <;> first | exact hg ⟨_, rfl⟩ | exact hg2 ⟨_, rfl⟩ | (simp [chkSs] at h; done)
      | cons s ss =>
        have h2 : chkS a k s = true ∧ chkSs r k ss = true := by
          cases a <;> first | exact absurd ⟨_, rfl⟩ hg | exact absurd ⟨_, rfl⟩ hg2 | (simpa only [chkSs, Bool.and_eq_true] using h)
        exact snd_scons (sndS a k s g h2.1) (sndSs r k ss g h2.2)
theorem sndHs : ∀ (i : IHs) (k : Ck) (l : List ExceptHandler) {ct : CT} {B : BP} {C : Cl} {ES : XS} {X : Cx}, Gd k ct B C ES X → chkHs i k l = true → HdsOk X l (hlist ct B X.K C i) ∧ ∀ n cls, ct n = some cls → hoks ct X.K n cls i
  | .nil, k, l, ct, B, C, ES, X, g, h => by
    simp only [chkHs, List.isEmpty_iff] at h
    subst h
    exact ⟨.nil, fun _ _ _ => trivial⟩
  | .cx c cs i m t f b, k, l, ct, B, C, ES, X, g, h => by simp [chkHs] at h
  | .cons c cs i b r, k, l, ct, B, C, ES, X, g, h => by
    simp only [chkHs] at h
    split at h
    · simp only [Bool.and_eq_true] at h
      obtain ⟨cl, e1, nm, ho⟩ := clsB_ok g h.1.1
      obtain ⟨h1, h2⟩ := sndHs r k _ g h.2
      refine ⟨?_, fun n cls e => ⟨rfl, ⟨_, e1, ho n cls e⟩, h2 n cls e⟩⟩
      show HdsOk X _ (((ct c).getD .none, _) :: _)
      rw [e1]
      exact .cons nm (fun a oe _ _ pn _ _ => sndSs b _ _ (g.suite a _) h.1.2) h1
    · cases h
theorem sndHN : ∀ (i : IHs) (k : Ck) (h0 : ExceptHandler) (hds : List ExceptHandler) {ct : CT} {B : BP} {C : Cl} {ES : XS} {X : Cx} {body : List Stmt} {ib : ISs} {pos : Pos}, Gd k ct B C ES X → k.fr = true → chkHN i k h0 hds = true →
    (∀ (B2 : BP) (ES2 : XS) (pn : List (Addr × Obj)) (xe : Value → Shared → Prop), B2.T = B.T → Takes (X.tr pn xe) (wx ct B2 X.K ES2) → PassesOwn (model X.prog X.w) X.A X.env xe → PSs (X.tr pn xe) body (liftS B2 X.K (wpSs C ES2 ib))) →
    PS X (.Try body (h0 :: hds) [] [] pos) (liftS B X.K (wpS C ES (.tr ib i)))
  | .nil, k, h0, hds, ct, B, C, ES, X, body, ib, pos, g, q1, h, hb => by simp [chkHN] at h
  | .cx c cs i m t f b, k, h0, hds, ct, B, C, ES, X, body, ib, pos, g, q1, h, hb => by
    simp only [chkHN] at h
    obtain ⟨s1, s2⟩ := g.stk q1
    have lone : ∀ {cl : Addr}, cs = [c] → ct c = some (.ref cl) → ∀ n cls, ct n = some cls → cs.contains n = true → cls = .ref cl := fun r7 e1 n cls en hc => by
      rw [r7] at hc
      have : n = c := by simpa using hc
      rw [this, e1] at en
      cases en
      rfl
    split at h
    · simp only [Bool.and_eq_true, decide_eq_true_eq] at h
      obtain ⟨⟨⟨⟨⟨⟨⟨⟨⟨r1, r2⟩, r3⟩, rfl⟩, rfl⟩, rfl⟩, r7⟩, r8⟩, r9⟩, r10⟩ := h
      obtain ⟨cl, e1, nm, ho⟩ := clsB_ok g r1
      obtain ⟨y, ey, ef⟩ := Option.bind_eq_some_iff.mp r8
      obtain ⟨cl2, e2, xo⟩ := g.xc c y ey
      rw [e1] at e2
      cases e2
      obtain ⟨fi, cc, co, T⟩ := xo.ini _ ef
      exact snd_tryx s1 s2 g.nd (by rw [g.N]; exact r2) (by unfold Env.kindOf; rw [g.sc]; exact r3) nm g.tk hb (g.vis r9) (okName_1 r10).1 (okName_1 r10).2 (xo.xf _ ef) T.nof (fun gg hg => T.one hg) (lone r7 e1) ho
    · simp only [Bool.and_eq_true, decide_eq_true_eq] at h
      obtain ⟨⟨⟨⟨⟨⟨⟨⟨r1, r2⟩, r3⟩, rfl⟩, rfl⟩, r7⟩, r8⟩, r9⟩, r10⟩ := h
      obtain ⟨cl, e1, nm, ho⟩ := clsB_ok g r1
      obtain ⟨y, ey, ef⟩ := Option.bind_eq_some_iff.mp r8
      obtain ⟨cl2, e2, xo⟩ := g.xc c y ey
      rw [e1] at e2
      cases e2
      obtain ⟨fi, cc, co, T⟩ := xo.ini _ ef
      exact snd_tryx1 s1 s2 g.nd (by rw [g.N]; exact r2) (by unfold Env.kindOf; rw [g.sc]; exact r3) nm g.tk hb (g.vis r9) (okName_1 r10).1 (okName_1 r10).2 (xo.xf _ ef) T.nof (fun gg hg => T.one hg) (lone r7 e1) ho
    · simp only [Bool.and_eq_true, decide_eq_true_eq, Bool.not_eq_true'] at h
      obtain ⟨⟨⟨⟨⟨⟨⟨⟨⟨⟨⟨r1, r2⟩, r3⟩, rfl⟩, rfl⟩, r7⟩, r8⟩, r9⟩, r10⟩, rfl⟩, r12⟩, r13⟩ := h
      obtain ⟨cl, e1, nm, ho⟩ := clsB_ok g r1
      obtain ⟨y, ey, ef⟩ := Option.bind_eq_some_iff.mp r8
      obtain ⟨cl2, e2, xo⟩ := g.xc c y ey
      rw [e1] at e2
      cases e2
      obtain ⟨fi, cc, co, T⟩ := xo.ini _ ef
      exact snd_tryx2 s1 s2 g.nd (by rw [g.N]; exact r2) (by unfold Env.kindOf; rw [g.sc]; exact r3) nm g.tk hb (fun a oe pn => (sndE b _ _ (g.suite a _) r13).1) (fun _ _ _ => op_le) (fun _ _ _ => opok_cmp fun x y st R h => by cases x <;> cases y <;> first | exact h.elim | exact ⟨_, _, rfl, rfl, h⟩) r12 (g.vis r9) (okName_1 r10).1 (okName_1 r10).2 (xo.xf _ ef) T.nof (fun gg hg => T.one hg) (lone r7 e1) ho
    · cases h
  | .cons c cs i b r, k, h0, hds, ct, B, C, ES, X, body, ib, pos, g, q1, h, hb => by
    simp only [chkHN] at h
    obtain ⟨s1, s2⟩ := g.stk q1
    split at h
    · simp only [Bool.and_eq_true, decide_eq_true_eq] at h
      obtain ⟨⟨⟨r1, r2⟩, r3⟩, r4⟩ := h
      obtain ⟨cl, e1, nm, ho⟩ := clsB_ok g r1
      exact snd_try1 s1 s2 g.nd (by rw [g.N]; exact r2) (by unfold Env.kindOf; rw [g.sc]; exact r3) nm g.tk hb (fun a oe pn => sndSs b _ _ (g.suite a _) r4) ho
    · cases h
end
end Fy

namespace Fy
open PySem PySem.Spec PyProof.Rows L2
variable [LamT]
/-- a def of the text, its names by slot, and its body in the small language -/
structure PD where
  name : Str
  ps : List Str
  N : List Str
  st : Stmt
  body : ISs
  gen : Bool := false
  cs : List (Str × KC) := []
  xs : List XC := []
  lam : Bool := false
  ths : List TH := []
  lps : List (Nat × Nat) := []
def PD.fn (d : PD) : FnD := ⟨d.ps.length, d.N.length, d.body⟩
def ckOf (P : List PD) (d : PD) : Ck := ⟨P.map fun d => (d.name, d.ps.length), d.N, defScope d.st, fun _ => true, d.gen, d.cs, false, true, d.xs, d.lam, d.ths, d.lps, d.gen && !d.lam, false⟩
def PD.ok (P : List PD) (d : PD) : Bool := scB d.N d.ps (defScope d.st) && chkSs d.body (ckOf P d) (defBody d.st)
/-- the defs stand behind the top; the builtins' names are free -/
structure GlOk (Pr : Program) (P : List PD) (ct : CT) (K : PySem.W.Frag) (mg : Str → Option Value) : Prop where
  fns : ∀ (f : Nat) (d : PD), P[f]? = some d → ∃ fa fd, mg d.name = some (.ref fa) ∧ Fun K d.name d.name d.st fa fd ∧ Binds K fd d.ps []
  blt : ∀ x ∈ bltNames, mg x = none
  con : ∀ (f : Nat) (d : PD), P[f]? = some d → ∀ x c, d.cs.lookup x = some c → ∃ u, mg x = some u ∧ RelV c.v u
  xn : ∀ (f : Nat) (d : PD), P[f]? = some d → ∀ n cls, ct n = some cls → n < d.xs.length
  xc : ∀ (f : Nat) (d : PD), P[f]? = some d → ∀ n c, d.xs[n]? = some c → ∃ cl, ct n = some (.ref cl) ∧ XOk Pr K mg c cl
  xm : ∀ (f : Nat) (d : PD), P[f]? = some d → ∀ n c m cls cv, d.xs[n]? = some c → ct n = some cls → ct m = some cv → PySem.W.exmOne K cls cv = some (c.up.contains m)
/-- the defs that call what they are handed -/
def ThsOk (P : List PD) (K : PySem.W.Frag) (mg : Str → Option Value) : Prop := ∀ (f : Nat) (d : PD), P[f]? = some d → ∀ (t : Nat) (th : TH), d.ths[t]? = some th → (∃ fa fd, mg th.name = some (.ref fa) ∧ Fun K th.name th.name th.st fa fd ∧ Binds K fd [th.a] []) ∧ thB d.xs th = true
/-- the code object of the def at fa -/
def CodeOf (K : PySem.W.Frag) (fa c : Addr) : Prop := ∃ o fd, K.lookup fa = some o ∧ o.data = .func fd ∧ fd.code = .ref c
theorem fn_sound {Pr : Program} {w : World} {K : PySem.W.Frag} {mg : Str → Option Value} {base : Heap} {T : Addr → Prop} (P : List PD) (ct : CT) (G : GlOk Pr P ct K mg) (hnl : ∀ Q, ¬ T Q → NoL Q) (hT : ∀ (f : Nat) (d : PD), P[f]? = some d → d.gen = true → ∀ fa, mg d.name = some (.ref fa) → ∃ c Pt, CodeOf K fa c ∧ GxR.TabB base mg c Pt ∧ T Pt ∧ ∀ l c, d.lps.contains (l, c) = false → LamT.lp Pt l c = false) (hL : ∀ (f : Nat) (d : PD), P[f]? = some d → d.lam = true → ∀ fa, mg d.name = some (.ref fa) → ∃ c Pt, CodeOf K fa c ∧ LamX.TabB base mg c Pt ∧ T Pt ∧ LamT.nm Pt = some (d.name ++ ".<locals>." ++ "<lambda>") ∧ ∀ l c, d.lps.contains (l, c) = true → LamT.lp Pt l c = true) (hth : ThsOk P K mg) (hok : ∀ (f : Nat) (d : PD), P[f]? = some d → d.ok P = true) :
    ∀ (n : Nat) (f : Nat) (d : PD), P[f]? = some d → ∀ (fa : Addr) (fd : FuncData), mg d.name = some (.ref fa) → Fun K d.name d.name d.st fa fd → FnOk Pr w K mg base (L2.CX Pr w) (4 * n) fa fd d.ps (spOf T ct K (wpFn (P.map PD.fn) n) f d.ps.length) := by
  intro n
  induction n with
  | zero =>
    intro f d e fa fd hmg F
    refine ⟨fun vs H Q E h => h.1, fun A outer s H args us vs Q E _ _ _ _ h => ?_⟩
    obtain ⟨_, _, _, _, _, _, _, _, _, h, _⟩ := h
    exact h.elim
  | succ n ih =>
    intro f d e fa fd hmg F
    have ok := hok f d e
    simp only [PD.ok, Bool.and_eq_true] at ok
    have S := scB_ok ok.1
    have hgen := hT f d e
    obtain ⟨_, _, _, _, _, _, cdv, _, _, rfl, lk, hcd⟩ := F.ex
    refine fn_of (k := 4 * n + 3) lk hcd S (fun vs H Q E h => h.1) (fun A outer s H vs Q E hr h => ?_)
    obtain ⟨hl, tb, hs, ds, st, R, EE, reps, so, hC, q, qe⟩ := h
    obtain ⟨d2, e2, hd, hC⟩ := hC
    rw [List.getElem?_map, e] at e2
    cases e2
    let B := BFrom T K hs st H tb
    let ES : XS := fun x _ st2 => ∃ st3, Sub st3 st2 ∧ EE x st3
    have g : Gd (ckOf P d) ct B (wpFn (P.map PD.fn) n) ES (cxOf (L2.CX Pr w) Pr w K mg base d.N d.name (defScope d.st) fa cdv A outer s H E) := by
      refine ⟨rfl, rfl, fun _ => rfl, S.nd, fun _ _ => rfl, passes_of rfl, ?_, G.blt, G.con f d e, fun hg => ?_, hnl, fun _ => rfl, (by have := hr.un; exact Nat.lt_of_le_of_lt (Nat.add_le_add (Nat.le_refl _) (by omega : 65 ≤ 16 * (4 * n + 3) + 200)) (by rw [Nat.add_assoc] at this; exact this)), fun _ => ⟨rfl, rfl⟩, G.xn f d e, G.xc f d e, G.xm f d e, fun hg => ?_, hth f d e, fun _ => ⟨4 * n, ?_, ?_⟩⟩
      · refine (takes_of rfl rfl rfl rfl).imp ?_
        rintro cls dd σ H2 ⟨hs2, z, x, st2, sr, so2, xr, st3, sub, h3⟩
        obtain ⟨e3, t⟩ := sr.b
        cases e3
        have t3 : Step ⟨K, hs⟩ st2 H2 st3 H2 := .sub sub
        refine qe x st3 cls dd H2 h3 (t.trans t3) ⟨xr.1, ?_⟩ (so2.sub sub)
        obtain ⟨_, xr⟩ := xr
        revert xr
        cases x.arg with
        | none => exact fun z => z
        | some y =>
          rintro ⟨da, fl, v, h1, h2, h3, h4⟩
          exact ⟨da, fl, v, h1, h2, h3.mono t3, h4⟩
      · obtain ⟨c, Pt, ⟨o, fd2, q1, q2, q3⟩, q4, q5, q6⟩ := hgen hg fa hmg
        rw [lk] at q1
        cases q1
        cases q2
        exact ⟨c, Pt, fun _ => True, q3, ⟨_, q4.bm⟩, fun _ h k _ _ => q4.code.keeps k, fun _ _ _ _ => trivial, q5, q6, fun _ _ => trivial⟩
      · obtain ⟨c, Pt, ⟨o, fd2, q1, q2, q3⟩, q4, q5, q6⟩ := hL f d e hg fa hmg
        rw [lk] at q1
        cases q1
        cases q2
        exact ⟨c, Pt, q3, q4, q5, q6⟩
      · refine hr.mono ?_
        show 4 * n + ((if d.gen = true then 1 else 0) + (if (d.gen && !d.lam) = true then 1 else 0)) + (if d.lam = true then 2 else 0) ≤ _
        cases d.gen <;> cases d.lam <;> simp
      · intro f2 nm np h
        have h : (P.map fun d => (d.name, d.ps.length))[f2]? = some (nm, np) := h
        rw [List.getElem?_map] at h
        cases q : P[f2]? with
        | none => rw [q] at h; cases h
        | some d2 =>
          rw [q] at h
          cases h
          obtain ⟨fa2, fd2, h1, h2, h3⟩ := G.fns f2 d2 q
          exact ⟨fa2, fd2, d2.ps, rfl, h1, h2.kp, ih f2 d2 q fa2 fd2 h1 h2, h3⟩
    refine ⟨_, sndSs d.body (ckOf P d) (defBody d.st) g ok.2, hs, dstart d.N.length ds, st, _, ⟨SRep.start reps, rfl, .refl⟩, so, hC, ?_⟩
    refine ⟨?_, ?_, fun _ _ _ _ h => h.elim, fun _ _ _ _ h => h.elim⟩
    · rintro z st2 s2 H2 ⟨st3, sub, h3⟩ t2 sr2 so2
      exact q .non st3 .non H2 h3 (t2.trans (.sub sub)) .non (so2.sub sub)
    · rintro x st2 v H2 ⟨st3, sub, h3⟩ t2 r2 so2
      exact q x st3 v H2 h3 (t2.trans (.sub sub)) (r2.mono (.sub sub)) (so2.sub sub)
theorem law_sp {T : Addr → Prop} {K : PySem.W.Frag} {H : Hp} {a : Addr} {ns : List Int} {C : Cl} {f : Nat} {ct : CT} (hn : ns.length ≤ sizeLine) (hT : ∀ P, T P → Tb H P) (hS : SqL K H a (ns.map V.int)) (h : C f [.scr (ns.map D.int)] (fun _ => none) (fun v _ => v = .bl true) fun _ _ => False) :
    spOf T ct K C f 1 [.ref a] H (fun v _ => v = .bl true) fun _ _ _ => False := by
  have fz : FzL ⟨K, fun _ => False⟩ (fun _ => none) H a (ns.map V.int) := by
    rcases hS with (hS | ⟨o, hS⟩) | hS
    · exact .inr (.inr ⟨hS, rfl, fun z => z⟩)
    · exact .inl ⟨o, hS⟩
    · exact .inr (.inl (.inr hS))
  refine ⟨rfl, hT, fun _ => False, _, _, _, _, .cons (.scr fz (Reps.ints ns) (by rw [List.length_map]; exact hn)) .nil, ⟨fun a o e => (by cases e), fun a z => z.elim⟩, h, ?_, fun _ _ _ _ _ z => z.elim⟩
  rintro d st2 v H2 rfl _ r _
  cases r
  rfl
theorem cx_none {Pr : Program} {w : World} {l : List Env} {H : Hp} {s : Shared} {e : Value} {s2 : Shared} (h : L2.CX Pr w l H s (fun _ _ _ => False) e s2) : False := by
  obtain ⟨_, _, _, _, _, _, _, _, _, _, _, _, z⟩ := h
  exact z
/-- the table of the code object, read in the written part -/
theorem own_tab {K : PySem.W.Frag} {f c P : Addr} {h : Heap} {o : Obj} {fd : FuncData} (w : LamX.OwnTab K f h) (l : K.lookup f = some o) (hd : o.data = .func fd) (hc : fd.code = .ref c) (t : PySem.W.codeHdIn K c P = true) : h.get? P = some { cls := .none, data := .fields #[] } := by
  unfold PySem.W.codeHdIn at t
  split at t
  · rename_i dd vs sl hk
    simp only [Bool.and_eq_true] at t
    obtain ⟨⟨⟨⟨⟨t, _⟩, _⟩, _⟩, _⟩, _⟩ := t
    split at t
    · rename_i P2 e
      have hP : P2 = P := beq_iff_eq.mp t
      subst hP
      exact w c P2 o fd _ dd vs sl l hd hc hk e
    · cases t
  · cases t
theorem walk_tabs {l : PySem.W.OpenLaw} {n k : Nat} {q : Program} {loose : List Str} {XP : (Str → Option Value) → Heap → Prop} {YP : World → Heap → Prop} {d : DefRec} {K : Params → PySem.W.Frag} {CX : World → CXT} {x : Str}
    (hn : l.most = some n) (hn2 : n ≤ sizeLine) (hdf : d.params.defaults = []) (hr : Room k callerA) (hY : ∀ (w : World) (h : Heap), YP w h → (K w.params).In h)
    (F : ∀ (w : World) (mg : Str → Option Value) (fa : Addr) (h : Heap), YP w h → (K w.params).In h → h.Ns mainGlobals mg → mg d.name = some (.ref fa) → (∀ x : Str, ((recsOf q).any fun e => e.name == x) = true → ∀ f, mg x = some (.ref f) → LamX.OwnTab (K w.params) f h) → LamX.LawAtS l w (K w.params) (CX w) k n x mg fa h)
    (hCX : ∀ (w : World) (H : Hp) (s : Shared) (e : Value) (s' : Shared), CX w [] H s (fun _ _ _ => False) e s' → False) :
    PySem.W.WalkO q loose XP YP l.row.toRowW d [] (fun f vs => PySem.call f vs) := by
  refine Att.attach_callB hn hdf fun w s0 s1 mg mb fa o pm cd doc a vs ns G Y ho hd hcd hmg hobj hints hlen hbits hg => ?_
  have KX := hY w _ Y
  have own : ∀ x : Str, ((recsOf q).any fun e => e.name == x) = true → ∀ f, mg x = some (.ref f) → LamX.OwnTab (K w.params) f s1.heap := fun x hx f hf c P o1 fd1 e dd vs1 sl k1 k2 k3 k4 k5 => by
    obtain ⟨dL, hm, hx⟩ := List.any_eq_true.mp hx
    have hx : dL.name = x := beq_iff_eq.mp hx
    obtain ⟨a', o', fd', c', P', h1, h2, h3, h4, _, ⟨oc, vc, e1, _, e3, e4⟩, hP⟩ := G.T.tab dL hm
    rw [hx, hf] at h1
    cases h1
    have g1 := KX _ _ k1
    rw [g1] at h2
    cases h2
    rw [k2] at h3
    cases h3
    rw [k3] at h4
    cases h4
    have g2 := KX _ _ k4
    rw [g2] at e1
    cases e1
    cases e3
    rw [k5] at e4
    cases e4
    exact hP
  obtain ⟨fd, cs, sp, hT, nT, C, hb, hsp, hF⟩ := F w mg fa _ Y KX G.T.g hmg own
  exact LamX.law_callTs KX G.T.g G.T.b G.T.builtins G.T.nolimit hg hT nT C G.T.bmain hobj hints (Nat.le_trans hlen hn2) hr hF hb (fun H hH hS => hsp H a ns hlen hbits hH hS) fun H e s' => hCX w H s1 e s'
theorem con_of {mg : Str → Option Value} {cs : List (Str × KC)} (h : ∀ p ∈ cs, ∃ u, mg p.1 = some u ∧ RelV p.2.v u) : ∀ x c, cs.lookup x = some c → ∃ u, mg x = some u ∧ RelV c.v u := fun x c e => h (x, c) (PySem.mem_of_lookup e)
/-- the classes' values -/
def ctOf (cl : List Addr) : CT := fun n => (cl[n]?).map Value.ref
theorem exm_of {K : PySem.W.Frag} {a c : Addr} {b : Bool} (h1 : PySem.W.subIn K (.ref c) (.type "BaseException") = some true) (h2 : PySem.W.isClsIn K c = true) (h3 : PySem.W.typeIn K (.ref c) = some (.type "type")) (h4 : PySem.W.subIn K (.ref a) (.ref c) = some b) : PySem.W.exmOne K (.ref a) (.ref c) = some b := by
  unfold PySem.W.exmOne
  rw [h1, if_pos (by rfl)]
  have e2 : ((PySem.W.clsIn K c).isSome && PySem.W.typeIn K (.ref c) == some (.type "type")) = true := by
    have h2' : (PySem.W.clsIn K c).isSome = true := h2
    rw [h2', h3] <;> rfl
  show (if ((PySem.W.clsIn K c).isSome && PySem.W.typeIn K (.ref c) == some (.type "type")) = true then PySem.W.subIn K (.ref a) (.ref c) else none) = some b
  rw [if_pos e2]
  exact h4
theorem tabG0 {H : Hp} {P : Addr} (h : H P = some (.tbl #[])) : Tb H P := Tb.empty h
theorem tabB_of {base : Heap} {mg : Str → Option Value} {c P : Addr} (h : LamX.TabB base mg c P) : GxR.TabB base mg c P := ⟨h.code, h.bm, h.gP⟩
end Fy

namespace Fy
open PySem PySem.Spec PyProof.Rows L2
/-! ### loops by what holds between the turns -/
theorem forL_inv {body : DSt → Sto → DEnds → Prop} {t : Tg} {src : Src} {K : DEnds} (P : List D → DSt → Sto → Prop)
    (hs : ∀ pre d post s st (Kn : DSt → Sto → Prop), src.items = pre ++ d :: post → P pre s st → (∀ s st, P (pre ++ [d]) s st → Kn s st) →
      src.ok st ∧ asgP t d s fun s2 => body s2 st { K with nx := Kn, ct := Kn, bk := K.nx })
    (hd : ∀ s st, P src.items s st → src.ok st ∧ K.nx s st) : ∀ (post pre : List D) (s : DSt) (st : Sto), src.items = pre ++ post → P pre s st → forL body t src post s st K
  | [], pre, s, st, e, h => by
    rw [List.append_nil] at e
    subst e
    exact hd s st h
  | d :: post, pre, s, st, e, h => by
    refine hs pre d post s st (fun s st => forL body t src post s st K) e h fun s2 st2 h2 => ?_
    exact forL_inv P hs hd post (pre ++ [d]) s2 st2 (by rw [e]; simp) h2
theorem forL_by {body : DSt → Sto → DEnds → Prop} {t : Tg} {src : Src} {K : DEnds} {s : DSt} {st : Sto} (P : List D → DSt → Sto → Prop) (h0 : P [] s st)
    (hs : ∀ pre d post s st (Kn : DSt → Sto → Prop), src.items = pre ++ d :: post → P pre s st → (∀ s st, P (pre ++ [d]) s st → Kn s st) →
      src.ok st ∧ asgP t d s fun s2 => body s2 st { K with nx := Kn, ct := Kn, bk := K.nx })
    (hd : ∀ s st, P src.items s st → src.ok st ∧ K.nx s st) : forL body t src src.items s st K := forL_inv P hs hd src.items [] s st rfl h0
theorem lcL_inv {tt : DSt → Sto → (Bool → Sto → Prop) → Prop} {el : DSt → Sto → (D → Sto → Prop) → Prop} {t : Tg} {src : Src} {s : DSt} {k : List D → Sto → Prop} (P : List D → List D → Sto → Prop)
    (hs : ∀ pre d post acc st (Kn : List D → Sto → Prop), src.items = pre ++ d :: post → P pre acc st → (∀ acc st, P (pre ++ [d]) acc st → Kn acc st) →
      src.ok st ∧ asgP t d s fun s2 => tt s2 st fun b st1 => if b = true then el s2 st1 fun y st2 => Kn (acc ++ [y]) st2 else Kn acc st1)
    (hd : ∀ acc st, P src.items acc st → src.ok st ∧ k acc st) : ∀ (post pre acc : List D) (st : Sto), src.items = pre ++ post → P pre acc st → lcL tt el t src s post acc st k
  | [], pre, acc, st, e, h => by
    rw [List.append_nil] at e
    subst e
    exact hd acc st h
  | d :: post, pre, acc, st, e, h => by
    refine hs pre d post acc st (fun acc st => lcL tt el t src s post acc st k) e h fun acc2 st2 h2 => ?_
    exact lcL_inv P hs hd post (pre ++ [d]) acc2 st2 (by rw [e]; simp) h2
theorem lcL_by {tt : DSt → Sto → (Bool → Sto → Prop) → Prop} {el : DSt → Sto → (D → Sto → Prop) → Prop} {t : Tg} {src : Src} {s : DSt} {k : List D → Sto → Prop} {st : Sto} (P : List D → List D → Sto → Prop) (h0 : P [] [] st)
    (hs : ∀ pre d post acc st (Kn : List D → Sto → Prop), src.items = pre ++ d :: post → P pre acc st → (∀ acc st, P (pre ++ [d]) acc st → Kn acc st) →
      src.ok st ∧ asgP t d s fun s2 => tt s2 st fun b st1 => if b = true then el s2 st1 fun y st2 => Kn (acc ++ [y]) st2 else Kn acc st1)
    (hd : ∀ acc st, P src.items acc st → src.ok st ∧ k acc st) : lcL tt el t src s src.items [] st k := lcL_inv P hs hd src.items [] [] st rfl h0
/-- a comprehension whose turns change nothing -/
theorem lcL_pure {tt : DSt → Sto → (Bool → Sto → Prop) → Prop} {el : DSt → Sto → (D → Sto → Prop) → Prop} {t : Tg} {src : Src} {s : DSt} {k : List D → Sto → Prop} {st : Sto} (f : D → Bool) (g : D → D) (ho : src.ok st)
    (h : ∀ d ∈ src.items, ∀ (acc : List D) (Kn : List D → Sto → Prop), Kn (if f d = true then acc ++ [g d] else acc) st → asgP t d s fun s2 => tt s2 st fun b st1 => if b = true then el s2 st1 fun y st2 => Kn (acc ++ [y]) st2 else Kn acc st1)
    (hk : k ((src.items.filter f).map g) st) : lcL tt el t src s src.items [] st k := by
  refine lcL_by (fun pre acc st2 => st2 = st ∧ acc = (pre.filter f).map g) ⟨rfl, rfl⟩ ?_ ?_
  · rintro pre d post acc st2 Kn e ⟨rfl, rfl⟩ q
    refine ⟨ho, h d (by rw [e]; simp) _ Kn (q _ _ ⟨rfl, ?_⟩)⟩
    rw [List.filter_append, List.map_append]
    cases hf : f d <;> simp [List.filter_cons, hf]
  · rintro acc st2 ⟨rfl, rfl⟩
    exact ⟨ho, hk⟩
/-- a while by a number that falls -/
theorem whN_by {c : DSt → Sto → (Bool → Sto → Prop) → Prop} {body : DSt → Sto → DEnds → Prop} {K : DEnds} (P : DSt → Sto → Prop) (m : DSt → Sto → Nat)
    (h : ∀ s st (Kn : DSt → Sto → Prop), P s st → (∀ s2 st2, P s2 st2 → m s2 st2 < m s st → Kn s2 st2) → c s st fun b st1 => if b = true then body s st1 { K with nx := Kn, ct := Kn, bk := K.nx } else K.nx s st1) :
    ∀ (n : Nat) (s : DSt) (st : Sto), P s st → m s st < n → whN c body n s st K
  | 0, _, _, _, q => by omega
  | n + 1, s, st, p, q => h s st (fun s st => whN c body n s st K) p fun s2 st2 p2 q2 => whN_by P m h n s2 st2 p2 (by omega)
theorem while_by {c : DSt → Sto → (Bool → Sto → Prop) → Prop} {body : DSt → Sto → DEnds → Prop} {K : DEnds} {s : DSt} {st : Sto} (P : DSt → Sto → Prop) (m : DSt → Sto → Nat) (h0 : P s st)
    (h : ∀ s st (Kn : DSt → Sto → Prop), P s st → (∀ s2 st2, P s2 st2 → m s2 st2 < m s st → Kn s2 st2) → c s st fun b st1 => if b = true then body s st1 { K with nx := Kn, ct := Kn, bk := K.nx } else K.nx s st1) :
    ∃ n, whN c body n s st K := ⟨m s st + 1, whN_by P m h _ s st h0 (Nat.lt_succ_self _)⟩
theorem fg {R : D → Sto → Prop} {d : D} {st st2 : Sto} (s : Sub st2 st) (h : R d st2) : Fg R d st := ⟨st2, s, h⟩
theorem fg0 {R : D → Sto → Prop} {d : D} {st : Sto} (h : R d st) : Fg R d st := ⟨st, Sub.refl _, h⟩
/-! ### one step each, for rewriting -/
section
variable {C : Cl} {ES : XS} {s : DSt} {st : Sto} {R : D → Sto → Prop} {a b c : IE}
def brP (x : D) (A B : Prop) : Prop := match x with
  | .bl b => if b = true then A else B
  | _ => False
theorem brP_bl {k : Bool} {A B : Prop} : brP (.bl k) A B = (if k = true then A else B) := rfl
theorem e_and : wpE C ES (.and a b) s st R = wpE C ES a s st fun x st1 => brP x (wpE C ES b s st1 R) (R (.bl false) st1) := by
  simp only [wpE]
  refine congrArg (wpE C ES a s st) ?_
  funext x st1
  cases x <;> first | rfl | skip
  rename_i k
  cases k <;> simp [brP]
theorem e_or : wpE C ES (.or a b) s st R = wpE C ES a s st fun x st1 => brP x (R (.bl true) st1) (wpE C ES b s st1 R) := by
  simp only [wpE]
  refine congrArg (wpE C ES a s st) ?_
  funext x st1
  cases x <;> first | rfl | skip
  rename_i k
  cases k <;> simp [brP]
def notP (x : D) (k : Bool → Prop) : Prop := match x with
  | .bl b => k (!b)
  | _ => False
theorem notP_bl {v : Bool} {k : Bool → Prop} : notP (.bl v) k = k (!v) := rfl
theorem e_not : wpE C ES (.not a) s st R = wpE C ES a s st fun x st1 => notP x fun b => R (.bl b) st1 := by
  simp only [wpE]
  refine congrArg (wpE C ES a s st) ?_
  funext x st1
  cases x <;> rfl
def negP (x : D) (k : Int → Prop) : Prop := match x with
  | .int i => k (-i)
  | _ => False
theorem negP_int {v : Int} {k : Int → Prop} : negP (.int v) k = k (-v) := rfl
theorem e_neg : wpE C ES (.neg a) s st R = wpE C ES a s st fun x st1 => negP x fun b => R (.int b) st1 := by
  simp only [wpE]
  refine congrArg (wpE C ES a s st) ?_
  funext x st1
  cases x <;> rfl
theorem e_cmp2 {o o2 : COp} : wpE C ES (.cmp2 o o2 a b c) s st R = wpE C ES a s st fun x st1 => wpE C ES b s st1 fun y st2 => cmpP o x y st2 fun r st3 => brP r (wpE C ES c s st3 fun z st4 => cmpP o2 y z st4 R) (R (.bl false) st3) := by
  simp only [wpE]
  refine congrArg (wpE C ES a s st) ?_
  funext x st1
  refine congrArg (wpE C ES b s st1) ?_
  funext y st2
  refine congrArg (cmpP o x y st2) ?_
  funext r st3
  cases r <;> first | rfl | skip
  rename_i k
  cases k <;> simp [brP]
theorem e_var {i : Nat} : wpE C ES (.var i) s st R = getP s i fun d => R d st := by simp only [wpE]
theorem e_int {i : Int} : wpE C ES (.cint i) s st R = R (.int i) st := by simp only [wpE]
theorem e_bl {i : Bool} : wpE C ES (.cbl i) s st R = R (.bl i) st := by simp only [wpE]
theorem e_non : wpE C ES .cnon s st R = R .non st := by simp only [wpE]
theorem e_str {x : Str} : wpE C ES (.cstr x) s st R = R (.str x) st := by simp only [wpE]
theorem e_bin {o : BOp} : wpE C ES (.bin o a b) s st R = wpE C ES a s st fun x st1 => wpE C ES b s st1 fun y st2 => binP o x y st2 R := by simp only [wpE]
theorem e_cmp {o : COp} : wpE C ES (.cmp o a b) s st R = wpE C ES a s st fun x st1 => wpE C ES b s st1 fun y st2 => cmpP o x y st2 R := by simp only [wpE]
theorem e_ife : wpE C ES (.ife c a b) s st R = wpE C ES c s st fun x st1 => truP x st1 fun c => if c = true then wpE C ES a s st1 R else wpE C ES b s st1 R := by simp only [wpE]
theorem e_tup {es : IEs} : wpE C ES (.tup es) s st R = wpEs C ES es s st fun ds st1 => R (.tup ds) st1 := by simp only [wpE]
theorem e_lst {z : Bool} {es : IEs} : wpE C ES (.lst z es) s st R = wpEs C ES es s st fun ds st1 => newL z ds st1 R := by simp only [wpE]
theorem e_frz : wpE C ES (.frz a) s st R = wpE C ES a s st fun d st1 => frzP d st1 R := by simp only [wpE]
theorem e_call {f : Nat} {es : IEs} : wpE C ES (.call f es) s st R = wpEs C ES es s st fun ds st1 => C f ds st1 R fun x st2 => ES x s st2 := by simp only [wpE]
theorem e_bi {f : Bi} {es : IEs} : wpE C ES (.bi f es) s st R = wpEs C ES es s st fun ds st1 => biP f ds st1 R := by simp only [wpE]
theorem e_ix : wpE C ES (.ix a b) s st R = wpE C ES a s st fun x st1 => wpE C ES b s st1 fun y st2 => ixP x y st2 R := by simp only [wpE]
theorem e_sl {z : Bool} {lo hi : IEs} : wpE C ES (.sl z a lo hi) s st R = wpE C ES a s st fun x st1 => wpO C ES lo s st1 fun i st2 => wpO C ES hi s st2 fun j st3 => slP z x i j st3 R := by simp only [wpE]
theorem e_lc {own : List Nat} {t : Tg} {it : II} {ts : IEs} {el : IE} : wpE C ES (.lc own t it ts el) s st R = wpI C ES it s st fun src st1 =>
      lcL (fun s st k => wpTs C XF ts s st k) (fun s st k => wpE C XF el s st k) t src (dwipe s own) src.items [] st1 fun acc st2 => R (.fl acc) st2 := by simp only [wpE]
theorem ex_ix {l : List D} {i : Int} {Q : D → Prop} : (∃ ds d, some (MO.lst l) = some (MO.lst ds) ∧ atI ds i = some d ∧ Q d) = ∃ d, atI l i = some d ∧ Q d := by
  refine propext ⟨?_, fun ⟨d, h⟩ => ⟨l, d, rfl, h⟩⟩
  rintro ⟨ds, d, e, h⟩
  cases e
  exact ⟨d, h⟩
theorem ex_sx {l : List D} {i : Int} {Q : List D → Nat → Prop} : (∃ ds j, some (MO.lst l) = some (MO.lst ds) ∧ ixN ds.length i = some j ∧ Q ds j) = ∃ j, ixN l.length i = some j ∧ Q l j := by
  refine propext ⟨?_, fun ⟨d, h⟩ => ⟨l, d, rfl, h⟩⟩
  rintro ⟨ds, d, e, h⟩
  cases e
  exact ⟨d, h⟩
theorem ex_get {α : Type} {x : α} {Q : α → Prop} : (∃ d, some x = some d ∧ Q d) = Q x := by
  refine propext ⟨?_, fun h => ⟨x, rfl, h⟩⟩
  rintro ⟨d, e, h⟩
  cases e
  exact h
theorem getP_0 {d : D} {r : DSt} {k : D → Prop} : getP (some d :: r) 0 k = k d := rfl
theorem getP_S {x : Option D} {r : DSt} {n : Nat} {k : D → Prop} : getP (x :: r) (n + 1) k = getP r n k := rfl
theorem b_add {i j : Int} : binP .add (.int i) (.int j) st R = R (.int (i + j)) st := rfl
theorem b_sub {i j : Int} : binP .sub (.int i) (.int j) st R = R (.int (i - j)) st := rfl
theorem b_mul {i j : Int} : binP .mul (.int i) (.int j) st R = (CMul i j ∧ R (.int (i * j)) st) := rfl
theorem b_fdiv {i j : Int} : binP .fdiv (.int i) (.int j) st R = ((0 < j ∧ j < 1073741824) ∧ R (.int (i / j)) st) := rfl
theorem b_mod {i j : Int} : binP .mod (.int i) (.int j) st R = (0 < j ∧ R (.int (i % j)) st) := rfl
theorem b_pow {i j : Int} : binP .pow (.int i) (.int j) st R = (CPow i j ∧ R (.int (i ^ j.toNat)) st) := rfl
theorem bi_add {i j : Int} : binI .add (.int i) (.int j) st R = R (.int (i + j)) st := rfl
theorem bi_sub {i j : Int} : binI .sub (.int i) (.int j) st R = R (.int (i - j)) st := rfl
theorem bi_mul {i j : Int} : binI .mul (.int i) (.int j) st R = (CMul i j ∧ R (.int (i * j)) st) := rfl
theorem bi_fdiv {i j : Int} : binI .fdiv (.int i) (.int j) st R = ((0 < j ∧ j < 1073741824) ∧ R (.int (i / j)) st) := rfl
theorem bi_mod {i j : Int} : binI .mod (.int i) (.int j) st R = (0 < j ∧ R (.int (i % j)) st) := rfl
theorem b_str {i j : Str} : binP .add (.str i) (.str j) st R = (i.length + j.length ≤ sizeLine ∧ R (.str (i ++ j)) st) := rfl
theorem b_tup {i j : List D} : binP .add (.tup i) (.tup j) st R = (i.length + j.length ≤ sizeLine ∧ R (.tup (i ++ j)) st) := rfl
theorem b_ff {i j : List D} : binP .add (.fl i) (.fl j) st R = (i.length + j.length ≤ sizeLine ∧ R (.fl (i ++ j)) st) := rfl
theorem b_fr {i : List D} {q : Addr} : binP .add (.fl i) (.ref q) st R = ∃ b, st q = some (.lst b) ∧ catL i b st R := rfl
theorem b_rf {i : List D} {q : Addr} : binP .add (.ref q) (.fl i) st R = ∃ b, st q = some (.lst b) ∧ catL b i st R := rfl
theorem c_lt {i j : Int} : cmpP .lt (.int i) (.int j) st R = R (.bl (decide (i < j))) st := rfl
theorem c_le {i j : Int} : cmpP .le (.int i) (.int j) st R = R (.bl (decide (i ≤ j))) st := rfl
theorem c_gt {i j : Int} : cmpP .gt (.int i) (.int j) st R = R (.bl (decide (j < i))) st := rfl
theorem c_ge {i j : Int} : cmpP .ge (.int i) (.int j) st R = R (.bl (decide (j ≤ i))) st := rfl
theorem c_eq {x y : D} : cmpP .eq x y st R = eqP x y st fun b => R (.bl b) st := by cases x <;> cases y <;> rfl
theorem c_ne {x y : D} : cmpP .ne x y st R = eqP x y st fun b => R (.bl (!b)) st := by cases x <;> cases y <;> rfl
theorem c_is {x : D} : cmpP .is x .non st R = R (.bl x.isNon) st := by cases x <;> rfl
theorem c_isnot {x : D} : cmpP .isnot x .non st R = R (.bl (!x.isNon)) st := by cases x <;> rfl
theorem q_int {i j : Int} {k : Bool → Prop} : eqP (.int i) (.int j) st k = k (decide (i = j)) := rfl
theorem q_bl {i j : Bool} {k : Bool → Prop} : eqP (.bl i) (.bl j) st k = k (decide (i = j)) := rfl
theorem q_str {i j : Str} {k : Bool → Prop} : eqP (.str i) (.str j) st k = k (decide (i = j)) := rfl
theorem n_non : D.isNon .non = true := rfl
theorem n_tup {xs : List D} : D.isNon (.tup xs) = false := rfl
theorem n_int {i : Int} : D.isNon (.int i) = false := rfl
theorem n_ref {i : Addr} : D.isNon (.ref i) = false := rfl
theorem n_fl {i : List D} : D.isNon (.fl i) = false := rfl
theorem n_str {i : Str} : D.isNon (.str i) = false := rfl
theorem n_bl {i : Bool} : D.isNon (.bl i) = false := rfl
theorem t_bl {b : Bool} {k : Bool → Prop} : truP (.bl b) st k = k b := rfl
theorem l_t {ds : List D} : newL true ds st R = R (.fl ds) st := rfl
theorem l_f {ds : List D} : newL false ds st R = (∀ a, st a = none → R (.ref a) (put st a (.lst ds))) := rfl
theorem i_abs {i : Int} : biP .abs [.int i] st R = R (.int (if i < 0 then -i else i)) st := rfl
theorem i_len {x : D} : biP .len [x] st R = lenP x st R := rfl
theorem i_int {i : Int} : biP .int [.int i] st R = R (.int i) st := rfl
theorem i_bl {b : Bool} : biP .int [.bl b] st R = R (.int (if b then 1 else 0)) st := rfl
theorem i_max {i j : Int} : biP .max [.int i, .int j] st R = R (.int (if j > i then j else i)) st := rfl
theorem i_min {i j : Int} : biP .min [.int i, .int j] st R = R (.int (if j < i then j else i)) st := rfl
theorem ln_t {ds : List D} : lenP (.tup ds) st R = R (.int ds.length) st := rfl
theorem ln_f {ds : List D} : lenP (.fl ds) st R = R (.int ds.length) st := rfl
theorem ln_r {p : Addr} {ds : List D} (h : st p = some (.lst ds)) (k : R (.int ds.length) st) : lenP (.ref p) st R := ⟨ds, h, k⟩
theorem ix_t {ds : List D} {i : Int} : ixP (.tup ds) (.int i) st R = ∃ d, atI ds i = some d ∧ R d st := rfl
theorem ix_f {ds : List D} {i : Int} : ixP (.fl ds) (.int i) st R = ∃ d, atI ds i = some d ∧ R d st := rfl
theorem ix_r {p : Addr} {i : Int} : ixP (.ref p) (.int i) st R = ∃ ds d, st p = some (.lst ds) ∧ atI ds i = some d ∧ R d st := rfl
theorem sx_r {p : Addr} {i : Int} {v : D} {k : Sto → Prop} : setIxP (.ref p) (.int i) v st k = ∃ ds j, st p = some (.lst ds) ∧ ixN ds.length i = some j ∧ k (put st p (.lst (ds.set j v))) := rfl
theorem ex_some {ds : List D} {Q : List D → Prop} : (∃ x, (some (MO.lst ds) = some (MO.lst x)) ∧ Q x) = Q ds := by
  refine propext ⟨?_, fun h => ⟨_, rfl, h⟩⟩
  rintro ⟨x, e, h⟩
  cases e
  exact h
theorem at_0 {α : Type} {a0 : α} {l : List α} : atI (a0 :: l) 0 = some a0 := by
  unfold atI ixN
  have h : (0 : Int) < ((a0 :: l).length : Int) := by simp only [List.length_cons]; omega
  rw [if_pos (by decide), if_pos h]
  rfl
theorem ixn_0 {n : Nat} : ixN (n + 1) 0 = some 0 := by
  unfold ixN
  rw [if_pos (by decide), if_pos (by omega)]
  rfl
theorem at_1 {α : Type} {a0 a1 : α} {l : List α} : atI (a0 :: a1 :: l) 1 = some a1 := by
  unfold atI ixN
  have h : (1 : Int) < ((a0 :: a1 :: l).length : Int) := by simp only [List.length_cons]; omega
  rw [if_pos (by decide), if_pos h]
  rfl
theorem ixn_1 {n : Nat} : ixN (n + 2) 1 = some 1 := by
  unfold ixN
  rw [if_pos (by decide), if_pos (by omega)]
  rfl
theorem at_2 {α : Type} {a0 a1 a2 : α} {l : List α} : atI (a0 :: a1 :: a2 :: l) 2 = some a2 := by
  unfold atI ixN
  have h : (2 : Int) < ((a0 :: a1 :: a2 :: l).length : Int) := by simp only [List.length_cons]; omega
  rw [if_pos (by decide), if_pos h]
  rfl
theorem ixn_2 {n : Nat} : ixN (n + 3) 2 = some 2 := by
  unfold ixN
  rw [if_pos (by decide), if_pos (by omega)]
  rfl
theorem at_3 {α : Type} {a0 a1 a2 a3 : α} {l : List α} : atI (a0 :: a1 :: a2 :: a3 :: l) 3 = some a3 := by
  unfold atI ixN
  have h : (3 : Int) < ((a0 :: a1 :: a2 :: a3 :: l).length : Int) := by simp only [List.length_cons]; omega
  rw [if_pos (by decide), if_pos h]
  rfl
theorem ixn_3 {n : Nat} : ixN (n + 4) 3 = some 3 := by
  unfold ixN
  rw [if_pos (by decide), if_pos (by omega)]
  rfl
theorem at_4 {α : Type} {a0 a1 a2 a3 a4 : α} {l : List α} : atI (a0 :: a1 :: a2 :: a3 :: a4 :: l) 4 = some a4 := by
  unfold atI ixN
  have h : (4 : Int) < ((a0 :: a1 :: a2 :: a3 :: a4 :: l).length : Int) := by simp only [List.length_cons]; omega
  rw [if_pos (by decide), if_pos h]
  rfl
theorem ixn_4 {n : Nat} : ixN (n + 5) 4 = some 4 := by
  unfold ixN
  rw [if_pos (by decide), if_pos (by omega)]
  rfl
theorem at_5 {α : Type} {a0 a1 a2 a3 a4 a5 : α} {l : List α} : atI (a0 :: a1 :: a2 :: a3 :: a4 :: a5 :: l) 5 = some a5 := by
  unfold atI ixN
  have h : (5 : Int) < ((a0 :: a1 :: a2 :: a3 :: a4 :: a5 :: l).length : Int) := by simp only [List.length_cons]; omega
  rw [if_pos (by decide), if_pos h]
  rfl
theorem ixn_5 {n : Nat} : ixN (n + 6) 5 = some 5 := by
  unfold ixN
  rw [if_pos (by decide), if_pos (by omega)]
  rfl
theorem at_6 {α : Type} {a0 a1 a2 a3 a4 a5 a6 : α} {l : List α} : atI (a0 :: a1 :: a2 :: a3 :: a4 :: a5 :: a6 :: l) 6 = some a6 := by
  unfold atI ixN
  have h : (6 : Int) < ((a0 :: a1 :: a2 :: a3 :: a4 :: a5 :: a6 :: l).length : Int) := by simp only [List.length_cons]; omega
  rw [if_pos (by decide), if_pos h]
  rfl
theorem ixn_6 {n : Nat} : ixN (n + 7) 6 = some 6 := by
  unfold ixN
  rw [if_pos (by decide), if_pos (by omega)]
  rfl
theorem at_7 {α : Type} {a0 a1 a2 a3 a4 a5 a6 a7 : α} {l : List α} : atI (a0 :: a1 :: a2 :: a3 :: a4 :: a5 :: a6 :: a7 :: l) 7 = some a7 := by
  unfold atI ixN
  have h : (7 : Int) < ((a0 :: a1 :: a2 :: a3 :: a4 :: a5 :: a6 :: a7 :: l).length : Int) := by simp only [List.length_cons]; omega
  rw [if_pos (by decide), if_pos h]
  rfl
theorem ixn_7 {n : Nat} : ixN (n + 8) 7 = some 7 := by
  unfold ixN
  rw [if_pos (by decide), if_pos (by omega)]
  rfl
theorem it_t {ds : List D} {Q : Src → Sto → Prop} : iterP (.tup ds) st Q = Q ⟨ds, none⟩ st := rfl
theorem it_f {ds : List D} {Q : Src → Sto → Prop} : iterP (.fl ds) st Q = Q ⟨ds, none⟩ st := rfl
theorem it_r {p : Addr} {Q : Src → Sto → Prop} : iterP (.ref p) st Q = ∃ ds, st p = some (.lst ds) ∧ Q ⟨ds, some (p, ds)⟩ st := rfl
theorem rg_i {i j : Int} {Q : Src → Sto → Prop} : rngP (.int i) (.int j) st Q = ((-1000000 ≤ i ∧ i ≤ 1000000 ∧ -1000000 ≤ j ∧ j ≤ 1000000) ∧ Q ⟨rangeD i (j - i).toNat, none⟩ st) := rfl
theorem sl_f {z : Bool} {ds : List D} {lo hi : Option Int} : slP z (.fl ds) lo hi st R = newL z (cutD ds lo hi) st R := rfl
theorem sl_s {z : Bool} {ds : List D} {lo hi : Option Int} : slP z (.scr ds) lo hi st R = newL z (cutD ds lo hi) st R := rfl
theorem sl_r {z : Bool} {p : Addr} {lo hi : Option Int} : slP z (.ref p) lo hi st R = ∃ ds, st p = some (.lst ds) ∧ newL z (cutD ds lo hi) st R := rfl
theorem dw_n : dwipe s [] = s := rfl
theorem dw_c {v : Nat} {vs : List Nat} : dwipe s (v :: vs) = (dwipe s vs).set v none := rfl
theorem a_nm {i : Nat} {d : D} {k : DSt → Prop} : asgP (.nm i) d s k = k (s.set i (some d)) := by simp only [asgP]
theorem a_tp {ts : Tgs} {ds : List D} {k : DSt → Prop} : asgP (.tp ts) (.tup ds) s k = asgsP ts ds s k := by simp only [asgP]
theorem a_nil {k : DSt → Prop} : asgsP .nil [] s k = k s := by simp only [asgsP]
theorem a_tf {ts : Tgs} {ds : List D} {k : DSt → Prop} : asgP (.tp ts) (.fl ds) s k = asgsP ts ds s k := by simp only [asgP]
theorem a_cons {t : Tg} {r : Tgs} {d : D} {ds : List D} {k : DSt → Prop} : asgsP (.cons t r) (d :: ds) s k = asgP t d s fun s1 => asgsP r ds s1 k := by simp only [asgsP]
def optP (x : D) (st : Sto) (Q : Option Int → Sto → Prop) : Prop := match x with
  | .int i => Q (some i) st
  | _ => False
theorem o_int {i : Int} {Q : Option Int → Sto → Prop} : optP (.int i) st Q = Q (some i) st := rfl
theorem o_nil {Q : Option Int → Sto → Prop} : wpO C ES .nil s st Q = Q none st := by simp only [wpO]
theorem o_one {Q : Option Int → Sto → Prop} : wpO C ES (.cons a .nil) s st Q = wpE C ES a s st fun x st1 => optP x st1 Q := by
  simp only [wpO]
  refine congrArg (wpE C ES a s st) ?_
  funext x st1
  cases x <;> rfl
theorem ts_nil {Q : Bool → Sto → Prop} : wpTs C ES .nil s st Q = Q true st := by simp only [wpTs]
theorem ts_one {Q : Bool → Sto → Prop} : wpTs C ES (.cons a .nil) s st Q = wpE C ES a s st fun x st1 => truP x st1 fun c => Q c st1 := by simp only [wpTs]
theorem at_lit {α : Type} {xs : List α} {i : Nat} {d : α} (h : xs[i]? = some d) : atI xs (i : Int) = some d := atI_nat h
end
/-! ### the law's own draws -/
local macro_rules | `(tactic| walk_at "fy") => `(tactic| simp only [Fy.dstart, List.map_cons, List.map_nil, List.length_cons, List.length_nil, Nat.reduceAdd, Nat.reduceSub, List.replicate_succ, List.replicate_zero, List.cons_append, List.nil_append, List.append_nil, Fy.wpSs, Fy.wpS, Fy.wpT, Fy.wpEs, Fy.e_and, Fy.e_or, Fy.e_not, Fy.e_neg, Fy.e_cmp2, Fy.e_var, Fy.e_int, Fy.e_bl, Fy.e_non, Fy.e_str, Fy.e_bin, Fy.e_cmp, Fy.e_ife, Fy.e_tup, Fy.e_lst, Fy.e_frz, Fy.e_call, Fy.e_bi, Fy.e_ix, Fy.e_sl, Fy.e_lc, Fy.ex_ix, Fy.ex_sx, Fy.ex_get, Fy.put_same, Fy.put_put, Fy.wpI, Fy.o_int, Fy.o_nil, Fy.o_one, Fy.ts_nil, Fy.ts_one, Fy.a_nm, Fy.a_tp, Fy.a_nil, Fy.a_cons, List.set_cons_zero, List.set_cons_succ, Fy.getP_0, Fy.getP_S, Fy.brP_bl, Fy.notP_bl, Fy.negP_int, Fy.sl_s, Fy.bi_add, Fy.bi_sub, Fy.bi_mul, Fy.bi_fdiv, Fy.bi_mod, Fy.b_str, Fy.b_tup, Fy.b_ff, Fy.b_add, Fy.b_sub, Fy.b_mul, Fy.b_fdiv, Fy.b_mod, Fy.b_pow, Fy.c_lt, Fy.c_le, Fy.c_gt, Fy.c_ge, Fy.c_eq, Fy.c_ne, Fy.c_is, Fy.c_isnot, Fy.q_int, Fy.q_bl, Fy.q_str, Fy.n_non, Fy.n_tup, Fy.n_int, Fy.n_ref, Fy.n_fl, Fy.n_str, Fy.n_bl, Fy.t_bl, Fy.l_t, Fy.l_f, Fy.i_abs, Fy.i_len, Fy.i_int, Fy.i_bl, Fy.i_max, Fy.i_min, Fy.ln_t, Fy.ln_f, Fy.ix_t, Fy.ix_f, Fy.ix_r, Fy.sx_r, Fy.at_0, Fy.at_1, Fy.at_2, Fy.at_3, Fy.at_4, Fy.at_5, Fy.at_6, Fy.at_7, Fy.ixn_0, Fy.ixn_1, Fy.ixn_2, Fy.ixn_3, Fy.ixn_4, Fy.ixn_5, Fy.ixn_6, Fy.ixn_7, Fy.it_t, Fy.it_f, Fy.it_r, Fy.rg_i, Fy.sl_f, Fy.sl_r, Fy.dw_n, Fy.dw_c, Fy.ex_some, decide_eq_true_eq, Bool.not_eq_true', decide_eq_false_iff_not, if_true, if_false, Bool.false_eq_true])
local macro_rules | `(tactic| walk_at "fys") => do
  let h := Lean.mkIdent `hst
  `(tactic| simp only [Fy.dstart, List.map_cons, List.map_nil, List.length_cons, List.length_nil, Nat.reduceAdd, Nat.reduceSub, List.replicate_succ, List.replicate_zero, List.cons_append, List.nil_append, List.append_nil, Fy.wpSs, Fy.wpS, Fy.wpT, Fy.wpEs, Fy.e_and, Fy.e_or, Fy.e_not, Fy.e_neg, Fy.e_cmp2, Fy.e_var, Fy.e_int, Fy.e_bl, Fy.e_non, Fy.e_str, Fy.e_bin, Fy.e_cmp, Fy.e_ife, Fy.e_tup, Fy.e_lst, Fy.e_frz, Fy.e_call, Fy.e_bi, Fy.e_ix, Fy.e_sl, Fy.e_lc, Fy.ex_ix, Fy.ex_sx, Fy.ex_get, Fy.put_same, Fy.put_put, Fy.wpI, Fy.o_int, Fy.o_nil, Fy.o_one, Fy.ts_nil, Fy.ts_one, Fy.a_nm, Fy.a_tp, Fy.a_nil, Fy.a_cons, List.set_cons_zero, List.set_cons_succ, Fy.getP_0, Fy.getP_S, Fy.brP_bl, Fy.notP_bl, Fy.negP_int, Fy.sl_s, Fy.bi_add, Fy.bi_sub, Fy.bi_mul, Fy.bi_fdiv, Fy.bi_mod, Fy.b_str, Fy.b_tup, Fy.b_ff, Fy.b_add, Fy.b_sub, Fy.b_mul, Fy.b_fdiv, Fy.b_mod, Fy.b_pow, Fy.c_lt, Fy.c_le, Fy.c_gt, Fy.c_ge, Fy.c_eq, Fy.c_ne, Fy.c_is, Fy.c_isnot, Fy.q_int, Fy.q_bl, Fy.q_str, Fy.n_non, Fy.n_tup, Fy.n_int, Fy.n_ref, Fy.n_fl, Fy.n_str, Fy.n_bl, Fy.t_bl, Fy.l_t, Fy.l_f, Fy.i_abs, Fy.i_len, Fy.i_int, Fy.i_bl, Fy.i_max, Fy.i_min, Fy.ln_t, Fy.ln_f, Fy.ix_t, Fy.ix_f, Fy.ix_r, Fy.sx_r, Fy.at_0, Fy.at_1, Fy.at_2, Fy.at_3, Fy.at_4, Fy.at_5, Fy.at_6, Fy.at_7, Fy.ixn_0, Fy.ixn_1, Fy.ixn_2, Fy.ixn_3, Fy.ixn_4, Fy.ixn_5, Fy.ixn_6, Fy.ixn_7, Fy.it_t, Fy.it_f, Fy.it_r, Fy.rg_i, Fy.sl_f, Fy.sl_r, Fy.dw_n, Fy.dw_c, Fy.ex_some, decide_eq_true_eq, Bool.not_eq_true', decide_eq_false_iff_not, if_true, if_false, Bool.false_eq_true, $h:ident])
def fnDice : FnD := ⟨1, 1,
  (.cons (.ifs (.cmp2 .lt .lt (.bin .sub (.cint 0) (.cint 10)) (.var 0) (.cint 10))
   (.cons (.ret (.lst false (.cons (.bi .abs (.cons (.var 0) .nil)) (.cons (.cint 0) (.cons (.cint 2) .nil)))))
    .nil)
   .nil)
  (.cons (.ret (.lst false (.cons (.var 0) (.cons (.bin .add (.cint 1) (.bin .mod (.bi .int (.cons (.var 0) .nil)) (.cint 1009))) (.cons (.bi .int (.cons (.cmp .ge (.var 0) (.bin .pow (.cint 10) (.cint 18))) .nil)) .nil)))))
   .nil))⟩
def Dice (st : Sto) (a : Addr) : Prop := ∃ x y z : Int, st a = some (.lst [.int x, .int y, .int z])
theorem dice_ok {P : List FnD} {n f : Nat} (hf : P[f]? = some fnDice) (hn : 1 ≤ n) (x : Int) {st : Sto} {R : D → Sto → Prop} {E : Exc → Sto → Prop} (h : ∀ a x y z, st a = none → R (.ref a) (put st a (.lst [.int x, .int y, .int z]))) : wpFn P n f [.int x] st R E := by
  obtain ⟨n, rfl⟩ : ∃ m, n = m + 1 := ⟨n - 1, by omega⟩
  refine ⟨fnDice, hf, rfl, ?_⟩
  simp only [fnDice]
  walk_at "fy"
  split
  · split
    · exact fun a ha => fg0 (h a _ _ _ ha)
    · refine ⟨by decide, ⟨by decide, by decide, by decide⟩, fun a ha => fg0 (h a _ _ _ ha)⟩
  · refine ⟨by decide, ⟨by decide, by decide, by decide⟩, fun a ha => fg0 (h a _ _ _ ha)⟩
def fnRoll : FnD := ⟨2, 3,
  (.cons (.ifs (.or (.cmp .eq (.ix (.var 0) (.cint 2)) (.cint 2)) (.and (.cmp .eq (.ix (.var 0) (.cint 2)) (.cint 1)) (.cmp .gt (.ix (.var 0) (.cint 0)) (.cint 0))))
   (.cons (.set (.nm 2) (.bin .mod (.bi .int (.cons (.ix (.var 0) (.cint 0)) .nil)) (.var 1)))
    (.cons (.setIx (.var 0) (.cint 0) (.bin .fdiv (.ix (.var 0) (.cint 0)) (.var 1)))
     (.cons (.ret (.var 2))
      .nil)))
   .nil)
  (.cons (.setIx (.var 0) (.cint 2) (.cint 0))
   (.cons (.setIx (.var 0) (.cint 0) (.bin .mod (.bi .int (.cons (.bin .add (.bin .add (.bin .mul (.ix (.var 0) (.cint 0)) (.cint 48271)) (.bin .mul (.ix (.var 0) (.cint 1)) (.cint 69621))) (.cint 11)) .nil)) (.cint 2147483647)))
    (.cons (.setIx (.var 0) (.cint 1) (.bin .add (.ix (.var 0) (.cint 1)) (.cint 1)))
     (.cons (.ret (.bin .mod (.bi .int (.cons (.bin .add (.bin .fdiv (.ix (.var 0) (.cint 0)) (.cint 7)) (.ix (.var 0) (.cint 0))) .nil)) (.var 1)))
      .nil)))))⟩
theorem roll_ok {P : List FnD} {n f : Nat} (hf : P[f]? = some fnRoll) (hn : 1 ≤ n) {p : Addr} {m : Int} {st : Sto} {R : D → Sto → Prop} {E : Exc → Sto → Prop} (hp : Dice st p) (h0 : 0 < m) (h1 : m < 1073741824)
    (h : ∀ r x y z, 0 ≤ r → r < m → R (.int r) (put st p (.lst [.int x, .int y, .int z]))) : wpFn P n f [.ref p, .int m] st R E := by
  obtain ⟨n, rfl⟩ : ∃ m, n = m + 1 := ⟨n - 1, by omega⟩
  obtain ⟨x, y, z, hp⟩ := hp
  refine ⟨fnRoll, hf, rfl, ?_⟩
  have good : ∀ v x y z, R (.int (v % m)) (put st p (.lst [.int x, .int y, .int z])) := fun v x y z => h _ x y z (Int.emod_nonneg _ (by omega)) (Int.emod_lt_of_pos _ h0)
  have hst := hp
  simp only [fnRoll]
  walk_at "fys"
  have cm : ∀ v c : Int, -(2 ^ 64) < c → c < 2 ^ 64 → CMul v c := fun v c h h2 => .inr ⟨h, h2⟩
  split
  · exact ⟨h0, ⟨h0, h1⟩, fg0 (good _ _ _ _)⟩
  · split
    · split
      · exact ⟨h0, ⟨h0, h1⟩, fg0 (good _ _ _ _)⟩
      · exact ⟨cm _ _ (by decide) (by decide), cm _ _ (by decide) (by decide), by decide, by decide, h0, fg0 (good _ _ _ _)⟩
    · exact ⟨cm _ _ (by decide) (by decide), cm _ _ (by decide) (by decide), by decide, by decide, h0, fg0 (good _ _ _ _)⟩
/-- all dice stand; what else is there is as it was -/
structure Dices (ps : List Addr) (st0 st : Sto) : Prop where
  all : ∀ p ∈ ps, Dice st p
  out : ∀ a, a ∉ ps → st a = st0 a
theorem Dices.trans {ps : List Addr} {a b c : Sto} (h : Dices ps a b) (k : Dices ps b c) : Dices ps a c := ⟨k.all, fun x n => (k.out x n).trans (h.out x n)⟩
theorem roll_all {P : List FnD} {n f : Nat} (hf : P[f]? = some fnRoll) (hn : 1 ≤ n) {ps : List Addr} {p : Addr} {m : Int} {st0 st : Sto} {R : D → Sto → Prop} {E : Exc → Sto → Prop} (hd : Dices ps st0 st) (hp : p ∈ ps) (h0 : 0 < m) (h1 : m < 1073741824)
    (h : ∀ r st2, 0 ≤ r → r < m → Dices ps st0 st2 → R (.int r) st2) : wpFn P n f [.ref p, .int m] st R E := by
  refine roll_ok hf hn (hd.all p hp) h0 h1 fun r x y z hr0 hr1 => h r _ hr0 hr1 (hd.trans ⟨fun q hq => ?_, fun a ha => put_ne fun e => ha (e ▸ hp)⟩)
  by_cases e : q = p
  · subst e
    exact ⟨x, y, z, put_same⟩
  · obtain ⟨a, b, c, h⟩ := hd.all q hq
    exact ⟨a, b, c, by rw [put_ne e]; exact h⟩
def fnRounds (fd : Nat) : FnD := ⟨2, 4,
  (.cons (.set (.nm 2) (.sl true (.var 0) .nil (.cons (.var 1) .nil)))
  (.cons (.ifs (.cmp .eq (.var 2) (.lst true .nil))
    (.cons (.set (.nm 2) (.lst true (.cons (.cint 0) .nil)))
     .nil)
    .nil)
   (.cons (.ret (.lc [3] (.nm 3) (.val (.var 2)) .nil (.call fd (.cons (.var 3) .nil))))
    .nil)))⟩
/-! ### equality of data -/
theorem eq_any {st : Sto} {x y : D} {p q : PyData} {k : Bool → Prop} (hp : Py st x p) (hq : Py st y q) (s1 : SeqAt.shaped p = true) (s2 : SeqAt.shaped q = true) (h : k (PyData.eqv p q)) : eqP x y st k := by
  unfold eqP
  split
  · cases hp; cases hq
    rename_i i j
    have e : PyData.eqv (.int i) (.int j) = decide (i = j) := (show (i == j) = _ from Bool.beq_eq_decide_eq ..)
    rw [e] at h
    exact h
  · cases hp; cases hq
    rename_i i j
    have e : PyData.eqv (.bool i) (.bool j) = decide (i = j) := (show (i == j) = _ from Bool.beq_eq_decide_eq ..)
    rw [e] at h
    exact h
  · cases hp; cases hq
    rename_i i j
    have e : PyData.eqv (.str i) (.str j) = decide (i = j) := (show (i == j) = _ from Bool.beq_eq_decide_eq ..)
    rw [e] at h
    exact h
  · exact ⟨p, q, hp, hq, s1, s2, h⟩
theorem Py.ints {st : Sto} : ∀ ns : List Int, Pys st (ns.map D.int) (ns.map PyData.int)
  | [] => .nil
  | n :: r => .cons (.int n) (Py.ints r)
theorem lay_ints : ∀ ns : List Int, PyData.canLayAll0 (ns.map PyData.int) = true
  | [] => rfl
  | n :: r => by
    show (PyData.canLay0 (.int n) && PyData.canLayAll0 (r.map PyData.int)) = true
    rw [lay_ints r]
    rfl
theorem depth_ints : ∀ ns : List Int, PyData.depthAll (ns.map PyData.int) ≤ 1
  | [] => Nat.zero_le _
  | n :: r => by
    show max (PyData.depth (.int n)) (PyData.depthAll (r.map PyData.int)) ≤ 1
    have h1 : PyData.depth (.int n) ≤ 1 := by simp [PyData.depth]
    have h2 := depth_ints r
    omega
theorem shaped_li (ns : List Int) : SeqAt.shaped (.list (ns.map PyData.int)) = true := by
  have h := depth_ints ns
  show (PyData.canLayAll0 (ns.map PyData.int) && decide (PyData.depthAll (ns.map PyData.int) + 1 ≤ 64)) = true
  rw [lay_ints, Bool.true_and]
  exact decide_eq_true (by omega)
theorem shaped_ti (ns : List Int) : SeqAt.shaped (.tuple (ns.map PyData.int)) = true := by
  have h := depth_ints ns
  show (PyData.canLayAll0 (ns.map PyData.int) && decide (PyData.depthAll (ns.map PyData.int) + 1 ≤ 64)) = true
  rw [lay_ints, Bool.true_and]
  exact decide_eq_true (by omega)
theorem eqvAll_ints : ∀ ns ms : List Int, PyData.eqvAll (ns.map PyData.int) (ms.map PyData.int) = decide (ns = ms)
  | [], [] => rfl
  | [], m :: ms => rfl
  | n :: ns, [] => rfl
  | n :: ns, m :: ms => by
    show (PyData.eqv (.int n) (.int m) && PyData.eqvAll (ns.map PyData.int) (ms.map PyData.int)) = _
    rw [eqvAll_ints ns ms]
    simp [PyData.eqv, Bool.beq_eq_decide_eq]
theorem q_fi {st : Sto} {ns ms : List Int} {k : Bool → Prop} (h : k (decide (ns = ms))) : eqP (.fl (ns.map D.int)) (.fl (ms.map D.int)) st k := by
  refine eq_any (.fl (Py.ints ns)) (.fl (Py.ints ms)) (shaped_li ns) (shaped_li ms) ?_
  rw [show PyData.eqv (.list _) (.list _) = PyData.eqvAll _ _ from rfl, eqvAll_ints]
  exact h
theorem q_ti {st : Sto} {ns ms : List Int} {k : Bool → Prop} (h : k (decide (ns = ms))) : eqP (.tup (ns.map D.int)) (.tup (ms.map D.int)) st k := by
  refine eq_any (.tup (Py.ints ns)) (.tup (Py.ints ms)) (shaped_ti ns) (shaped_ti ms) ?_
  rw [show PyData.eqv (.tuple _) (.tuple _) = PyData.eqvAll _ _ from rfl, eqvAll_ints]
  exact h
theorem rounds_ok {P : List FnD} {n f fd : Nat} (hf : P[f]? = some (fnRounds fd)) (hd : P[fd]? = some fnDice) (hn : 2 ≤ n) (ns : List Int) (m : Int) {R : D → Sto → Prop} {E : Exc → Sto → Prop}
    (h : ∀ (ps : List Addr) (st2 : Sto), (∀ p ∈ ps, Dice st2 p) → R (.fl (ps.map D.ref)) st2) : wpFn P n f [.scr (ns.map D.int), .int m] (fun _ => none) R E := by
  obtain ⟨n, rfl⟩ : ∃ m, n = m + 1 := ⟨n - 1, by omega⟩
  refine ⟨fnRounds fd, hf, rfl, ?_⟩
  simp only [fnRounds]
  obtain ⟨ms, hms⟩ : ∃ ms : List Int, cutD (ns.map D.int) none (some m) = ms.map D.int := ⟨_, by
    unfold cutD
    rw [← List.map_drop, ← List.map_take]⟩
  have key : ∀ (ms : List Int) (s : DSt), lcL (fun s st k => k true st) (fun s st k => getP s 3 fun d => wpFn P n fd [d] st k fun x st2 => XF x s st2) (.nm 3) ⟨ms.map D.int, none⟩ [s.getD 0 none, s.getD 1 none, s.getD 2 none, none] (ms.map D.int) [] (fun _ => none) fun acc st2 => Fg R (.fl acc) st2 := by
    intro ms s
    refine lcL_by (src := ⟨ms.map D.int, none⟩) (fun pre acc st => ∃ ps : List Addr, acc = ps.map D.ref ∧ ∀ p ∈ ps, Dice st p) ⟨[], rfl, fun p hp => by cases hp⟩ ?_ ?_
    · rintro pre d post acc st Kn e ⟨ps, rfl, hps⟩ q
      obtain ⟨x, _, rfl⟩ : ∃ x ∈ ms, D.int x = d := by
        have : d ∈ ms.map D.int := by
          have e : ms.map D.int = pre ++ d :: post := e
          rw [e]
          simp
        exact List.mem_map.mp this
      refine ⟨trivial, ?_⟩
      walk_at "fy"
      refine dice_ok hd (by omega) x fun a x y z ha => q _ _ ⟨ps ++ [a], by simp, fun p hp => ?_⟩
      by_cases e : p = a
      · subst e
        exact ⟨x, y, z, put_same⟩
      · obtain ⟨x2, y2, z2, h2⟩ := hps p (by simpa [e] using hp)
        exact ⟨x2, y2, z2, by rw [put_ne e]; exact h2⟩
    · rintro acc st ⟨ps, rfl, hps⟩
      exact ⟨trivial, fg0 (h ps st hps)⟩
  walk_at "fy"
  rw [hms]
  refine q_fi (ms := []) ?_
  split
  · exact key [0] [some (.scr (ns.map D.int)), some (.int m), some (.fl [.int 0])]
  · exact key ms [some (.scr (ns.map D.int)), some (.int m), some (.fl (ms.map D.int))]
end Fy

/-! more single steps; generator expressions by their elements -/
namespace Fy
open PySem PySem.Spec PyProof.Rows L2
section
variable {C : Cl} {ES : XS} {s : DSt} {st : Sto} {R : D → Sto → Prop} {a b c : IE}
theorem e_gen {m : GM} {own : List Nat} {t : Tg} {it : II} {ts : IEs} {el : IE} : wpE C ES (.gen m own t it ts el) s st R = wpI C ES it s st fun src st1 =>
    genL m (fun s st k => wpTs C (fun _ _ _ => False) ts s st k) (fun s st k => wpE C (fun _ _ _ => False) el s st k) t src (dwipe s own) src.items 0 st1 R := by simp only [wpE]
theorem e_mt {m : Mt} {o : IE} {es : IEs} : wpE C ES (.mt m o es) s st R = wpE C ES o s st fun x st1 => isL x st1 ∧ wpEs C ES es s st1 fun ys st2 => mtP m x ys st2 R := by simp only [wpE]
theorem e_lrg1 {z : Bool} : wpE C ES (.lrg1 z a) s st R = wpE C ES a s st fun d st1 => rngP (.int 0) d st1 fun src st2 => newL z src.items st2 R := by simp only [wpE]
theorem e_lrg2 {z : Bool} : wpE C ES (.lrg2 z a b) s st R = wpE C ES a s st fun x st1 => wpE C ES b s st1 fun y st2 => rngP x y st2 fun src st3 => newL z src.items st3 R := by simp only [wpE]
theorem e_rev {z : Bool} : wpE C ES (.rev z a) s st R = wpE C ES a s st fun x st1 => lstP x st1 fun ds => newL z ds.reverse st1 R := by simp only [wpE]
theorem e_rp : wpE C ES (.rp a b) s st R = wpE C ES a s st fun x st1 => wpE C ES b s st1 fun y st2 => repP x y st2 R := by simp only [wpE]
theorem b_rp {a : List D} {k : Int} : repP (.fl a) (.int k) st R = ((k ≤ 1000000 ∧ -1000000 ≤ k ∧ a.length * k.toNat ≤ sizeLine) ∧ newL false (List.replicate k.toNat a).flatten st R) := rfl
theorem e_thk {t : Nat} {m : TM} {hs : List HC} : wpE C ES (.thk t m hs a) s st R = wpE C (fun y _ st1 => thH hs y st1 R) a s st fun d st1 => thV m d st1 R := by simp only [wpE]
theorem e_srk {z : Bool} {i : Nat} {it : II} {el : IE} : wpE C ES (.srk z i it el) s st R = wpC C ES it s st fun ds st1 => keyL (fun s st k => wpE C XF el s st k) i s ds [] st1 fun ks st2 => srkP z ks ds st2 R := by simp only [wpE]
theorem e_idx {tp : Bool} {a b : IE} : wpE C ES (.idx tp a b) s st R = wpE C ES a s st fun x st1 => isS tp x st1 ∧ wpE C ES b s st1 fun y st2 => idxP tp x y st2 R := by simp only [wpE]
theorem e_trv {a : IE} : wpE C ES (.trv a) s st R = wpE C ES a s st fun x st1 => lstP x st1 fun ds => R (.tup ds.reverse) st1 := by simp only [wpE]
theorem e_trg {a b : IE} : wpE C ES (.trg a b) s st R = wpE C ES a s st fun x st1 => wpE C ES b s st1 fun y st2 => rngP x y st2 fun src st3 => R (.tup src.items) st3 := by simp only [wpE]
theorem rv_t {ds : List D} {Q : Src → Sto → Prop} : rvdP (.tup ds) st Q = Q ⟨ds.reverse, none⟩ st := rfl
theorem rv_f {ds : List D} {Q : Src → Sto → Prop} : rvdP (.fl ds) st Q = Q ⟨ds.reverse, none⟩ st := rfl
theorem rv_r {p : Addr} {Q : Src → Sto → Prop} : rvdP (.ref p) st Q = ∃ ds, st p = some (.lst ds) ∧ Q ⟨ds.reverse, some (p, ds)⟩ st := rfl
theorem rd_t {i j c : Int} {Q : Src → Sto → Prop} : rngdP (.int i) (.int j) (.int c) st Q = (c = -1 ∧ (-1000000 ≤ i ∧ i ≤ 1000000 ∧ -1000000 ≤ j ∧ j ≤ 1000000) ∧ Q ⟨downD i (i - j).toNat, none⟩ st) := rfl
theorem is_f {ds : List D} : isS false (.fl ds) st = True := rfl
theorem is_t {ds : List D} : isS true (.tix ds) st = True := rfl
theorem xp_t {ds : List D} {y : D} : idxP true (.tix ds) y st R = idxT ds y st fun j => R (.int (j : Nat)) st := rfl
theorem e_tpx : wpE C ES (.tpx a) s st R = wpE C ES a s st fun x st1 => lstP x st1 fun ds => R (.tix ds) st1 := by simp only [wpE]
theorem e_join : wpE C ES (.join a b) s st R = wpE C ES a s st fun x st1 => (match x with | .str _ => True | _ => False) ∧ wpE C ES b s st1 fun y st2 => joinP x y st2 R := by simp only [wpE] <;> rfl
theorem jn_f {a : Str} {ds : List D} : joinP (.str a) (.fl ds) st R = ∃ ys : List Str, ds = ys.map D.str ∧ (ys.map (·.length)).sum + ys.length * a.length ≤ 16777216 ∧ R (.str (Txt.join a ys)) st := rfl
theorem e_dkp {z : Bool} : wpE C ES (.dkp z a) s st R = wpE C ES a s st fun d st1 => dctA d st1 fun t kvs => ∃ ps : List (Int × Int), t = true ∧ kvs.map (·.1) = ps.map (fun p => [.inl p.1, .inl p.2]) ∧ ∀ qs : List (Int × Int), qs.Perm ps → qs.Pairwise (fun a b => SrtO.lexB b a = false) → newL z (qs.map prD) st1 R := by simp only [wpE]
theorem e_tdc : wpE C ES (.tdc a) s st R = wpE C ES a s st fun x st1 => dctA x st1 fun t kvs => t = false ∧ R (.tup (keysD t kvs)) st1 := by simp only [wpE]
theorem it_x {ds : List D} {Q : Src → Sto → Prop} : iterP (.tix ds) st Q = Q ⟨ds, none⟩ st := rfl
theorem rv_x {ds : List D} {Q : Src → Sto → Prop} : rvdP (.tix ds) st Q = Q ⟨ds.reverse, none⟩ st := rfl
theorem ln_x {ds : List D} : lenP (.tix ds) st R = R (.int ds.length) st := rfl
theorem ix_x {ds : List D} {i : Int} : ixP (.tix ds) (.int i) st R = ∃ d, atI ds i = some d ∧ R d st := rfl
theorem ix_s {z : Str} {i : Int} : ixP (.str z) (.int i) st R = (z.length ≤ sizeLine ∧ ∃ c, atI z.cps.toList i = some c ∧ R (.str ⟨#[c]⟩) st) := rfl
theorem y_x {i : List D} {k : String → Prop} : tyP (.tix i) st k = k "tuple" := rfl
theorem m_x {ds : List D} {k : List D → Prop} : itemsP (.tix ds) st k = k ds := rfl
theorem mt_t {ds : List D} {k : List D → Prop} : itemsT (.tup ds) st k = k ds := rfl
theorem mt_f {ds : List D} {k : List D → Prop} : itemsT (.fl ds) st k = k ds := rfl
theorem mt_r {p : Addr} {k : List D → Prop} : itemsT (.ref p) st k = ∃ ds, st p = some (.lst ds) ∧ k ds := rfl
theorem i_srd {z : Bool} {x : D} : biP (.srd z) [x] st R = itemsP x st fun ds => srdP z ds st R := by cases x <;> rfl
theorem i_best {mx : Bool} {x : D} : biP (.best mx) [x] st R = lstP x st fun ds => bestP mx ds st R := by cases x <;> rfl
theorem xp_f {ds : List D} {y : D} : idxP false (.fl ds) y st R = idxL ds y st fun j => R (.int (j : Nat)) st := rfl
theorem xp_r {p : Addr} {y : D} : idxP false (.ref p) y st R = ∃ ds, st p = some (.lst ds) ∧ idxL ds y st fun j => R (.int (j : Nat)) st := rfl
theorem mt_remI {a : Addr} {k : Int} {ns : List Int} (e : st a = some (.lst (ns.map D.int))) (hk : k ∈ ns) (h : R .non (put st a (.lst ((ns.erase k).map D.int)))) : mtP .remove (.ref a) [.int k] st R := ⟨ns, e, hk, h⟩
theorem mt_remS {a : Addr} {k : Str} {ns : List Str} (e : st a = some (.lst (ns.map D.str))) (hk : k ∈ ns) (h : R .non (put st a (.lst ((ns.erase k).map D.str)))) : mtP .remove (.ref a) [.str k] st R := ⟨ns, e, hk, h⟩
theorem mt_pop0 {a : Addr} {y : D} {ds : List D} (e : st a = some (.lst (ds ++ [y]))) (h : R y (put st a (.lst ds))) : mtP .pop (.ref a) [] st R := ⟨ds, y, e, h⟩
theorem e_mnk {z : Bool} {i : Nat} {e el : IE} : wpE C ES (.mnk z i e el) s st R = wpE C ES e s st fun x st1 => lsrP x st1 fun src => mnk0 z src (fun s st k => wpE C XF el s st k) i s src.items st1 R := by simp only [wpE]
theorem e_dnew {t : Bool} : wpE C ES (.dnew t) s st R = ∀ a, st a = none → R (.ref a) (put st a (.dct t [])) := by simp only [wpE]
theorem e_dg : wpE C ES (.dg a b) s st R = wpE C ES a s st fun x st1 => wpE C ES b s st1 fun y st2 => dctR x y st2 fun kvs q => ∃ v, valD kvs q = some v ∧ R v st2 := by simp only [wpE]
theorem e_din {n : Bool} : wpE C ES (.din n a b) s st R = wpE C ES a s st fun y st1 => wpE C ES b s st1 fun x st2 => dctR x y st2 fun kvs q => R (.bl ((valD kvs q).isSome != n)) st2 := by simp only [wpE]
theorem e_dgt : wpE C ES (.dgt a b c) s st R = wpE C ES a s st fun w st1 => isDc w st1 ∧ wpE C ES b s st1 fun y st2 => wpE C ES c s st2 fun u st3 => dctR w y st3 fun kvs q => R ((valD kvs q).getD u) st3 := by simp only [wpE]
theorem dc_r {p : Addr} {y : D} {Q : Addr → Bool → List (List Key × D) → List Key → Prop} : dctP (.ref p) y st Q = ∃ t kvs k, st p = some (.dct t kvs) ∧ keyOf t y = some k ∧ Q p t kvs k := rfl
theorem dr_r {p : Addr} {y : D} {Q : List (List Key × D) → List Key → Prop} : dctR (.ref p) y st Q = ∃ t kvs k, st p = some (.dct t kvs) ∧ keyOf t y = some k ∧ Q kvs k := rfl
theorem dr_f {t : Bool} {kvs : List (List Key × D)} {y : D} {Q : List (List Key × D) → List Key → Prop} : dctR (.fd t kvs) y st Q = ∃ k, keyOf t y = some k ∧ Q kvs k := rfl
theorem da_r {p : Addr} {Q : Bool → List (List Key × D) → Prop} : dctA (.ref p) st Q = ∃ t kvs, st p = some (.dct t kvs) ∧ Q t kvs := rfl
theorem da_f {t : Bool} {kvs : List (List Key × D)} {Q : Bool → List (List Key × D) → Prop} : dctA (.fd t kvs) st Q = Q t kvs := rfl
theorem isd_f {t : Bool} {kvs : List (List Key × D)} : isDc (.fd t kvs) st = True := rfl
theorem e_dis {t : Bool} {es : IEs} : wpE C ES (.dis t es) s st R = ∀ a, st a = none → wpEs C ES es s (put st a (.dct t [])) fun xs st2 => st2 a = some (.dct t []) ∧ xs.length ≤ 30 ∧ ∃ kvs, pairsD t xs = some kvs ∧ R (.ref a) (put st2 a (.dct t (mergeD [] kvs))) := by simp only [wpE]
theorem e_fzd : wpE C ES (.fzd a) s st R = wpE C ES a s st fun d st1 => fzdP d st1 R := by simp only [wpE]
theorem fz_r {p : Addr} : fzdP (.ref p) st R = ∃ t kvs, st p = some (.dct t kvs) ∧ R (.fd t kvs) (del st p) := rfl
theorem e_dln : wpE C ES (.dln a) s st R = wpE C ES a s st fun d st1 => dctA d st1 fun _ kvs => R (.int kvs.length) st1 := by simp only [wpE]
theorem e_deq {n : Bool} : wpE C ES (.deq n a b) s st R = wpE C ES a s st fun x st1 => wpE C ES b s st1 fun y st2 => dctA x st2 fun t ks => dctA y st2 fun u ls => t = u ∧ ks.length = ls.length ∧ (∀ p ∈ ks, valD ls p.1 = some p.2 ∧ flatD p.2 = true) ∧ R (.bl (!n)) st2 := by simp only [wpE]
theorem e_dcp : wpE C ES (.dcp a) s st R = wpE C ES a s st fun d st1 => dctA d st1 fun t kvs => t = false ∧ ∀ a, st1 a = none → R (.ref a) (put st1 a (.dct t kvs)) := by simp only [wpE]
theorem e_dpo : wpE C ES (.dpo a b) s st R = wpE C ES a s st fun x st1 => isDc x st1 ∧ wpE C ES b s st1 fun y st2 => dpoP x y st2 R := by simp only [wpE]
theorem e_dks {z : Bool} : wpE C ES (.dks z a) s st R = wpE C ES a s st fun d st1 => dctA d st1 fun t kvs => ∃ xs : List Str, t = false ∧ kvs.map (·.1) = xs.map (fun x => [.inr x]) ∧ xs.length < 64 ∧ ∀ ys : List Str, ys.Perm xs → sortedS ys = true → newL z (ys.map D.str) st1 R := by simp only [wpE]
theorem it_d {t : Bool} {kvs : List (List Key × D)} {Q : Src → Sto → Prop} : iterP (.fd t kvs) st Q = Q ⟨keysD t kvs, none⟩ st := rfl
theorem ln_d {t : Bool} {kvs : List (List Key × D)} : lenP (.fd t kvs) st R = R (.int kvs.length) st := rfl
theorem y_fd {t : Bool} {kvs : List (List Key × D)} {k : String → Prop} : tyP (.fd t kvs) st k = k "dict" := rfl
theorem ko_s {x : Str} : keyOf false (.str x) = some [.inr x] := rfl
theorem ko_i {x : Int} : keyOf false (.int x) = some [.inl x] := rfl
theorem ko_ss {x y : Str} : keyOf true (.tup [.str x, .str y]) = some [.inr x, .inr y] := rfl
theorem ex_key {k0 : List Key} {Q : List Key → Prop} : (∃ k, (some k0 = some k) ∧ Q k) = Q k0 := by simp
theorem ex_dct {t0 : Bool} {kv0 : List (List Key × D)} {Q : Bool → List (List Key × D) → Prop} : (∃ t kvs, (some (MO.dct t0 kv0) = some (MO.dct t kvs)) ∧ Q t kvs) = Q t0 kv0 := by
  apply propext
  constructor
  · rintro ⟨t, kvs, e, h⟩
    cases e
    exact h
  · intro h
    exact ⟨_, _, rfl, h⟩
theorem ex_dct3 {t0 : Bool} {kv0 : List (List Key × D)} {F : Bool → Option (List Key)} {Q : List (List Key × D) → List Key → Prop} : (∃ t kvs k, (some (MO.dct t0 kv0) = some (MO.dct t kvs)) ∧ F t = some k ∧ Q kvs k) = ∃ k, F t0 = some k ∧ Q kv0 k := by
  apply propext
  constructor
  · rintro ⟨t, kvs, k, e, h1, h2⟩
    cases e
    exact ⟨k, h1, h2⟩
  · rintro ⟨k, h1, h2⟩
    exact ⟨_, _, k, rfl, h1, h2⟩
theorem dc_w {p : Addr} {y : D} {Q : Addr → Bool → List (List Key × D) → List Key → Prop} {t : Bool} {kvs : List (List Key × D)} {k : List Key} (e : st p = some (.dct t kvs)) (ek : keyOf t y = some k) (h : Q p t kvs k) : dctP (.ref p) y st Q := ⟨t, kvs, k, e, ek, h⟩
theorem h_ret {d : D} : thV .ret d st R = R d st := rfl
theorem h_drop {d : D} {fb : Str} : thV (.drop (.str fb)) d st R = R (.str fb) st := rfl
theorem h_dropB {d : D} {b : Bool} : thV (.drop (.bl b)) d st R = R (.bl b) st := rfl
theorem h_dropN {d : D} : thV (.drop .non) d st R = R .non st := rfl
theorem h_tell {d : D} {t : Str} : thV (.tell t) d st R = R (.tup [.str t, d]) st := rfl
theorem h_cons {c : Nat} {cs : List Nat} {i : Option Nat} {r : Str} {l : List HC} {x : Exc} : thH (⟨c, cs, i, .cst (.str r)⟩ :: l) x st R = if cs.contains x.cls = true then R (.str r) st else thH l x st R := rfl
theorem h_consB {c : Nat} {cs : List Nat} {i : Option Nat} {b : Bool} {l : List HC} {x : Exc} : thH (⟨c, cs, i, .cst (.bl b)⟩ :: l) x st R = if cs.contains x.cls = true then R (.bl b) st else thH l x st R := rfl
theorem h_consN {c : Nat} {cs : List Nat} {i : Option Nat} {l : List HC} {x : Exc} : thH (⟨c, cs, i, .cst .non⟩ :: l) x st R = if cs.contains x.cls = true then R .non st else thH l x st R := rfl
theorem h_consX {c g : Nat} {cs : List Nat} {i : Option Nat} {r : Str} {l : List HC} {x : Exc} : thH (⟨c, cs, i, .isx g (.str r)⟩ :: l) x st R = if cs.contains x.cls = true then x.arg = none ∧ R (.str r) st else thH l x st R := rfl
theorem e_con {k : KC} : wpE C ES (.con k) s st R = R k.d st := by simp only [wpE]
theorem e_cty {n : String} : wpE C ES (.cty n) s st R = R (.ty n) st := by simp only [wpE]
theorem kd_int {i : Int} : KC.d (.int i) = .int i := rfl
theorem kd_str {i : Str} : KC.d (.str i) = .str i := rfl
theorem e_lc2 {own vs1 : List Nat} {t : Tg} {it : II} {ts : IEs} {t1 : Tg} {it1 : II} {ts1 : IEs} {el : IE} : wpE C ES (.lc2 own vs1 t it ts t1 it1 ts1 el) s st R = wpI C ES it s st fun src st1 =>
      lc2L (fun s st k => wpTs C XF ts s st k) (fun s st k => wpI C XF it1 s st k) (fun s st k => wpTs C XF ts1 s st k) (fun s st k => wpE C XF el s st k) t t1 vs1 src (dwipe s own) src.items [] st1 fun acc st2 => R (.fl acc) st2 := by simp only [wpE]
/-- x.append(y) -/
theorem mt_app {a : Addr} {y : D} {ds : List D} (e : st a = some (.lst ds)) (hz : ds.length < sizeLine) (h : R .non (put st a (.lst (ds ++ [y])))) : mtP .append (.ref a) [y] st R := ⟨ds, e, hz, h⟩
theorem isL_r {a : Addr} {ds : List D} (e : st a = some (.lst ds)) : isL (.ref a) st := ⟨ds, e⟩
theorem i_isi {x : D} {T : String} : biP .isi [x, .ty T] st R = (knownT T = true ∧ tyP x st fun t => R (.bl (subT t T)) st) := by cases x <;> rfl
theorem i_tuple {x : D} : biP .tuple [x] st R = itemsT x st fun ds => R (.tup ds) st := by cases x <;> rfl
theorem i_list {z : Bool} {x : D} : biP (.list z) [x] st R = itemsP x st fun ds => newL z ds st R := by cases x <;> rfl
theorem i_sorted {z : Bool} {x : D} : biP (.sorted z) [x] st R = itemsP x st fun ds => srtP z ds st R := by cases x <;> rfl
theorem y_non {k : String → Prop} : tyP .non st k = k "NoneType" := rfl
theorem y_bl {b : Bool} {k : String → Prop} : tyP (.bl b) st k = k "bool" := rfl
theorem y_int {i : Int} {k : String → Prop} : tyP (.int i) st k = k "int" := rfl
theorem y_str {i : Str} {k : String → Prop} : tyP (.str i) st k = k "str" := rfl
theorem y_tup {i : List D} {k : String → Prop} : tyP (.tup i) st k = k "tuple" := rfl
theorem y_fl {i : List D} {k : String → Prop} : tyP (.fl i) st k = k "list" := rfl
theorem m_t {ds : List D} {k : List D → Prop} : itemsP (.tup ds) st k = k ds := rfl
theorem m_f {ds : List D} {k : List D → Prop} : itemsP (.fl ds) st k = k ds := rfl
theorem m_r {p : Addr} {k : List D → Prop} : itemsP (.ref p) st k = ∃ ds, st p = some (.lst ds) ∧ k ds := rfl
theorem w_f {ds : List D} {k : List D → Prop} : lstP (.fl ds) st k = k ds := rfl
theorem w_r {p : Addr} {k : List D → Prop} : lstP (.ref p) st k = ∃ ds, st p = some (.lst ds) ∧ k ds := rfl
theorem c_in {x y : D} : cmpP .isin x y st R = inP x y st fun b => R (.bl b) st := by cases x <;> cases y <;> rfl
theorem c_notin {x y : D} : cmpP .notin x y st R = inP x y st fun b => R (.bl (!b)) st := by cases x <;> cases y <;> rfl
theorem ln_s {z : Str} : lenP (.str z) st R = (z.length ≤ sizeLine ∧ R (.int z.length) st) := rfl
theorem it_s {z : Str} {Q : Src → Sto → Prop} : iterP (.str z) st Q = (z.cps.size ≤ sizeLine ∧ Q ⟨z.cps.toList.map fun c => .str ⟨#[c]⟩, none⟩ st) := rfl
theorem sl_t {z : Bool} {ds : List D} {lo hi : Option Int} : slP z (.tup ds) lo hi st R = R (.tup (cutD ds lo hi)) st := rfl
theorem en_t {ds : List D} {Q : Src → Sto → Prop} : enmP (.tup ds) st Q = Q ⟨enumD ds, none⟩ st := rfl
theorem en_f {ds : List D} {Q : Src → Sto → Prop} : enmP (.fl ds) st Q = Q ⟨enumD ds, none⟩ st := rfl
theorem zp_t {as bs : List D} {Q : Src → Sto → Prop} : zipP (.tup as) (.tup bs) st Q = Q ⟨zipD as bs, none⟩ st := rfl
theorem zp_f {as bs : List D} {Q : Src → Sto → Prop} : zipP (.fl as) (.fl bs) st Q = Q ⟨zipD as bs, none⟩ st := rfl
theorem i_max1 {ds : List D} : biP .max [.fl ds] st R = ∃ ns : List Int, ds = ns.map D.int ∧ 0 < ns.length ∧ ∀ m, m ∈ ns → (∀ y ∈ ns, y ≤ m) → R (.int m) st := rfl
theorem i_min1 {ds : List D} : biP .min [.fl ds] st R = ∃ ns : List Int, ds = ns.map D.int ∧ 0 < ns.length ∧ ∀ m, m ∈ ns → (∀ y ∈ ns, m ≤ y) → R (.int m) st := rfl
theorem i_sum1 {ds : List D} : biP .sum [.fl ds] st R = ∃ ns : List Int, ds = ns.map D.int ∧ R (.int ns.sum) st := rfl
theorem b_rep {a : List D} {k : Int} : binP .mul (.fl a) (.int k) st R = ((k ≤ 1000000 ∧ -1000000 ≤ k ∧ a.length * k.toNat ≤ sizeLine) ∧ R (.fl (List.replicate k.toNat a).flatten) st) := rfl
theorem b_repT {a : List D} {k : Int} : binP .mul (.tup a) (.int k) st R = ((a ≠ [] ∧ -1000 ≤ k ∧ k ≤ 1000 ∧ a.length ≤ 1000) ∧ R (.tup (List.replicate k.toNat a).flatten) st) := rfl
theorem b_repS {a : Str} {k : Int} : binP .mul (.str a) (.int k) st R = ((2 ≤ k ∧ k ≤ 1000 ∧ 1 ≤ a.length ∧ a.length ≤ 1000) ∧ R (.str (strRep a k)) st) := rfl
theorem sl_x {z : Bool} {x : Str} {lo hi : Option Int} : slP z (.str x) lo hi st R = (x.length ≤ sizeLine ∧ R (.str (cutS x lo hi)) st) := rfl
theorem c_isb {x y : Bool} : cmpP .is (.bl x) (.bl y) st R = R (.bl (decide (x = y))) st := rfl
theorem c_isnotb {x y : Bool} : cmpP .isnot (.bl x) (.bl y) st R = R (.bl (!decide (x = y))) st := rfl
theorem c_isnotIB {i : Int} {y : Bool} : cmpP .isnot (.int i) (.bl y) st R = R (.bl true) st := rfl
theorem kn_1 : (knownT "int" = true) = True := by decide
theorem kn_2 : (knownT "bool" = true) = True := by decide
theorem kn_3 : (knownT "str" = true) = True := by decide
theorem kn_4 : (knownT "tuple" = true) = True := by decide
theorem kn_5 : (knownT "dict" = true) = True := by decide
theorem kn_6 : (knownT "list" = true) = True := by decide
theorem sb_1 : subT "int" "int" = true := by decide
theorem sb_2 : subT "bool" "int" = true := by decide
theorem sb_3 : subT "bool" "bool" = true := by decide
theorem sb_4 : subT "int" "bool" = false := by decide
theorem sb_5 : subT "str" "str" = true := by decide
theorem sb_6 : subT "tuple" "tuple" = true := by decide
theorem sb_7 : subT "list" "tuple" = false := by decide
theorem sb_8 : subT "NoneType" "int" = false := by decide
theorem sb_9 : subT "NoneType" "tuple" = false := by decide
theorem sb_10 : subT "str" "int" = false := by decide
theorem sb_11 : subT "list" "int" = false := by decide
theorem sb_12 : subT "tuple" "int" = false := by decide
theorem sb_13 : subT "int" "tuple" = false := by decide
theorem sb_14 : subT "NoneType" "str" = false := by decide
theorem sb_15 : subT "int" "str" = false := by decide
theorem sb_16 : subT "bool" "tuple" = false := by decide
end
/-! generator expressions whose turns change nothing -/
section
variable {tt : DSt → Sto → (Bool → Sto → Prop) → Prop} {el : DSt → Sto → (D → Sto → Prop) → Prop} {t : Tg} {src : Src} {s : DSt} {st : Sto} {k : D → Sto → Prop}
theorem gen_all (P : D → Bool) (ho : src.ok st) : ∀ (ds : List D) (a : Int), (∀ d ∈ ds, ∀ (Y : D → Sto → Prop) (N : Sto → Prop), Y (.bl (P d)) st → asgP t d s fun s2 => tt s2 st fun b st1 => if b = true then el s2 st1 Y else N st1) → k (.bl (ds.all P)) st → genL .all tt el t src s ds a st k
  | [], a, h, hk => ⟨ho, hk⟩
  | d :: r, a, h, hk => by
    refine ⟨ho, h d List.mem_cons_self _ _ ?_⟩
    rw [List.all_cons] at hk
    cases e : P d with
    | true =>
      rw [e, Bool.true_and] at hk
      exact gen_all P ho r 0 (fun d hd => h d (List.mem_cons_of_mem _ hd)) hk
    | false =>
      rw [e, Bool.false_and] at hk
      exact hk
theorem gen_any (P : D → Bool) (ho : src.ok st) : ∀ (ds : List D) (a : Int), (∀ d ∈ ds, ∀ (Y : D → Sto → Prop) (N : Sto → Prop), Y (.bl (P d)) st → asgP t d s fun s2 => tt s2 st fun b st1 => if b = true then el s2 st1 Y else N st1) → k (.bl (ds.any P)) st → genL .any tt el t src s ds a st k
  | [], a, h, hk => ⟨ho, hk⟩
  | d :: r, a, h, hk => by
    refine ⟨ho, h d List.mem_cons_self _ _ ?_⟩
    rw [List.any_cons] at hk
    cases e : P d with
    | false =>
      rw [e, Bool.false_or] at hk
      exact gen_any P ho r 0 (fun d hd => h d (List.mem_cons_of_mem _ hd)) hk
    | true =>
      rw [e, Bool.true_or] at hk
      exact hk
/-- a sum of small parts -/
theorem gen_sum (f : D → Int) (B : Int) (hB : 0 ≤ B) (hf : ∀ d, -B ≤ f d ∧ f d ≤ B) (ho : src.ok st) : ∀ (ds : List D) (a : Int), (-4611686018427387904 ≤ a - B * ds.length ∧ a + B * ds.length ≤ 4611686018427387904) → (∀ d ∈ ds, ∀ (Y : D → Sto → Prop) (N : Sto → Prop), Y (.int (f d)) st → asgP t d s fun s2 => tt s2 st fun b st1 => if b = true then el s2 st1 Y else N st1) → k (.int (a + (ds.map f).sum)) st → genL .sum tt el t src s ds a st k
  | [], a, _, h, hk => ⟨ho, by simpa [genE] using hk⟩
  | d :: r, a, hb, h, hk => by
    refine ⟨ho, h d List.mem_cons_self _ _ ?_⟩
    rw [List.map_cons, List.sum_cons, ← Int.add_assoc] at hk
    have h1 := hf d
    rw [List.length_cons] at hb
    have e : B * ((r.length + 1 : Nat) : Int) = B * (r.length : Int) + B := by rw [Int.natCast_add, Int.mul_add]; simp
    rw [e] at hb
    have h2 : 0 ≤ B * (r.length : Int) := Int.mul_nonneg hB (by omega)
    refine ⟨⟨⟨by omega, by omega⟩, by omega, by omega⟩, ?_⟩
    exact gen_sum f B hB hf ho r (a + f d) (by omega) (fun d hd => h d (List.mem_cons_of_mem _ hd)) hk
end
/-! two clauses whose turns change nothing -/
theorem lcB_pure {tt : DSt → Sto → (Bool → Sto → Prop) → Prop} {el : DSt → Sto → (D → Sto → Prop) → Prop} {t : Tg} {src : Src} {s : DSt} {k : List D → Sto → Prop} {st : Sto} (f : D → Bool) (g : D → D) (ho : src.ok st) :
    ∀ (ds acc : List D), acc.length + ds.length ≤ sizeLine → (∀ d ∈ ds, ∀ (Y : D → Sto → Prop) (N : Sto → Prop), (if f d = true then Y (g d) st else N st) → asgP t d s fun s2 => tt s2 st fun b st1 => if b = true then el s2 st1 Y else N st1) →
    k (acc ++ (ds.filter f).map g) st → lcB tt el t src s ds acc st k
  | [], acc, _, h, hk => ⟨ho, by simpa using hk⟩
  | d :: r, acc, hz, h, hk => by
    rw [List.length_cons] at hz
    refine ⟨ho, h d List.mem_cons_self _ _ ?_⟩
    cases e : f d with
    | true =>
      rw [if_pos rfl]
      refine ⟨by omega, lcB_pure f g ho r (acc ++ [g d]) (by rw [List.length_append, List.length_singleton]; omega) (fun d hd => h d (List.mem_cons_of_mem _ hd)) ?_⟩
      rw [List.filter_cons_of_pos e, List.map_cons] at hk
      simpa using hk
    | false =>
      rw [if_neg Bool.false_ne_true]
      rw [List.filter_cons_of_neg (by rw [e]; exact Bool.false_ne_true)] at hk
      exact lcB_pure f g ho r acc (by omega) (fun d hd => h d (List.mem_cons_of_mem _ hd)) hk
theorem lc2L_pure {tt : DSt → Sto → (Bool → Sto → Prop) → Prop} {it1 : DSt → Sto → (Src → Sto → Prop) → Prop} {tt1 : DSt → Sto → (Bool → Sto → Prop) → Prop} {el : DSt → Sto → (D → Sto → Prop) → Prop} {t t1 : Tg} {vs1 : List Nat} {src : Src} {s : DSt} {k : List D → Sto → Prop} {st : Sto} (F : D → List D) (ho : src.ok st) :
    ∀ (ds acc : List D), acc.length + (ds.flatMap F).length ≤ sizeLine → (∀ d ∈ ds, ∀ (acc : List D) (Kn : List D → Sto → Prop), acc.length + (F d).length ≤ sizeLine → Kn (acc ++ F d) st → asgP t d s fun s2 => tt s2 st fun b st1 => if b = true then it1 s2 st1 fun src1 st2 => lcB tt1 el t1 src1 (dwipe s2 vs1) src1.items acc st2 Kn else Kn acc st1) →
    k (acc ++ ds.flatMap F) st → lc2L tt it1 tt1 el t t1 vs1 src s ds acc st k
  | [], acc, _, h, hk => ⟨ho, by simpa using hk⟩
  | d :: r, acc, hz, h, hk => by
    rw [List.flatMap_cons, List.length_append] at hz
    rw [List.flatMap_cons, ← List.append_assoc] at hk
    exact ⟨ho, h d List.mem_cons_self acc (fun acc2 st3 => lc2L tt it1 tt1 el t t1 vs1 src s r acc2 st3 k) (by omega) (lc2L_pure F ho r (acc ++ F d) (by rw [List.length_append]; omega) (fun d hd => h d (List.mem_cons_of_mem _ hd)) hk)⟩
/-! ### equality of data without places -/
mutual
def D.py : D → PyData
  | .non => .none
  | .bl b => .bool b
  | .int i => .int i
  | .str x => .str x
  | .tup ds => .tuple (pys ds)
  | .fl ds => .list (pys ds)
  | .ref _ => .none
  | .ty _ => .none
  | .scr _ => .none
  | .fd _ _ => .none
  | .tix ds => .tuple (pys ds)
def pys : List D → List PyData
  | [] => []
  | d :: r => d.py :: pys r
end
mutual
/-- no places within, texts that may be compared, not deeper than n -/
def shD : D → Nat → Bool
  | .non, _ => true
  | .bl _, _ => true
  | .int _, _ => true
  | .str x, _ => PyData.canLay0 (.str x)
  | .tup ds, n => match n with
    | 0 => false
    | n + 1 => shDs ds n
  | .fl ds, n => match n with
    | 0 => false
    | n + 1 => shDs ds n
  | .ref _, _ => false
  | .ty _, _ => false
  | .scr _, _ => false
  | .fd _ _, _ => false
  | .tix _, _ => false
def shDs : List D → Nat → Bool
  | [], _ => true
  | d :: r, n => shD d n && shDs r n
end
mutual
theorem shD_ok {st : Sto} : ∀ (d : D) (n : Nat), shD d n = true → Py st d d.py ∧ PyData.canLay0 d.py = true ∧ PyData.depth d.py ≤ n
  | .non, n, _ => ⟨.non, by simp [D.py, PyData.canLay0], by simp [D.py, PyData.depth]⟩
  | .bl b, n, _ => ⟨.bl b, by simp [D.py, PyData.canLay0], by simp [D.py, PyData.depth]⟩
  | .int b, n, _ => ⟨.int b, by simp [D.py, PyData.canLay0], by simp [D.py, PyData.depth]⟩
  | .str b, n, h => ⟨.str b, by simpa only [shD, D.py] using h, by simp [D.py, PyData.depth]⟩
  | .tup ds, 0, h => by simp [shD] at h
  | .tup ds, n + 1, h => by
    obtain ⟨h1, h2, h3⟩ := shDs_ok (st := st) ds n (by simpa only [shD] using h)
    exact ⟨.tup h1, by simpa only [D.py, PyData.canLay0] using h2, by simp only [D.py, PyData.depth]; omega⟩
  | .fl ds, 0, h => by simp [shD] at h
  | .fl ds, n + 1, h => by
    obtain ⟨h1, h2, h3⟩ := shDs_ok (st := st) ds n (by simpa only [shD] using h)
    exact ⟨.fl h1, by simpa only [D.py, PyData.canLay0] using h2, by simp only [D.py, PyData.depth]; omega⟩
  | .ref _, n, h => by simp [shD] at h
  | .ty _, n, h => by simp [shD] at h
  | .scr _, n, h => by simp [shD] at h
  | .fd _ _, n, h => by simp [shD] at h
  | .tix _, n, h => by simp [shD] at h
theorem shDs_ok {st : Sto} : ∀ (ds : List D) (n : Nat), shDs ds n = true → Pys st ds (pys ds) ∧ PyData.canLayAll0 (pys ds) = true ∧ PyData.depthAll (pys ds) ≤ n
  | [], n, _ => ⟨.nil, by simp [pys, PyData.canLayAll0], by simp [pys, PyData.depthAll]⟩
  | d :: r, n, h => by
    simp only [shDs, Bool.and_eq_true] at h
    obtain ⟨h1, h2, h3⟩ := shD_ok (st := st) d n h.1
    obtain ⟨k1, k2, k3⟩ := shDs_ok (st := st) r n h.2
    exact ⟨.cons h1 k1, by simp only [pys, PyData.canLayAll0, h2, k2, Bool.and_self], by simp only [pys, PyData.depthAll]; omega⟩
end
theorem q_pure {st : Sto} {x y : D} {k : Bool → Prop} (hx : shD x 64 = true) (hy : shD y 64 = true) (h : k (PyData.eqv x.py y.py)) : eqP x y st k := by
  obtain ⟨h1, h2, h3⟩ := shD_ok (st := st) x 64 hx
  obtain ⟨k1, k2, k3⟩ := shD_ok (st := st) y 64 hy
  refine eq_any h1 k1 ?_ ?_ h
  · unfold SeqAt.shaped
    rw [h2, decide_eq_true h3]
    rfl
  · unfold SeqAt.shaped
    rw [k2, decide_eq_true k3]
    rfl
mutual
/-- no bools within -/
def noBl : D → Bool
  | .bl _ => false
  | .tup ds => noBls ds
  | .fl ds => noBls ds
  | .ref _ => false
  | .ty _ => false
  | .scr _ => false
  | .fd _ _ => false
  | .tix _ => false
  | _ => true
def noBls : List D → Bool
  | [] => true
  | d :: r => noBl d && noBls r
end
mutual
theorem eqv_iff : ∀ (x y : D), noBl x = true → noBl y = true → (PyData.eqv x.py y.py = true ↔ x = y)
  | .non, y, _, hy => by cases y <;> simp [noBl, D.py, PyData.eqv] at hy ⊢
  | .int i, y, _, hy => by cases y <;> simp [noBl, D.py, PyData.eqv] at hy ⊢
  | .str i, y, _, hy => by cases y <;> simp [noBl, D.py, PyData.eqv] at hy ⊢
  | .tup ds, y, hx, hy => by
    cases y <;> simp [noBl, D.py, PyData.eqv] at hx hy ⊢
    exact eqvAll_iff ds _ hx hy
  | .fl ds, y, hx, hy => by
    cases y <;> simp [noBl, D.py, PyData.eqv] at hx hy ⊢
    exact eqvAll_iff ds _ hx hy
  | .bl _, _, h, _ => by simp [noBl] at h
  | .ref _, _, h, _ => by simp [noBl] at h
  | .ty _, _, h, _ => by simp [noBl] at h
  | .scr _, _, h, _ => by simp [noBl] at h
  | .fd _ _, _, h, _ => by simp [noBl] at h
  | .tix _, _, h, _ => by simp [noBl] at h
theorem eqvAll_iff : ∀ (x y : List D), noBls x = true → noBls y = true → (PyData.eqvAll (pys x) (pys y) = true ↔ x = y)
  | [], [], _, _ => by simp [pys, PyData.eqvAll]
  | [], _ :: _, _, _ => by simp [pys, PyData.eqvAll]
  | _ :: _, [], _, _ => by simp [pys, PyData.eqvAll]
  | a :: r, b :: t, hx, hy => by
    simp only [noBls, Bool.and_eq_true] at hx hy
    simp only [pys, PyData.eqvAll, Bool.and_eq_true, eqv_iff a b hx.1 hy.1, eqvAll_iff r t hx.2 hy.2, List.cons.injEq]
end
/-- equality of data without places and bools -/
theorem q_same {st : Sto} {x y : D} {k : Bool → Prop} {p : Prop} [Decidable p] (hx : shD x 64 = true) (hy : shD y 64 = true) (bx : noBl x = true) (by_ : noBl y = true) (hp : x = y ↔ p) (h : k (decide p)) : eqP x y st k := by
  refine q_pure hx hy ?_
  have e : PyData.eqv x.py y.py = decide p := by
    rw [Bool.eq_iff_iff, eqv_iff x y bx by_, hp, decide_eq_true_eq]
  rw [e]
  exact h
theorem shDs_of {ds : List D} {n : Nat} (h : ∀ d ∈ ds, shD d n = true) : shDs ds n = true := by
  induction ds with
  | nil => simp [shDs]
  | cons d r ih => simp only [shDs, h d List.mem_cons_self, ih fun d hd => h d (List.mem_cons_of_mem _ hd), Bool.and_self]
theorem noBls_of {ds : List D} (h : ∀ d ∈ ds, noBl d = true) : noBls ds = true := by
  induction ds with
  | nil => simp [noBls]
  | cons d r ih => simp only [noBls, h d List.mem_cons_self, ih fun d hd => h d (List.mem_cons_of_mem _ hd), Bool.and_self]
end Fy

/-! loops, comprehensions, generator expressions over typed rows -/
namespace Fy
open PySem PySem.Spec PyProof.Rows L2
def rng (a b : Int) : List Int := (List.range (b - a).toNat).map fun (i : Nat) => a + (i : Int)
theorem mem_rng {a b k : Int} : k ∈ rng a b ↔ a ≤ k ∧ k < b := by
  unfold rng
  rw [List.mem_map]
  constructor
  · rintro ⟨i, hi, rfl⟩
    rw [List.mem_range] at hi
    omega
  · rintro ⟨h1, h2⟩
    exact ⟨(k - a).toNat, by rw [List.mem_range]; omega, by omega⟩
theorem rng_lt (a b : Int) : (rng a b).Pairwise (· < ·) := by
  unfold rng
  rw [List.pairwise_map]
  exact List.pairwise_lt_range.imp fun h => by omega
theorem rng_length (a b : Int) : (rng a b).length = (b - a).toNat := by simp [rng]
theorem range_rng (i j : Int) : rangeD i (j - i).toNat = (rng i j).map D.int := by
  unfold rangeD rng
  rw [List.map_map]
  rfl
theorem rg_t {i j : Int} {st : Sto} {Q : Src → Sto → Prop} : rngP (.int i) (.int j) st Q = ((-1000000 ≤ i ∧ i ≤ 1000000 ∧ -1000000 ≤ j ∧ j ≤ 1000000) ∧ Q ⟨(rng i j).map D.int, none⟩ st) := by
  rw [← range_rng]
  rfl
section
variable {α : Type} {K : DEnds} {t : Tg} {s : DSt} {st : Sto}
theorem forL_ti {body : DSt → Sto → DEnds → Prop} (e : α → D) (xs : List α) (P : List α → DSt → Sto → Prop)
    (hs : ∀ pre x post s st (Kn : DSt → Sto → Prop), xs = pre ++ x :: post → P pre s st → (∀ s st, P (pre ++ [x]) s st → Kn s st) → asgP t (e x) s fun s2 => body s2 st { K with nx := Kn, ct := Kn, bk := K.nx })
    (hd : ∀ s st, P xs s st → K.nx s st) (l : List D) : ∀ (post pre : List α) (s : DSt) (st : Sto), xs = pre ++ post → P pre s st → forL body t ⟨l, none⟩ (post.map e) s st K
  | [], pre, s, st, q, h => by
    rw [List.append_nil] at q
    subst q
    exact ⟨trivial, hd s st h⟩
  | x :: post, pre, s, st, q, h => by
    refine ⟨trivial, hs pre x post s st (fun s st => forL body t ⟨l, none⟩ (post.map e) s st K) q h fun s2 st2 h2 => ?_⟩
    exact forL_ti e xs P hs hd l post (pre ++ [x]) s2 st2 (by rw [q]; simp) h2
/-- a loop over a row that no one changes, by what holds between the turns -/
theorem forL_t {body : DSt → Sto → DEnds → Prop} (e : α → D) (xs : List α) (P : List α → DSt → Sto → Prop) (h0 : P [] s st)
    (hs : ∀ pre x post s st (Kn : DSt → Sto → Prop), xs = pre ++ x :: post → P pre s st → (∀ s st, P (pre ++ [x]) s st → Kn s st) → asgP t (e x) s fun s2 => body s2 st { K with nx := Kn, ct := Kn, bk := K.nx })
    (hd : ∀ s st, P xs s st → K.nx s st) : forL body t ⟨xs.map e, none⟩ (xs.map e) s st K := forL_ti e xs P hs hd _ xs [] s st rfl h0
variable {tt : DSt → Sto → (Bool → Sto → Prop) → Prop} {el : DSt → Sto → (D → Sto → Prop) → Prop} {k : List D → Sto → Prop}
theorem lcL_ti {src : Src} (ho : src.ok st) (e : α → D) (f : α → Bool) (g : α → D) : ∀ (xs : List α) (acc : List D),
    (∀ x ∈ xs, ∀ (Y : D → Sto → Prop) (N : Sto → Prop), (f x = true → Y (g x) st) → (f x = false → N st) → asgP t (e x) s fun s2 => tt s2 st fun b st1 => if b = true then el s2 st1 Y else N st1) →
    k (acc ++ (xs.filter f).map g) st → lcL tt el t src s (xs.map e) acc st k
  | [], acc, h, hk => ⟨ho, by simpa using hk⟩
  | x :: r, acc, h, hk => by
    refine ⟨ho, h x List.mem_cons_self _ _ (fun q => ?_) fun q => ?_⟩
    · refine lcL_ti ho e f g r (acc ++ [g x]) (fun x hx => h x (List.mem_cons_of_mem _ hx)) ?_
      rw [List.filter_cons_of_pos q, List.map_cons] at hk
      simpa using hk
    · refine lcL_ti ho e f g r acc (fun x hx => h x (List.mem_cons_of_mem _ hx)) ?_
      rw [List.filter_cons_of_neg (by rw [q]; exact Bool.false_ne_true)] at hk
      exact hk
/-- a comprehension whose turns change nothing -/
theorem lcL_t (e : α → D) (xs : List α) (f : α → Bool) (g : α → D)
    (h : ∀ x ∈ xs, ∀ (Y : D → Sto → Prop) (N : Sto → Prop), (f x = true → Y (g x) st) → (f x = false → N st) → asgP t (e x) s fun s2 => tt s2 st fun b st1 => if b = true then el s2 st1 Y else N st1)
    (hk : k ((xs.filter f).map g) st) : lcL tt el t ⟨xs.map e, none⟩ s (xs.map e) [] st k := lcL_ti (src := ⟨_, none⟩) trivial e f g xs [] h (by simpa using hk)
theorem lcL_r {a : Addr} (e : α → D) (xs : List α) (ha : st a = some (.lst (xs.map e))) (f : α → Bool) (g : α → D)
    (h : ∀ x ∈ xs, ∀ (Y : D → Sto → Prop) (N : Sto → Prop), (f x = true → Y (g x) st) → (f x = false → N st) → asgP t (e x) s fun s2 => tt s2 st fun b st1 => if b = true then el s2 st1 Y else N st1)
    (hk : k ((xs.filter f).map g) st) : lcL tt el t ⟨xs.map e, some (a, xs.map e)⟩ s (xs.map e) [] st k := lcL_ti (src := ⟨_, some (a, _)⟩) ha e f g xs [] h (by simpa using hk)
/-- a comprehension whose turns may change the store -/
theorem lcL_gi (e : α → D) (P : List α → List D → Sto → Prop) (l : List D) (xs : List α)
    (h : ∀ pre x post acc st (Y : D → Sto → Prop) (N : Sto → Prop), xs = pre ++ x :: post → P pre acc st → (∀ y st2, P (pre ++ [x]) (acc ++ [y]) st2 → Y y st2) → (∀ st2, P (pre ++ [x]) acc st2 → N st2) → asgP t (e x) s fun s2 => tt s2 st fun b st1 => if b = true then el s2 st1 Y else N st1)
    (hk : ∀ acc st, P xs acc st → k acc st) : ∀ (post pre : List α) (acc : List D) (st : Sto), xs = pre ++ post → P pre acc st → lcL tt el t ⟨l, none⟩ s (post.map e) acc st k
  | [], pre, acc, st, q, hp => by
    rw [List.append_nil] at q
    subst q
    exact ⟨trivial, hk _ _ hp⟩
  | x :: r, pre, acc, st, q, hp => by
    refine ⟨trivial, h pre x r acc st (fun y st2 => lcL tt el t ⟨l, none⟩ s (r.map e) (acc ++ [y]) st2 k) (fun st2 => lcL tt el t ⟨l, none⟩ s (r.map e) acc st2 k) q hp (fun y st2 hp2 => ?_) fun st2 hp2 => ?_⟩
    · exact lcL_gi e P l xs h hk r (pre ++ [x]) (acc ++ [y]) st2 (by rw [q]; simp) hp2
    · exact lcL_gi e P l xs h hk r (pre ++ [x]) acc st2 (by rw [q]; simp) hp2
theorem lcL_g (e : α → D) (xs : List α) (P : List α → List D → Sto → Prop) (h0 : P [] [] st)
    (h : ∀ pre x post acc st (Y : D → Sto → Prop) (N : Sto → Prop), xs = pre ++ x :: post → P pre acc st → (∀ y st2, P (pre ++ [x]) (acc ++ [y]) st2 → Y y st2) → (∀ st2, P (pre ++ [x]) acc st2 → N st2) → asgP t (e x) s fun s2 => tt s2 st fun b st1 => if b = true then el s2 st1 Y else N st1)
    (hk : ∀ acc st, P xs acc st → k acc st) : lcL tt el t ⟨xs.map e, none⟩ s (xs.map e) [] st k := lcL_gi e P _ xs h hk xs [] [] st rfl h0
/-- a comprehension without a test, whose turns may change the store -/
theorem lcL_si (e : α → D) (P : List α → List D → Sto → Prop) (l : List D) (xs : List α)
    (h : ∀ pre x post acc st (Y : D → Sto → Prop), xs = pre ++ x :: post → P pre acc st → (∀ y st2, P (pre ++ [x]) (acc ++ [y]) st2 → Y y st2) → asgP t (e x) s fun s2 => tt s2 st fun b st1 => b = true ∧ el s2 st1 Y)
    (htt : ∀ s2 st P1 P2, (∀ b st1, P1 b st1 → P2 b st1) → tt s2 st P1 → tt s2 st P2) (has : ∀ d s (P1 P2 : DSt → Prop), (∀ s2, P1 s2 → P2 s2) → asgP t d s P1 → asgP t d s P2)
    (hk : ∀ acc st, P xs acc st → k acc st) : ∀ (post pre : List α) (acc : List D) (st : Sto), xs = pre ++ post → P pre acc st → lcL tt el t ⟨l, none⟩ s (post.map e) acc st k
  | [], pre, acc, st, q, hp => by
    rw [List.append_nil] at q
    subst q
    exact ⟨trivial, hk _ _ hp⟩
  | x :: r, pre, acc, st, q, hp => by
    refine ⟨trivial, has _ _ _ _ (fun s2 z => htt _ _ _ _ (fun b st1 y => ?_) z) (h pre x r acc st (fun y st2 => lcL tt el t ⟨l, none⟩ s (r.map e) (acc ++ [y]) st2 k) q hp fun y st2 hp2 => lcL_si e P l xs h htt has hk r (pre ++ [x]) (acc ++ [y]) st2 (by rw [q]; simp) hp2)⟩
    rw [if_pos y.1]
    exact y.2
/-- a comprehension that draws: no test -/
theorem lcL_s {el : DSt → Sto → (D → Sto → Prop) → Prop} {i : Nat} (e : α → D) (xs : List α) (P : List α → List D → Sto → Prop) (h0 : P [] [] st)
    (h : ∀ pre x post acc st (Y : D → Sto → Prop), xs = pre ++ x :: post → P pre acc st → (∀ y st2, P (pre ++ [x]) (acc ++ [y]) st2 → Y y st2) → el (s.set i (some (e x))) st Y)
    (hk : ∀ acc st, P xs acc st → k acc st) : lcL (fun s st k => k true st) el (.nm i) ⟨xs.map e, none⟩ s (xs.map e) [] st k :=
  lcL_si (tt := fun s st k => k true st) (el := el) (t := .nm i) (s := s) (k := k) e P _ xs (fun pre x post acc st Y q hp hy => by rw [a_nm]; exact ⟨rfl, h pre x post acc st Y q hp hy⟩) (fun _ _ _ _ z y => z _ _ y) (fun d s P1 P2 z y => by rw [a_nm] at y ⊢; exact z _ y) hk xs [] [] st rfl h0
theorem lcB_t (e : α → D) (f : α → Bool) (g : α → D) (l : List D) : ∀ (xs : List α) (acc : List D), acc.length + xs.length ≤ sizeLine →
    (∀ x ∈ xs, ∀ (Y : D → Sto → Prop) (N : Sto → Prop), (f x = true → Y (g x) st) → (f x = false → N st) → asgP t (e x) s fun s2 => tt s2 st fun b st1 => if b = true then el s2 st1 Y else N st1) →
    k (acc ++ (xs.filter f).map g) st → lcB tt el t ⟨l, none⟩ s (xs.map e) acc st k
  | [], acc, _, h, hk => ⟨trivial, by simpa using hk⟩
  | x :: r, acc, hz, h, hk => by
    rw [List.length_cons] at hz
    refine ⟨trivial, h x List.mem_cons_self _ _ (fun q => ⟨by omega, ?_⟩) fun q => ?_⟩
    · refine lcB_t e f g l r (acc ++ [g x]) (by rw [List.length_append, List.length_singleton]; omega) (fun x hx => h x (List.mem_cons_of_mem _ hx)) ?_
      rw [List.filter_cons_of_pos q, List.map_cons] at hk
      simpa using hk
    · refine lcB_t e f g l r acc (by omega) (fun x hx => h x (List.mem_cons_of_mem _ hx)) ?_
      rw [List.filter_cons_of_neg (by rw [q]; exact Bool.false_ne_true)] at hk
      exact hk
/-- two clauses whose turns change nothing -/
theorem lc2_t {it1 : DSt → Sto → (Src → Sto → Prop) → Prop} {tt1 : DSt → Sto → (Bool → Sto → Prop) → Prop} {t1 : Tg} {vs1 : List Nat} (e : α → D) (F : α → List D) (l : List D) : ∀ (xs : List α) (acc : List D), acc.length + (xs.flatMap F).length ≤ sizeLine →
    (∀ x ∈ xs, ∀ (acc : List D) (Kn : List D → Sto → Prop), acc.length + (F x).length ≤ sizeLine → Kn (acc ++ F x) st → asgP t (e x) s fun s2 => tt s2 st fun b st1 => if b = true then it1 s2 st1 fun src1 st2 => lcB tt1 el t1 src1 (dwipe s2 vs1) src1.items acc st2 Kn else Kn acc st1) →
    k (acc ++ xs.flatMap F) st → lc2L tt it1 tt1 el t t1 vs1 ⟨l, none⟩ s (xs.map e) acc st k
  | [], acc, _, h, hk => ⟨trivial, by simpa using hk⟩
  | x :: r, acc, hz, h, hk => by
    rw [List.flatMap_cons, List.length_append] at hz
    rw [List.flatMap_cons, ← List.append_assoc] at hk
    exact ⟨trivial, h x List.mem_cons_self acc (fun acc2 st3 => lc2L tt it1 tt1 el t t1 vs1 ⟨l, none⟩ s (r.map e) acc2 st3 k) (by omega) (lc2_t e F l r (acc ++ F x) (by rw [List.length_append]; omega) (fun x hx => h x (List.mem_cons_of_mem _ hx)) hk)⟩
variable {kd : D → Sto → Prop}
theorem all_s {src : Src} (ho : src.ok st) (e : α → D) (P : α → Bool) (xs : List α) (a : Int)
    (h : ∀ x ∈ xs, ∀ (Y : D → Sto → Prop) (N : Sto → Prop), Y (.bl (P x)) st → asgP t (e x) s fun s2 => tt s2 st fun b st1 => if b = true then el s2 st1 Y else N st1) (hk : kd (.bl (xs.all P)) st) : genL .all tt el t src s (xs.map e) a st kd := by
  induction xs generalizing a with
  | nil => exact ⟨ho, hk⟩
  | cons x r ih =>
    refine ⟨ho, h x List.mem_cons_self _ _ ?_⟩
    rw [List.all_cons] at hk
    cases q : P x with
    | true =>
      rw [q, Bool.true_and] at hk
      exact ih 0 (fun x hx => h x (List.mem_cons_of_mem _ hx)) hk
    | false =>
      rw [q, Bool.false_and] at hk
      exact hk
theorem any_s {src : Src} (ho : src.ok st) (e : α → D) (P : α → Bool) (xs : List α) (a : Int)
    (h : ∀ x ∈ xs, ∀ (Y : D → Sto → Prop) (N : Sto → Prop), Y (.bl (P x)) st → asgP t (e x) s fun s2 => tt s2 st fun b st1 => if b = true then el s2 st1 Y else N st1) (hk : kd (.bl (xs.any P)) st) : genL .any tt el t src s (xs.map e) a st kd := by
  induction xs generalizing a with
  | nil => exact ⟨ho, hk⟩
  | cons x r ih =>
    refine ⟨ho, h x List.mem_cons_self _ _ ?_⟩
    rw [List.any_cons] at hk
    cases q : P x with
    | false =>
      rw [q, Bool.false_or] at hk
      exact ih 0 (fun x hx => h x (List.mem_cons_of_mem _ hx)) hk
    | true =>
      rw [q, Bool.true_or] at hk
      exact hk
theorem sum_s {src : Src} (ho : src.ok st) (e : α → D) (f : α → Int) (B : Int) (hB : 0 ≤ B) (xs : List α) (hf : ∀ x ∈ xs, -B ≤ f x ∧ f x ≤ B) (a : Int) (ha : -4611686018427387904 ≤ a - B * xs.length ∧ a + B * xs.length ≤ 4611686018427387904)
    (h : ∀ x ∈ xs, ∀ (Y : D → Sto → Prop) (N : Sto → Prop), Y (.int (f x)) st → asgP t (e x) s fun s2 => tt s2 st fun b st1 => if b = true then el s2 st1 Y else N st1) (hk : kd (.int (a + (xs.map f).sum)) st) : genL .sum tt el t src s (xs.map e) a st kd := by
  induction xs generalizing a with
  | nil => exact ⟨ho, by simpa [genE] using hk⟩
  | cons x r ih =>
    refine ⟨ho, h x List.mem_cons_self _ _ ?_⟩
    rw [List.map_cons, List.sum_cons, ← Int.add_assoc] at hk
    have h1 := hf x List.mem_cons_self
    rw [List.length_cons] at ha
    have q : B * ((r.length + 1 : Nat) : Int) = B * (r.length : Int) + B := by rw [Int.natCast_add, Int.mul_add]; simp
    rw [q] at ha
    have h2 : 0 ≤ B * (r.length : Int) := Int.mul_nonneg hB (by omega)
    refine ⟨⟨⟨by omega, by omega⟩, by omega, by omega⟩, ?_⟩
    exact ih (fun x hx => hf x (List.mem_cons_of_mem _ hx)) (a + f x) (by omega) (fun x hx => h x (List.mem_cons_of_mem _ hx)) hk
end
/-! elements of a generator expression, one by one -/
section
variable {st : Sto} {a : Int} {nx : Int → Sto → Prop} {R : D → Sto → Prop}
theorem gs_1 : genS .all a (.bl true) st nx R = nx 0 st := rfl
theorem gs_2 : genS .all a (.bl false) st nx R = R (.bl false) st := rfl
theorem gs_3 : genS .any a (.bl true) st nx R = R (.bl true) st := rfl
theorem gs_4 : genS .any a (.bl false) st nx R = nx 0 st := rfl
theorem gs_5 {b : Bool} : genS .all a (.bl b) st nx R = if b = true then nx 0 st else R (.bl false) st := by cases b <;> rfl
theorem gs_6 {b : Bool} : genS .any a (.bl b) st nx R = if b = true then R (.bl true) st else nx 0 st := by cases b <;> rfl
theorem ge_1 : genE .all a = .bl true := rfl
theorem ge_2 : genE .any a = .bl false := rfl
theorem ge_3 : genE .sum a = .int a := rfl
end
/-- a stored list is left as it is -/
theorem gz_r {st : Sto} {p : Addr} {R : D → Sto → Prop} : frzP (.ref p) st R = ∃ ds, st p = some (.lst ds) ∧ R (.fl ds) (del st p) := rfl
/-- a row against a written empty one -/
theorem q_nil {st : Sto} {ds : List D} {k : Bool → Prop} (hs : shDs ds 63 = true) (h : k (decide (ds = []))) : eqP (.fl ds) (.fl []) st k := by
  refine q_pure (by simpa only [shD] using hs) rfl ?_
  have e : PyData.eqv (D.fl ds).py (D.fl []).py = decide (ds = []) := by
    cases ds with
    | nil => rfl
    | cons d r => rfl
  rw [e]
  exact h
/-! in -/
theorem in_ints {st : Sto} {x : Int} {xs : List Int} {k : Bool → Prop} (h : k (decide (x ∈ xs))) : inP (.int x) (.fl (xs.map D.int)) st k := by
  refine .inl ⟨rfl, ?_, ?_⟩
  · rw [List.all_map]
    exact List.all_eq_true.mpr fun _ _ => rfl
  · have e : ((xs.map D.int).any fun y => eqF y (.int x)) = decide (x ∈ xs) := by
      rw [List.any_map, Bool.eq_iff_iff, List.any_eq_true, decide_eq_true_eq]
      constructor
      · rintro ⟨y, hy, e⟩
        have e : (y == x) = true := e
        rw [beq_iff_eq] at e
        exact e ▸ hy
      · intro h
        exact ⟨x, h, by show (x == x) = true; simp⟩
    rw [e]
    exact h
theorem in_inr {st : Sto} {x : Int} {xs : List Int} {k : Bool → Prop} {a : Addr} (ha : st a = some (.lst (xs.map D.int))) (h : k (decide (x ∈ xs))) : inP (.int x) (.ref a) st k := ⟨_, ha, in_ints (st := st) h⟩
/-! rows of pairs -/
theorem pr_inj {p q : Int × Int} (h : prD p = prD q) : p = q := by
  unfold prD at h
  injection h with h
  injection h with h1 h2
  injection h1 with h1
  injection h2 with h2 _
  injection h2 with h2
  exact Prod.ext h1 h2
theorem map_inj {α β : Type} {f : α → β} (hf : ∀ a b, f a = f b → a = b) : ∀ {ps qs : List α}, ps.map f = qs.map f → ps = qs
  | [], [], _ => rfl
  | [], _ :: _, h => by simp at h
  | _ :: _, [], h => by simp at h
  | p :: ps, q :: qs, h => by
    rw [List.map_cons, List.map_cons, List.cons.injEq] at h
    rw [hf _ _ h.1, map_inj hf h.2]
theorem prs_inj {ps qs : List (Int × Int)} : ps.map prD = qs.map prD ↔ ps = qs := ⟨map_inj fun _ _ => pr_inj, fun h => by rw [h]⟩
theorem sh_prs (ps : List (Int × Int)) (n : Nat) : shDs (ps.map prD) (n + 1) = true := shDs_of fun d hd => by
  obtain ⟨p, _, rfl⟩ := List.mem_map.mp hd
  simp [prD, shD, shDs]
theorem nb_prs (ps : List (Int × Int)) : noBls (ps.map prD) = true := noBls_of fun d hd => by
  obtain ⟨p, _, rfl⟩ := List.mem_map.mp hd
  simp [prD, noBl, noBls]
theorem q_tps {st : Sto} {ps qs : List (Int × Int)} {k : Bool → Prop} (h : k (decide (ps = qs))) : eqP (.tup (ps.map prD)) (.tup (qs.map prD)) st k := by
  refine q_same (by simp only [shD]; exact sh_prs ps _) (by simp only [shD]; exact sh_prs qs _) (by simp only [noBl]; exact nb_prs ps) (by simp only [noBl]; exact nb_prs qs) (p := ps = qs) ?_ h
  rw [D.tup.injEq]
  exact prs_inj
/-- a list that may change, against a written empty one -/
theorem q_re {st : Sto} {a : Addr} {ps : List (Int × Int)} {k : Bool → Prop} (ha : st a = some (.lst (ps.map prD))) (h : k (decide (ps = []))) : eqP (.ref a) (.fl []) st k := by
  obtain ⟨h1, h2, h3⟩ := shDs_ok (st := st) (ps.map prD) 63 (sh_prs ps _)
  refine eq_any (.ref ha h1) (.fl .nil) ?_ rfl ?_
  · show (PyData.canLayAll0 (pys (ps.map prD)) && decide (PyData.depthAll (pys (ps.map prD)) + 1 ≤ 64)) = true
    rw [h2, Bool.true_and]
    exact decide_eq_true (by omega)
  · cases ps with
    | nil => exact h
    | cons p r => exact h
theorem at_prs {ps : List (Int × Int)} {k : Nat} {p : Int × Int} (h : ps[k]? = some p) : atI (ps.map prD) (k : Int) = some (.tup [.int p.1, .int p.2]) := by
  refine atI_nat ?_
  rw [List.getElem?_map, h]
  rfl
theorem nil_or {α : Type} (l : List α) : l = [] ∨ ∃ i x, l = i ++ [x] := by
  rcases List.eq_nil_or_concat l with h | ⟨i, x, h⟩
  · exact .inl h
  · exact .inr ⟨i, x, by rw [h]; simp⟩
theorem at_last {α : Type} {i : List α} {x : α} : atI (i ++ [x]) (-1) = some x := by
  have e : ixN (i ++ [x]).length (-1) = some i.length := by
    unfold ixN
    rw [List.length_append, List.length_singleton]
    split <;> simp <;> omega
  unfold atI
  rw [e]
  simp
theorem ixn_last {n : Nat} : ixN (n + 1) (-1) = some n := by
  unfold ixN
  split <;> simp <;> omega
end Fy

/-! A run of the small language over plain data that changes nothing: what the kernel may reckon. -/
namespace Fy
open PySem PySem.Spec PyProof.Rows L2
inductive Rs where
  | v (d : D) | x (e : Exc)
def Rs.bind (r : Option Rs) (k : D → Option Rs) : Option Rs := match r with
  | some (.v d) => k d
  | some (.x e) => some (.x e)
  | none => none
def Rs.ok (r : Rs) (s : DSt) (st : Sto) (ES : XS) (R : D → Sto → Prop) : Prop := match r with
  | .v d => R d st
  | .x e => ES e s st
theorem bind_v {r : Option Rs} {k : D → Option Rs} {q : Rs} (h : Rs.bind r k = some q) : (∃ d, r = some (.v d) ∧ k d = some q) ∨ ∃ e, r = some (.x e) ∧ q = .x e := by
  unfold Rs.bind at h
  split at h
  · exact .inl ⟨_, rfl, h⟩
  · exact .inr ⟨_, rfl, (Option.some.inj h).symm⟩
  · cases h
/-- a value, or nothing -/
def toR (o : Option D) : Option Rs := o.map .v
theorem toR_ok {o : Option D} {q : Rs} (h : toR o = some q) : ∃ d, o = some d ∧ q = .v d := by
  cases o with
  | none => cases h
  | some d => exact ⟨d, rfl, (Option.some.inj h).symm⟩
def okB (b : Bool) (d : D) : Option D := if b = true then some d else none
theorem okB_ok {b : Bool} {d e : D} (h : okB b d = some e) : b = true ∧ d = e := by
  unfold okB at h
  split at h
  · rename_i q
    exact ⟨q, Option.some.inj h⟩
  · cases h
def inW (i : Int) : Bool := decide (-(2 ^ 64) < i ∧ i < 2 ^ 64)
def binV (o : BOp) (x y : D) : Option D := match o, x, y with
  | .add, .int i, .int j => some (.int (i + j))
  | .sub, .int i, .int j => some (.int (i - j))
  | .mul, .int i, .int j => okB (inW j) (.int (i * j))
  | .fdiv, .int i, .int j => okB (decide (0 < j) && decide (j < 1073741824)) (.int (i / j))
  | .mod, .int i, .int j => okB (decide (0 < j)) (.int (i % j))
  | .add, .str a, .str b => okB (decide (a.length + b.length ≤ sizeLine)) (.str (a ++ b))
  | .add, .tup a, .tup b => okB (decide (a.length + b.length ≤ sizeLine)) (.tup (a ++ b))
  | .add, .fl a, .fl b => okB (decide (a.length + b.length ≤ sizeLine)) (.fl (a ++ b))
  | .mul, .fl a, .int k => okB (decide (k ≤ 1000000 ∧ -1000000 ≤ k ∧ a.length * k.toNat ≤ sizeLine)) (.fl (List.replicate k.toNat a).flatten)
  | .mul, .tup a, .int k => okB (decide (a.length ≠ 0 ∧ -1000 ≤ k ∧ k ≤ 1000 ∧ a.length ≤ 1000)) (.tup (List.replicate k.toNat a).flatten)
  | _, _, _ => none
theorem binV_ok {o : BOp} {x y d : D} (h : binV o x y = some d) {st : Sto} {R : D → Sto → Prop} (hR : R d st) : binP o x y st R := by
  unfold binV at h
  split at h <;> first | (cases h; done) | (have e := Option.some.inj h; subst e; exact hR) | skip
  all_goals (obtain ⟨q, rfl⟩ := okB_ok h)
  · exact ⟨.inr (by unfold inW at q; exact of_decide_eq_true q), hR⟩
  · rw [Bool.and_eq_true, decide_eq_true_eq, decide_eq_true_eq] at q
    exact ⟨q, hR⟩
  all_goals first | exact ⟨of_decide_eq_true q, hR⟩ | skip
  · obtain ⟨q0, q1⟩ := of_decide_eq_true q
    exact ⟨⟨fun z => q0 (by rw [z]; rfl), q1⟩, hR⟩
def eqV (x y : D) : Option Bool := match x, y with
  | .int i, .int j => some (decide (i = j))
  | .bl i, .bl j => some (decide (i = j))
  | .str i, .str j => some (decide (i = j))
  | x, y => if (shD x 64 && shD y 64) = true then some (PyData.eqv x.py y.py) else none
theorem eqV_ok {x y : D} {b : Bool} (h : eqV x y = some b) {st : Sto} {k : Bool → Prop} (hk : k b) : eqP x y st k := by
  unfold eqV at h
  split at h <;> first | (have e := Option.some.inj h; subst e; exact hk) | skip
  split at h
  · rename_i q
    rw [Bool.and_eq_true] at q
    have e := Option.some.inj h
    subst e
    exact q_pure q.1 q.2 hk
  · cases h
def inV (x y : D) : Option Bool := match y with
  | .tup ds => if (flatD x && ds.all flatD) = true then some (ds.any fun y => eqF y x) else none
  | .fl ds => if (flatD x && ds.all flatD) = true then some (ds.any fun y => eqF y x) else none
  | .str z => (match x with
    | .str w => (match w.cps.toList with
      | [c] => some (decide (c ∈ z.cps.toList))
      | _ => none)
    | _ => none)
  | _ => none
theorem inV_ok {x y : D} {b : Bool} (h : inV x y = some b) {st : Sto} {k : Bool → Prop} (hk : k b) : inP x y st k := by
  unfold inV at h
  split at h
  · split at h
    · rename_i q
      rw [Bool.and_eq_true] at q
      have e := Option.some.inj h
      subst e
      exact ⟨q.1, q.2, hk⟩
    · cases h
  · split at h
    · rename_i q
      rw [Bool.and_eq_true] at q
      have e := Option.some.inj h
      subst e
      exact .inl ⟨q.1, q.2, hk⟩
    · cases h
  · split at h
    · rename_i w
      split at h
      · rename_i c q
        have e := Option.some.inj h
        subst e
        refine ⟨c, ?_, hk⟩
        obtain ⟨⟨l⟩⟩ := w
        simp only at q
        subst q
        rfl
      · cases h
    · cases h
  · cases h
def cmpV (o : COp) (x y : D) : Option Bool := match o, x, y with
  | .lt, .int i, .int j => some (decide (i < j))
  | .le, .int i, .int j => some (decide (i ≤ j))
  | .gt, .int i, .int j => some (decide (j < i))
  | .ge, .int i, .int j => some (decide (j ≤ i))
  | .eq, x, y => eqV x y
  | .ne, x, y => (eqV x y).map (!·)
  | .isin, x, y => inV x y
  | .notin, x, y => (inV x y).map (!·)
  | .is, x, .non => some x.isNon
  | .isnot, x, .non => some (!x.isNon)
  | .is, .bl a, .bl b => some (decide (a = b))
  | .isnot, .bl a, .bl b => some (!decide (a = b))
  | _, _, _ => none
theorem cmpV_ok {o : COp} {x y : D} {b : Bool} (h : cmpV o x y = some b) {st : Sto} {R : D → Sto → Prop} (hR : R (.bl b) st) : cmpP o x y st R := by
  unfold cmpV at h
  split at h
  · cases h; exact hR
  · cases h; exact hR
  · cases h; exact hR
  · cases h; exact hR
  · rw [c_eq]; exact eqV_ok h hR
  · obtain ⟨c, h1, rfl⟩ := Option.map_eq_some_iff.mp h
    rw [c_ne]; exact eqV_ok h1 hR
  · rw [c_in]; exact inV_ok h hR
  · obtain ⟨c, h1, rfl⟩ := Option.map_eq_some_iff.mp h
    rw [c_notin]; exact inV_ok h1 hR
  · cases h; rw [c_is]; exact hR
  · cases h; rw [c_isnot]; exact hR
  · cases h; exact hR
  · cases h; exact hR
  · cases h
def itemsV : D → Option (List D)
  | .tup ds => some ds
  | .fl ds => some ds
  | _ => none
theorem itemsV_ok {x : D} {ds : List D} (h : itemsV x = some ds) {st : Sto} {k : List D → Prop} (hk : k ds) : itemsP x st k := by
  cases x <;> simp only [itemsV] at h <;> cases h <;> exact hk
theorem itemsW_ok {x : D} {ds : List D} (h : itemsV x = some ds) {st : Sto} {k : List D → Prop} (hk : k ds) : itemsT x st k := by
  cases x <;> simp only [itemsV] at h <;> cases h <;> exact hk
def ixV (x y : D) : Option D := match x, y with
  | .tup ds, .int i => atI ds i
  | .fl ds, .int i => atI ds i
  | _, _ => none
theorem ixV_ok {x y d : D} (h : ixV x y = some d) {st : Sto} {R : D → Sto → Prop} (hR : R d st) : ixP x y st R := by
  unfold ixV at h
  split at h
  · exact ⟨d, h, hR⟩
  · exact ⟨d, h, hR⟩
  · cases h
def tyV : D → Option String
  | .non => some "NoneType" | .bl _ => some "bool" | .int _ => some "int" | .str _ => some "str" | .tup _ => some "tuple" | .fl _ => some "list" | _ => none
theorem tyV_ok {x : D} {t : String} (h : tyV x = some t) {st : Sto} {k : String → Prop} (hk : k t) : tyP x st k := by
  cases x <;> simp only [tyV] at h <;> cases h <;> exact hk
def biV (f : Bi) (xs : List D) : Option D := match f, xs with
  | .abs, [.int i] => some (.int (if i < 0 then -i else i))
  | .len, [.str z] => okB (decide (z.length ≤ sizeLine)) (.int z.length)
  | .len, [.tup ds] => some (.int ds.length)
  | .len, [.fl ds] => some (.int ds.length)
  | .isi, [x, .ty T] => if knownT T = true then (tyV x).map fun t => .bl (subT t T) else none
  | .tuple, [x] => (itemsV x).map .tup
  | .list true, [x] => (itemsV x).map .fl
  | .int, [.int i] => some (.int i)
  | .int, [.bl b] => some (.int (if b then 1 else 0))
  | .max, [.int i, .int j] => some (.int (if j > i then j else i))
  | .min, [.int i, .int j] => some (.int (if j < i then j else i))
  | _, _ => none
theorem biV_ok {f : Bi} {xs : List D} {d : D} (h : biV f xs = some d) {st : Sto} {R : D → Sto → Prop} (hR : R d st) : biP f xs st R := by
  unfold biV at h
  split at h
  · cases h; exact hR
  · obtain ⟨q, rfl⟩ := okB_ok h
    exact ⟨of_decide_eq_true q, hR⟩
  · cases h; exact hR
  · cases h; exact hR
  · split at h
    · rename_i q
      obtain ⟨t, h1, rfl⟩ := Option.map_eq_some_iff.mp h
      rw [i_isi]
      exact ⟨q, tyV_ok h1 hR⟩
    · cases h
  · obtain ⟨t, h1, rfl⟩ := Option.map_eq_some_iff.mp h
    rw [i_tuple]
    exact itemsW_ok h1 hR
  · obtain ⟨t, h1, rfl⟩ := Option.map_eq_some_iff.mp h
    rw [i_list]
    exact itemsV_ok h1 hR
  · cases h; exact hR
  · cases h; exact hR
  · cases h; exact hR
  · cases h; exact hR
  · cases h
def slV (x : D) (lo hi : Option Int) : Option D := match x with
  | .tup ds => some (.tup (cutD ds lo hi))
  | .fl ds => some (.fl (cutD ds lo hi))
  | _ => none
theorem slV_ok {x d : D} {lo hi : Option Int} (h : slV x lo hi = some d) {st : Sto} {R : D → Sto → Prop} (hR : R d st) : slP true x lo hi st R := by
  unfold slV at h
  split at h
  · cases h; exact hR
  · cases h; exact hR
  · cases h
mutual
def asgV : Tg → D → DSt → Option DSt
  | .nm i, d, s => some (s.set i (some d))
  | .tp ts, d, s => match d with
    | .tup ds => asgsV ts ds s
    | _ => none
def asgsV : Tgs → List D → DSt → Option DSt
  | .nil, ds, s => match ds with
    | [] => some s
    | _ => none
  | .cons t r, ds, s => match ds with
    | d :: ds => (asgV t d s).bind fun s1 => asgsV r ds s1
    | [] => none
end
mutual
theorem asgV_ok : ∀ (t : Tg) (d : D) (s s2 : DSt), asgV t d s = some s2 → ∀ k : DSt → Prop, k s2 → asgP t d s k
  | .nm i, d, s, s2, h, k, hk => by
    simp only [asgV] at h
    cases h
    rw [a_nm]
    exact hk
  | .tp ts, d, s, s2, h, k, hk => by
    simp only [asgV] at h
    split at h
    · rw [a_tp]
      exact asgsV_ok ts _ s s2 h k hk
    · cases h
theorem asgsV_ok : ∀ (t : Tgs) (d : List D) (s s2 : DSt), asgsV t d s = some s2 → ∀ k : DSt → Prop, k s2 → asgsP t d s k
  | .nil, ds, s, s2, h, k, hk => by
    simp only [asgsV] at h
    split at h
    · cases h
      rw [a_nil]
      exact hk
    · cases h
  | .cons t r, ds, s, s2, h, k, hk => by
    simp only [asgsV] at h
    split at h
    · obtain ⟨s1, h1, h2⟩ := Option.bind_eq_some_iff.mp h
      rw [a_cons]
      exact asgV_ok t _ s s1 h1 _ (asgsV_ok r _ s1 s2 h2 k hk)
    · cases h
end
def iterV : D → Option (List D)
  | .tup ds => some ds
  | .fl ds => some ds
  | .str x => if x.cps.size ≤ sizeLine then some (x.cps.toList.map fun c => .str ⟨#[c]⟩) else none
  | _ => none
theorem iterV_ok {d : D} {l : List D} (h : iterV d = some l) {st : Sto} {R : Src → Sto → Prop} (hR : R ⟨l, none⟩ st) : iterP d st R := by
  cases d <;> simp only [iterV] at h
  all_goals first | (cases h; done) | skip
  · split at h
    · rename_i q
      cases h
      exact ⟨q, hR⟩
    · cases h
  · cases h; exact hR
  · cases h; exact hR
def rngV (x y : D) : Option (List D) := match x, y with
  | .int i, .int j => if -1000000 ≤ i ∧ i ≤ 1000000 ∧ -1000000 ≤ j ∧ j ≤ 1000000 then some (rangeD i (j - i).toNat) else none
  | _, _ => none
theorem rngV_ok {x y : D} {l : List D} (h : rngV x y = some l) {st : Sto} {R : Src → Sto → Prop} (hR : R ⟨l, none⟩ st) : rngP x y st R := by
  unfold rngV at h
  split at h
  · split at h
    · rename_i q
      cases h
      exact ⟨q, hR⟩
    · cases h
  · cases h
/-- the turns of a comprehension -/
def lcV (tt : DSt → Option Bool) (el : DSt → Option D) (t : Tg) (s : DSt) : List D → List D → Option (List D)
  | [], acc => some acc
  | d :: r, acc => (asgV t d s).bind fun s2 => (tt s2).bind fun b => if b = true then (el s2).bind fun y => lcV tt el t s r (acc ++ [y]) else lcV tt el t s r acc
theorem lcV_ok {tt : DSt → Option Bool} {el : DSt → Option D} {t : Tg} {s : DSt} {wt : DSt → Sto → (Bool → Sto → Prop) → Prop} {we : DSt → Sto → (D → Sto → Prop) → Prop} {st : Sto} {l : List D}
    (ht : ∀ s2 b, tt s2 = some b → ∀ k : Bool → Sto → Prop, k b st → wt s2 st k) (he : ∀ s2 d, el s2 = some d → ∀ k : D → Sto → Prop, k d st → we s2 st k) :
    ∀ (ds acc out : List D), lcV tt el t s ds acc = some out → ∀ k : List D → Sto → Prop, k out st → lcL wt we t ⟨l, none⟩ s ds acc st k
  | [], acc, out, h, k, hk => by
    simp only [lcV] at h
    cases h
    exact ⟨trivial, hk⟩
  | d :: r, acc, out, h, k, hk => by
    simp only [lcV] at h
    obtain ⟨s2, h1, h⟩ := Option.bind_eq_some_iff.mp h
    obtain ⟨b, h2, h⟩ := Option.bind_eq_some_iff.mp h
    refine ⟨trivial, asgV_ok t d s s2 h1 _ (ht s2 b h2 _ ?_)⟩
    split at h
    · rename_i q
      obtain ⟨y, h3, h⟩ := Option.bind_eq_some_iff.mp h
      rw [if_pos q]
      exact he s2 y h3 _ (lcV_ok ht he r (acc ++ [y]) out h k hk)
    · rename_i q
      rw [if_neg q]
      exact lcV_ok ht he r acc out h k hk
def genV (m : GM) (tt : DSt → Option Bool) (el : DSt → Option D) (t : Tg) (s : DSt) : List D → Int → Option D
  | [], a => some (genE m a)
  | d :: r, a => (asgV t d s).bind fun s2 => (tt s2).bind fun b => if b = true then (el s2).bind fun y => (match m, y with
      | .all, .bl true => genV m tt el t s r 0
      | .all, .bl false => some (.bl false)
      | .any, .bl true => some (.bl true)
      | .any, .bl false => genV m tt el t s r 0
      | .sum, .int i => if (decide (-9223372036854775808 ≤ i) && decide (i < 9223372036854775808) && decide (-9223372036854775808 ≤ a + i) && decide (a + i < 9223372036854775808)) = true then genV m tt el t s r (a + i) else none
      | _, _ => none) else genV m tt el t s r a
theorem genV_ok {m : GM} {tt : DSt → Option Bool} {el : DSt → Option D} {t : Tg} {s : DSt} {wt : DSt → Sto → (Bool → Sto → Prop) → Prop} {we : DSt → Sto → (D → Sto → Prop) → Prop} {st : Sto} {l : List D}
    (ht : ∀ s2 b, tt s2 = some b → ∀ k : Bool → Sto → Prop, k b st → wt s2 st k) (he : ∀ s2 d, el s2 = some d → ∀ k : D → Sto → Prop, k d st → we s2 st k) :
    ∀ (ds : List D) (a : Int) (out : D), genV m tt el t s ds a = some out → ∀ k : D → Sto → Prop, k out st → genL m wt we t ⟨l, none⟩ s ds a st k
  | [], a, out, h, k, hk => by
    simp only [genV] at h
    cases h
    exact ⟨trivial, hk⟩
  | d :: r, a, out, h, k, hk => by
    simp only [genV] at h
    obtain ⟨s2, h1, h⟩ := Option.bind_eq_some_iff.mp h
    obtain ⟨b, h2, h⟩ := Option.bind_eq_some_iff.mp h
    refine ⟨trivial, asgV_ok t d s s2 h1 _ (ht s2 b h2 _ ?_)⟩
    split at h
    · rename_i q
      obtain ⟨y, h3, h⟩ := Option.bind_eq_some_iff.mp h
      rw [if_pos q]
      refine he s2 y h3 _ ?_
      split at h
      · exact genV_ok ht he r 0 out h k hk
      · cases h; exact hk
      · cases h; exact hk
      · exact genV_ok ht he r 0 out h k hk
      · split at h
        · rename_i q
          simp only [Bool.and_eq_true, decide_eq_true_eq] at q
          exact ⟨⟨⟨q.1.1.1, q.1.1.2⟩, q.1.2, q.2⟩, genV_ok ht he r _ out h k hk⟩
        · cases h
      · cases h
    · rename_i q
      rw [if_neg q]
      exact genV_ok ht he r a out h k hk
def valV : Option Rs → Option D
  | some (.v d) => some d
  | _ => none
theorem valV_ok {r : Option Rs} {d : D} (h : valV r = some d) : r = some (.v d) := by
  unfold valV at h
  split at h
  · cases h; rfl
  · cases h
def blV : Option D → Option Bool
  | some (.bl b) => some b
  | _ => none
theorem blV_ok {r : Option D} {b : Bool} (h : blV r = some b) : r = some (.bl b) := by
  unfold blV at h
  split at h
  · cases h; rfl
  · cases h
abbrev Ev := Nat → List D → Option Rs
mutual
def evE (C : Ev) : IE → DSt → Option Rs
  | .var i, s => match s[i]? with
    | some (some d) => some (.v d)
    | _ => none
  | .cint i, _ => some (.v (.int i))
  | .cbl b, _ => some (.v (.bl b))
  | .cnon, _ => some (.v .non)
  | .cstr x, _ => some (.v (.str x))
  | .con c, _ => some (.v c.d)
  | .cty n, _ => some (.v (.ty n))
  | .bin o a b, s => Rs.bind (evE C a s) fun x => Rs.bind (evE C b s) fun y => toR (binV o x y)
  | .neg a, s => Rs.bind (evE C a s) fun x => match x with | .int i => some (.v (.int (-i))) | _ => none
  | .cmp o a b, s => Rs.bind (evE C a s) fun x => Rs.bind (evE C b s) fun y => toR ((cmpV o x y).map .bl)
  | .cmp2 o o2 a b c, s => Rs.bind (evE C a s) fun x => Rs.bind (evE C b s) fun y => (cmpV o x y).bind fun r => if r = true then Rs.bind (evE C c s) fun z => toR ((cmpV o2 y z).map .bl) else some (.v (.bl false))
  | .and a b, s => Rs.bind (evE C a s) fun x => match x with | .bl true => evE C b s | .bl false => some (.v (.bl false)) | _ => none
  | .or a b, s => Rs.bind (evE C a s) fun x => match x with | .bl true => some (.v (.bl true)) | .bl false => evE C b s | _ => none
  | .not a, s => Rs.bind (evE C a s) fun x => match x with | .bl b => some (.v (.bl (!b))) | _ => none
  | .ife t a b, s => Rs.bind (evE C t s) fun x => match x with | .bl true => evE C a s | .bl false => evE C b s | _ => none
  | .tup es, s => Rs.bind (evEs C es s) fun x => match x with | .tup ds => some (.v (.tup ds)) | _ => none
  | .lst z es, s => if z = true then Rs.bind (evEs C es s) fun x => match x with | .tup ds => some (.v (.fl ds)) | _ => none else none
  | .call f es, s => Rs.bind (evEs C es s) fun x => match x with | .tup ds => C f ds | _ => none
  | .bi f es, s => Rs.bind (evEs C es s) fun x => match x with | .tup ds => toR (biV f ds) | _ => none
  | .ix a b, s => Rs.bind (evE C a s) fun x => Rs.bind (evE C b s) fun y => toR (ixV x y)
  | .lc own t it ts el, s => Rs.bind (evI C it s) fun x => match x with
    | .fl items => (lcV (fun s2 => evTs C ts s2) (fun s2 => valV (evE C el s2)) t (dwipe s own) items []).map fun l => .v (.fl l)
    | _ => none
  | .gen m own t it ts el, s => Rs.bind (evI C it s) fun x => match x with
    | .fl items => toR (genV m (fun s2 => evTs C ts s2) (fun s2 => valV (evE C el s2)) t (dwipe s own) items 0)
    | _ => none
  | .lrg1 z a, s => if z = true then Rs.bind (evE C a s) fun x => (rngV (.int 0) x).map fun l => .v (.fl l) else none
  | .lrg2 z a b, s => if z = true then Rs.bind (evE C a s) fun x => Rs.bind (evE C b s) fun y => (rngV x y).map fun l => .v (.fl l) else none
  | .rev z a, s => if z = true then Rs.bind (evE C a s) fun x => match x with | .fl l => some (.v (.fl l.reverse)) | _ => none else none
  | .sl z a lo hi, s => if z = true then Rs.bind (evE C a s) fun x => (evO C lo s).bind fun i => (evO C hi s).bind fun j => toR (slV x i j) else none
  | _, _ => none
def evO (C : Ev) : IEs → DSt → Option (Option Int)
  | .nil, _ => some none
  | .cons e r, s => match r with
    | .nil => (match valV (evE C e s) with
      | some (.int i) => some (some i)
      | _ => none)
    | _ => none
/-- the values as one tuple -/
def evEs (C : Ev) : IEs → DSt → Option Rs
  | .nil, _ => some (.v (.tup []))
  | .cons e r, s => Rs.bind (evE C e s) fun x => Rs.bind (evEs C r s) fun y => match y with | .tup ds => some (.v (.tup (x :: ds))) | _ => none
def evTs (C : Ev) : IEs → DSt → Option Bool
  | .nil, _ => some true
  | .cons e r, s => match r with
    | .nil => blV (valV (evE C e s))
    | _ => none
/-- the items as a list -/
def evI (C : Ev) : II → DSt → Option Rs
  | .val e, s => Rs.bind (evE C e s) fun d => (iterV d).map fun l => .v (.fl l)
  | .rng1 a, s => Rs.bind (evE C a s) fun d => (rngV (.int 0) d).map fun l => .v (.fl l)
  | .rng2 a b, s => Rs.bind (evE C a s) fun x => Rs.bind (evE C b s) fun y => (rngV x y).map fun l => .v (.fl l)
  | .enm a, s => Rs.bind (evE C a s) fun d => (itemsV d).map fun l => .v (.fl (enumD l))
  | .zip a b, s => Rs.bind (evE C a s) fun x => Rs.bind (evE C b s) fun y => match x, y with
    | .tup as, .tup bs => some (.v (.fl (zipD as bs)))
    | .fl as, .fl bs => some (.v (.fl (zipD as bs)))
    | _, _ => none
  | .rngd a b c, s => none
  | .rvd a, s => none
end
theorem enmV_ok {x : D} {ds : List D} (h : itemsV x = some ds) {st : Sto} {R : Src → Sto → Prop} (hR : R ⟨enumD ds, none⟩ st) : enmP x st R := by
  cases x <;> simp only [itemsV] at h <;> cases h <;> exact hR
def EvOk (C : Cl) (V : Ev) : Prop := ∀ f ds r, V f ds = some r → ∀ (st : Sto) (R : D → Sto → Prop) (E : Exc → Sto → Prop), (match r with | .v d => R d st | .x e => E e st) → C f ds st R E
section
variable {C : Cl} {V : Ev}
theorem seq_ok {ES : XS} {a : IE} {s : DSt} (ih : ∀ r, evE V a s = some r → ∀ st R, r.ok s st ES R → wpE C ES a s st R) {k : D → Option Rs} {q : Rs} {st : Sto} {R R2 : D → Sto → Prop} (h : Rs.bind (evE V a s) k = some q) (hq : q.ok s st ES R) (hk : ∀ x, k x = some q → R2 x st) : wpE C ES a s st R2 := by
  rcases bind_v h with ⟨d, e, h⟩ | ⟨e, h1, rfl⟩
  · exact ih _ e st R2 (hk d h)
  · exact ih _ h1 st R2 hq
theorem seqs_ok {ES : XS} {a : IEs} {s : DSt} (ih : ∀ r, evEs V a s = some r → ∀ st R, (match r with | .v d => ∃ ds, d = .tup ds ∧ R ds st | .x e => ES e s st) → wpEs C ES a s st R) {k : D → Option Rs} {q : Rs} {st : Sto} {R : D → Sto → Prop} {R2 : List D → Sto → Prop} (h : Rs.bind (evEs V a s) k = some q) (hq : q.ok s st ES R) (hk : ∀ x, k x = some q → ∃ ds, x = .tup ds ∧ R2 ds st) : wpEs C ES a s st R2 := by
  rcases bind_v h with ⟨d, e, h⟩ | ⟨e, h1, rfl⟩
  · exact ih _ e st R2 (hk d h)
  · exact ih _ h1 st R2 hq
theorem seqi_ok {ES : XS} {a : II} {s : DSt} (ih : ∀ r, evI V a s = some r → ∀ st R, (match r with | .v d => ∃ ds, d = .fl ds ∧ R ⟨ds, none⟩ st | .x e => ES e s st) → wpI C ES a s st R) {k : D → Option Rs} {q : Rs} {st : Sto} {R : D → Sto → Prop} {R2 : Src → Sto → Prop} (h : Rs.bind (evI V a s) k = some q) (hq : q.ok s st ES R) (hk : ∀ x, k x = some q → ∃ ds, x = .fl ds ∧ R2 ⟨ds, none⟩ st) : wpI C ES a s st R2 := by
  rcases bind_v h with ⟨d, e, h⟩ | ⟨e, h1, rfl⟩
  · exact ih _ e st R2 (hk d h)
  · exact ih _ h1 st R2 hq
mutual
theorem evE_ok (hC : EvOk C V) : ∀ (i : IE) (ES : XS) (s : DSt) (r : Rs), evE V i s = some r → ∀ st R, r.ok s st ES R → wpE C ES i s st R
  | .var i, ES, s, r, h, st, R, hR => by
    simp only [evE] at h
    rw [e_var]
    unfold getP
    split at h
    · rename_i d e
      cases h
      first | (rw [e]; exact hR) | exact hR
    · cases h
  | .cint i, ES, s, r, h, st, R, hR => by
    simp only [evE] at h
    cases h
    rw [e_int]
    exact hR
  | .cbl i, ES, s, r, h, st, R, hR => by
    simp only [evE] at h
    cases h
    rw [e_bl]
    exact hR
  | .cnon, ES, s, r, h, st, R, hR => by
    simp only [evE] at h
    cases h
    rw [e_non]
    exact hR
  | .cstr i, ES, s, r, h, st, R, hR => by
    simp only [evE] at h
    cases h
    rw [e_str]
    exact hR
  | .con i, ES, s, r, h, st, R, hR => by
    simp only [evE] at h
    cases h
    rw [e_con]
    exact hR
  | .cty i, ES, s, r, h, st, R, hR => by
    simp only [evE] at h
    cases h
    rw [e_cty]
    exact hR
  | .nope, ES, s, r, h, st, R, hR => by simp [evE] at h
  | .bin o a b, ES, s, r, h, st, R, hR => by
    simp only [evE] at h
    rw [e_bin]
    refine seq_ok (evE_ok hC a ES s) h hR fun x h => seq_ok (evE_ok hC b ES s) h hR fun y h => ?_
    obtain ⟨d, h1, rfl⟩ := toR_ok h
    exact binV_ok h1 hR
  | .neg a, ES, s, r, h, st, R, hR => by
    simp only [evE] at h
    rw [e_neg]
    refine seq_ok (evE_ok hC a ES s) h hR fun x h => ?_
    split at h
    · cases h
      exact hR
    · cases h
  | .cmp o a b, ES, s, r, h, st, R, hR => by
    simp only [evE] at h
    rw [e_cmp]
    refine seq_ok (evE_ok hC a ES s) h hR fun x h => seq_ok (evE_ok hC b ES s) h hR fun y h => ?_
    obtain ⟨d, h1, rfl⟩ := toR_ok h
    obtain ⟨c, h2, rfl⟩ := Option.map_eq_some_iff.mp h1
    exact cmpV_ok h2 hR
  | .cmp2 o o2 a b c, ES, s, r, h, st, R, hR => by
    simp only [evE] at h
    rw [e_cmp2]
    refine seq_ok (evE_ok hC a ES s) h hR fun x h => seq_ok (evE_ok hC b ES s) h hR fun y h => ?_
    obtain ⟨c1, h1, h⟩ := Option.bind_eq_some_iff.mp h
    refine cmpV_ok h1 ?_
    rw [brP_bl]
    split at h
    · rename_i q
      rw [if_pos q]
      refine seq_ok (evE_ok hC c ES s) h hR fun z h => ?_
      obtain ⟨d, h1, rfl⟩ := toR_ok h
      obtain ⟨c, h2, rfl⟩ := Option.map_eq_some_iff.mp h1
      exact cmpV_ok h2 hR
    · rename_i q
      rw [if_neg q]
      cases h
      exact hR
  | .and a b, ES, s, r, h, st, R, hR => by
    simp only [evE] at h
    rw [e_and]
    refine seq_ok (evE_ok hC a ES s) h hR fun x h => ?_
    split at h
    · rw [brP_bl, if_pos rfl]
      exact evE_ok hC b ES s r h st R hR
    · rw [brP_bl, if_neg Bool.false_ne_true]
      cases h
      exact hR
    · cases h
  | .or a b, ES, s, r, h, st, R, hR => by
    simp only [evE] at h
    rw [e_or]
    refine seq_ok (evE_ok hC a ES s) h hR fun x h => ?_
    split at h
    · rw [brP_bl, if_pos rfl]
      cases h
      exact hR
    · rw [brP_bl, if_neg Bool.false_ne_true]
      exact evE_ok hC b ES s r h st R hR
    · cases h
  | .not a, ES, s, r, h, st, R, hR => by
    simp only [evE] at h
    rw [e_not]
    refine seq_ok (evE_ok hC a ES s) h hR fun x h => ?_
    split at h
    · cases h
      exact hR
    · cases h
  | .ife t a b, ES, s, r, h, st, R, hR => by
    simp only [evE] at h
    rw [e_ife]
    refine seq_ok (evE_ok hC t ES s) h hR fun x h => ?_
    split at h
    · rw [t_bl, if_pos rfl]
      exact evE_ok hC a ES s r h st R hR
    · rw [t_bl, if_neg Bool.false_ne_true]
      exact evE_ok hC b ES s r h st R hR
    · cases h
  | .tup es, ES, s, r, h, st, R, hR => by
    simp only [evE] at h
    rw [e_tup]
    refine seqs_ok (evEs_ok hC es ES s) h hR fun x h => ?_
    split at h
    · cases h
      exact ⟨_, rfl, hR⟩
    · cases h
  | .lst z es, ES, s, r, h, st, R, hR => by
    simp only [evE] at h
    split at h
    · rename_i q
      subst q
      rw [e_lst]
      refine seqs_ok (evEs_ok hC es ES s) h hR fun x h => ?_
      split at h
      · cases h
        exact ⟨_, rfl, hR⟩
      · cases h
    · cases h
  | .frz e, ES, s, r, h, st, R, hR => by simp [evE] at h
  | .call f es, ES, s, r, h, st, R, hR => by
    simp only [evE] at h
    rw [e_call]
    refine seqs_ok (evEs_ok hC es ES s) h hR fun x h => ?_
    split at h
    · refine ⟨_, rfl, hC f _ r h st R _ ?_⟩
      cases r with
      | v d => exact hR
      | x e => exact hR
    · cases h
  | .bi f es, ES, s, r, h, st, R, hR => by
    simp only [evE] at h
    rw [e_bi]
    refine seqs_ok (evEs_ok hC es ES s) h hR fun x h => ?_
    split at h
    · obtain ⟨d, h1, rfl⟩ := toR_ok h
      exact ⟨_, rfl, biV_ok h1 hR⟩
    · cases h
  | .ix a b, ES, s, r, h, st, R, hR => by
    simp only [evE] at h
    rw [e_ix]
    refine seq_ok (evE_ok hC a ES s) h hR fun x h => seq_ok (evE_ok hC b ES s) h hR fun y h => ?_
    obtain ⟨d, h1, rfl⟩ := toR_ok h
    exact ixV_ok h1 hR
  | .sl z a lo hi, ES, s, r, h, st, R, hR => by
    simp only [evE] at h
    split at h
    · rename_i q
      subst q
      rw [e_sl]
      refine seq_ok (evE_ok hC a ES s) h hR fun x h => ?_
      obtain ⟨i, h1, h⟩ := Option.bind_eq_some_iff.mp h
      obtain ⟨j, h2, h⟩ := Option.bind_eq_some_iff.mp h
      refine evO_ok hC lo ES s i h1 st _ (evO_ok hC hi ES s j h2 st _ ?_)
      obtain ⟨d, h3, rfl⟩ := toR_ok h
      exact slV_ok h3 hR
    · cases h
  | .lc own t it ts el, ES, s, r, h, st, R, hR => by
    simp only [evE] at h
    rw [e_lc]
    refine seqi_ok (evI_ok hC it ES s) h hR fun x h => ?_
    split at h
    · obtain ⟨l, h1, rfl⟩ := Option.map_eq_some_iff.mp h
      refine ⟨_, rfl, lcV_ok (fun s2 b e k hk => evTs_ok hC ts XF s2 b e st k hk) (fun s2 d e k hk => evE_ok hC el XF s2 _ (valV_ok e) st k hk) _ _ _ h1 _ hR⟩
    · cases h
  | .gen m own t it ts el, ES, s, r, h, st, R, hR => by
    simp only [evE] at h
    rw [e_gen]
    refine seqi_ok (evI_ok hC it ES s) h hR fun x h => ?_
    split at h
    · obtain ⟨l, h1, rfl⟩ := toR_ok h
      refine ⟨_, rfl, genV_ok (fun s2 b e k hk => evTs_ok hC ts XF s2 b e st k hk) (fun s2 d e k hk => evE_ok hC el XF s2 _ (valV_ok e) st k hk) _ _ _ h1 _ hR⟩
    · cases h
  | .mt m o es, ES, s, r, h, st, R, hR => by simp [evE] at h
  | .lc2 own vs1 t it ts t1 it1 ts1 el, ES, s, r, h, st, R, hR => by simp [evE] at h
  | .thk t m hs e, ES, s, r, h, st, R, hR => by simp [evE] at h
  | .srk z i it el, ES, s, r, h, st, R, hR => by simp [evE] at h
  | .dnew t, ES, s, r, h, st, R, hR => by simp [evE] at h
  | .dg a b, ES, s, r, h, st, R, hR => by simp [evE] at h
  | .din n a b, ES, s, r, h, st, R, hR => by simp [evE] at h
  | .dgt a b c, ES, s, r, h, st, R, hR => by simp [evE] at h
  | .dis t es, ES, s, r, h, st, R, hR => by simp [evE] at h
  | .fzd a, ES, s, r, h, st, R, hR => by simp [evE] at h
  | .dln a, ES, s, r, h, st, R, hR => by simp [evE] at h
  | .deq n a b, ES, s, r, h, st, R, hR => by simp [evE] at h
  | .dcp a, ES, s, r, h, st, R, hR => by simp [evE] at h
  | .dpo a b, ES, s, r, h, st, R, hR => by simp [evE] at h
  | .dks z a, ES, s, r, h, st, R, hR => by simp [evE] at h
  | .mnk z i it el, ES, s, r, h, st, R, hR => by simp [evE] at h
  | .idx z a b, ES, s, r, h, st, R, hR => by simp [evE] at h
  | .trv a, ES, s, r, h, st, R, hR => by simp [evE] at h
  | .trg a b, ES, s, r, h, st, R, hR => by simp [evE] at h
  | .rp a b, ES, s, r, h, st, R, hR => by simp [evE] at h
  | .rev z a, ES, s, r, h, st, R, hR => by
    simp only [evE] at h
    split at h
    · rename_i q
      subst q
      rw [e_rev]
      refine seq_ok (evE_ok hC a ES s) h hR fun x h => ?_
      split at h
      · cases h
        exact hR
      · cases h
    · cases h
  | .lrg1 z a, ES, s, r, h, st, R, hR => by
    simp only [evE] at h
    split at h
    · rename_i q
      subst q
      rw [e_lrg1]
      refine seq_ok (evE_ok hC a ES s) h hR fun x h => ?_
      obtain ⟨l, h1, rfl⟩ := Option.map_eq_some_iff.mp h
      exact rngV_ok h1 hR
    · cases h
  | .lrg2 z a b, ES, s, r, h, st, R, hR => by
    simp only [evE] at h
    split at h
    · rename_i q
      subst q
      rw [e_lrg2]
      refine seq_ok (evE_ok hC a ES s) h hR fun x h => seq_ok (evE_ok hC b ES s) h hR fun y h => ?_
      obtain ⟨l, h1, rfl⟩ := Option.map_eq_some_iff.mp h
      exact rngV_ok h1 hR
    · cases h
theorem evO_ok (hC : EvOk C V) : ∀ (i : IEs) (ES : XS) (s : DSt) (b : Option Int), evO V i s = some b → ∀ (st : Sto) (k : Option Int → Sto → Prop), k b st → wpO C ES i s st k
  | .nil, ES, s, b, h, st, k, hk => by
    simp only [evO] at h
    cases h
    rw [o_nil]
    exact hk
  | .cons a .nil, ES, s, b, h, st, k, hk => by
    simp only [evO] at h
    split at h
    · rename_i i e
      cases h
      rw [o_one]
      exact evE_ok hC a ES s _ (valV_ok e) st _ hk
    · cases h
  | .cons a (.cons c d), ES, s, b, h, st, k, hk => by simp [evO] at h
theorem evEs_ok (hC : EvOk C V) : ∀ (i : IEs) (ES : XS) (s : DSt) (r : Rs), evEs V i s = some r → ∀ st R, (match r with | .v d => ∃ ds, d = .tup ds ∧ R ds st | .x e => ES e s st) → wpEs C ES i s st R
  | .nil, ES, s, r, h, st, R, hR => by
    simp only [evEs] at h
    cases h
    obtain ⟨ds, e, hR⟩ := hR
    cases e
    simp only [wpEs]
    exact hR
  | .cons a b, ES, s, r, h, st, R, hR => by
    simp only [evEs] at h
    simp only [wpEs]
    rcases bind_v h with ⟨d, e, h⟩ | ⟨e, h1, rfl⟩
    · refine evE_ok hC a ES s _ e st _ ?_
      rcases bind_v h with ⟨d2, e2, h⟩ | ⟨e2, h2, rfl⟩
      · refine evEs_ok hC b ES s _ e2 st _ ?_
        split at h
        · rename_i ds
          cases h
          obtain ⟨ds2, e3, hR⟩ := hR
          cases e3
          exact ⟨ds, rfl, hR⟩
        · cases h
      · exact evEs_ok hC b ES s _ h2 st _ hR
    · exact evE_ok hC a ES s _ h1 st _ hR
theorem evTs_ok (hC : EvOk C V) : ∀ (i : IEs) (ES : XS) (s : DSt) (b : Bool), evTs V i s = some b → ∀ (st : Sto) (k : Bool → Sto → Prop), k b st → wpTs C ES i s st k
  | .nil, ES, s, b, h, st, k, hk => by
    simp only [evTs] at h
    cases h
    rw [ts_nil]
    exact hk
  | .cons a .nil, ES, s, b, h, st, k, hk => by
    simp only [evTs] at h
    rw [ts_one]
    exact evE_ok hC a ES s _ (valV_ok (blV_ok h)) st _ hk
  | .cons a (.cons c d), ES, s, b, h, st, k, hk => by simp [evTs] at h
theorem evI_ok (hC : EvOk C V) : ∀ (i : II) (ES : XS) (s : DSt) (r : Rs), evI V i s = some r → ∀ st R, (match r with | .v d => ∃ ds, d = .fl ds ∧ R ⟨ds, none⟩ st | .x e => ES e s st) → wpI C ES i s st R
  | .val a, ES, s, r, h, st, R, hR => by
    simp only [evI] at h
    simp only [wpI]
    rcases bind_v h with ⟨d, e, h⟩ | ⟨e, h1, rfl⟩
    · refine evE_ok hC a ES s _ e st _ ?_
      obtain ⟨l, h1, rfl⟩ := Option.map_eq_some_iff.mp h
      obtain ⟨ds, e3, hR⟩ := hR
      cases e3
      exact iterV_ok h1 hR
    · exact evE_ok hC a ES s _ h1 st _ hR
  | .rng1 a, ES, s, r, h, st, R, hR => by
    simp only [evI] at h
    simp only [wpI]
    rcases bind_v h with ⟨d, e, h⟩ | ⟨e, h1, rfl⟩
    · refine evE_ok hC a ES s _ e st _ ?_
      obtain ⟨l, h1, rfl⟩ := Option.map_eq_some_iff.mp h
      obtain ⟨ds, e3, hR⟩ := hR
      cases e3
      exact rngV_ok h1 hR
    · exact evE_ok hC a ES s _ h1 st _ hR
  | .rng2 a b, ES, s, r, h, st, R, hR => by
    simp only [evI] at h
    simp only [wpI]
    rcases bind_v h with ⟨d, e, h⟩ | ⟨e, h1, rfl⟩
    · refine evE_ok hC a ES s _ e st _ ?_
      rcases bind_v h with ⟨d2, e2, h⟩ | ⟨e2, h2, rfl⟩
      · refine evE_ok hC b ES s _ e2 st _ ?_
        obtain ⟨l, h1, rfl⟩ := Option.map_eq_some_iff.mp h
        obtain ⟨ds, e3, hR⟩ := hR
        cases e3
        exact rngV_ok h1 hR
      · exact evE_ok hC b ES s _ h2 st _ hR
    · exact evE_ok hC a ES s _ h1 st _ hR
  | .enm a, ES, s, r, h, st, R, hR => by
    simp only [evI] at h
    simp only [wpI]
    rcases bind_v h with ⟨d, e, h⟩ | ⟨e, h1, rfl⟩
    · refine evE_ok hC a ES s _ e st _ ?_
      obtain ⟨l, h1, rfl⟩ := Option.map_eq_some_iff.mp h
      obtain ⟨ds, e3, hR⟩ := hR
      cases e3
      exact enmV_ok h1 hR
    · exact evE_ok hC a ES s _ h1 st _ hR
  | .zip a b, ES, s, r, h, st, R, hR => by
    simp only [evI] at h
    simp only [wpI]
    rcases bind_v h with ⟨d, e, h⟩ | ⟨e, h1, rfl⟩
    · refine evE_ok hC a ES s _ e st _ ?_
      rcases bind_v h with ⟨d2, e2, h⟩ | ⟨e2, h2, rfl⟩
      · refine evE_ok hC b ES s _ e2 st _ ?_
        split at h
        · cases h
          obtain ⟨ds, e3, hR⟩ := hR
          cases e3
          exact hR
        · cases h
          obtain ⟨ds, e3, hR⟩ := hR
          cases e3
          exact hR
        · cases h
      · exact evE_ok hC b ES s _ h2 st _ hR
    · exact evE_ok hC a ES s _ h1 st _ hR
  | .rngd a b c, ES, s, r, h, st, R, hR => by simp [evI] at h
  | .rvd a, ES, s, r, h, st, R, hR => by simp [evI] at h
end
end
/-! statements -/
inductive Ot where
  | nx (s : DSt) | rt (d : D) | bk (s : DSt) | ct (s : DSt) | ex (x : Exc) (s : DSt)
def Ot.ok (o : Ot) (st : Sto) (ES : XS) (K : DEnds) : Prop := match o with
  | .nx s => K.nx s st
  | .rt d => K.rt d st
  | .bk s => K.bk s st
  | .ct s => K.ct s st
  | .ex x s => ES x s st
/-- an expression's value goes on; an error leaves -/
def onV (r : Option Rs) (s : DSt) (k : D → Option Ot) : Option Ot := match r with
  | some (.v d) => k d
  | some (.x e) => some (.ex e s)
  | none => none
def frV (body : DSt → Option Ot) (t : Tg) : List D → DSt → Option Ot
  | [], s => some (.nx s)
  | d :: r, s => (asgV t d s).bind fun s2 => match body s2 with
    | some (.nx s3) => frV body t r s3
    | some (.ct s3) => frV body t r s3
    | some (.bk s3) => some (.nx s3)
    | o => o
def whV (c : DSt → Option Rs) (body : DSt → Option Ot) : Nat → DSt → Option Ot
  | 0, _ => none
  | n + 1, s => onV (c s) s fun x => match x with
    | .bl true => (match body s with
      | some (.nx s3) => whV c body n s3
      | some (.ct s3) => whV c body n s3
      | some (.bk s3) => some (.nx s3)
      | o => o)
    | .bl false => some (.nx s)
    | _ => none
def Ot.unset (i : Option Nat) : Ot → Ot
  | .nx s => .nx (unsetO s i) | .bk s => .bk (unsetO s i) | .ct s => .ct (unsetO s i) | o => o
mutual
def evS (C : Ev) : IS → DSt → Option Ot
  | .ex e, s => onV (evE C e s) s fun _ => some (.nx s)
  | .set t e, s => onV (evE C e s) s fun x => (asgV t x s).map .nx
  | .par i j a b, s => onV (evE C a s) s fun x => onV (evE C b s) s fun y => some (.nx ((s.set i (some x)).set j (some y)))
  | .par3 i j l a b c, s => onV (evE C a s) s fun x => onV (evE C b s) s fun y => onV (evE C c s) s fun w => some (.nx (((s.set i (some x)).set j (some y)).set l (some w)))
  | .ifs t a b, s => onV (evE C t s) s fun x => match x with
    | .bl true => evSs C a s
    | .bl false => evSs C b s
    | _ => none
  | .whl t b, s => whV (fun s => evE C t s) (fun s => evSs C b s) 1000 s
  | .fr t it b, s => onV (evI C it s) s fun x => match x with
    | .fl items => frV (fun s => evSs C b s) t items s
    | _ => none
  | .ret e, s => onV (evE C e s) s fun x => some (.rt x)
  | .retN, _ => some (.rt .non)
  | .pass, s => some (.nx s)
  | .brk, s => some (.bk s)
  | .cont, s => some (.ct s)
  | .rs c es, s => onV (evEs C es s) s fun x => match x with
    | .tup ds => some (.ex ⟨c, ds.head?⟩ s)
    | _ => none
  | .tr b h, s => match evSs C b s with
    | some (.ex x s2) => evH C h x s2
    | o => o
  | _, _ => none
def evSs (C : Ev) : ISs → DSt → Option Ot
  | .nil, s => some (.nx s)
  | .cons a r, s => match evS C a s with
    | some (.nx s2) => evSs C r s2
    | o => o
def evH (C : Ev) : IHs → Exc → DSt → Option Ot
  | .nil, x, s => some (.ex x s)
  | .cons _ cs i b r, x, s => if cs.contains x.cls = true then (match evSs C b (unsetO s i) with
      | some (.ex _ _) => none
      | o => o.map (Ot.unset i)) else evH C r x s
  | .cx _ _ _ _ _ _ _, _, _ => none
end
section
variable {C : Cl} {V : Ev}
theorem onV_ok {ES : XS} {a : IE} {s : DSt} (hC : EvOk C V) {k : D → Option Ot} {q : Ot} {st : Sto} {K : DEnds} {R2 : D → Sto → Prop} (h : onV (evE V a s) s k = some q) (hq : q.ok st ES K) (hk : ∀ x, k x = some q → R2 x st) : wpE C ES a s st R2 := by
  unfold onV at h
  split at h
  · rename_i d e
    exact evE_ok hC a ES s _ e st R2 (hk d h)
  · rename_i e1 e
    cases h
    exact evE_ok hC a ES s _ e st R2 hq
  · cases h
theorem frV_ok {body : DSt → Option Ot} {wb : DSt → Sto → DEnds → Prop} {t : Tg} {st : Sto} {ES : XS} {l : List D} (hb : ∀ s o, body s = some o → ∀ K : DEnds, o.ok st ES K → wb s st K) : ∀ (ds : List D) (s : DSt) (o : Ot), frV body t ds s = some o → ∀ K : DEnds, o.ok st ES K → forL wb t ⟨l, none⟩ ds s st K
  | [], s, o, h, K, hK => by
    simp only [frV] at h
    cases h
    exact ⟨trivial, hK⟩
  | d :: r, s, o, h, K, hK => by
    simp only [frV] at h
    obtain ⟨s2, h1, h⟩ := Option.bind_eq_some_iff.mp h
    refine ⟨trivial, asgV_ok t d s s2 h1 _ ?_⟩
    split at h
    · rename_i s3 e
      exact hb s2 _ e _ (frV_ok hb r s3 o h K hK)
    · rename_i s3 e
      exact hb s2 _ e _ (frV_ok hb r s3 o h K hK)
    · rename_i s3 e
      cases h
      exact hb s2 _ e _ hK
    · rename_i n1 n2 n3
      refine hb s2 o h _ ?_
      cases o with
      | nx s => exact absurd h (n1 s)
      | ct s => exact absurd h (n2 s)
      | bk s => exact absurd h (n3 s)
      | rt d => exact hK
      | ex x s => exact hK
theorem whV_ok (hC : EvOk C V) {body : DSt → Option Ot} {wb : DSt → Sto → DEnds → Prop} {c : IE} {st : Sto} {ES : XS} (hb : ∀ s o, body s = some o → ∀ K : DEnds, o.ok st ES K → wb s st K) : ∀ (n : Nat) (s : DSt) (o : Ot), whV (fun s => evE V c s) body n s = some o → ∀ K : DEnds, o.ok st ES K → whN (wpT C ES c) wb n s st K
  | 0, s, o, h, K, hK => by simp [whV] at h
  | n + 1, s, o, h, K, hK => by
    simp only [whV] at h
    show wpT C ES c s st _
    show wpE C ES c s st fun x st1 => truP x st1 fun b => if b = true then wb s st1 { K with nx := fun s st => whN (wpT C ES c) wb n s st K, ct := fun s st => whN (wpT C ES c) wb n s st K, bk := K.nx } else K.nx s st1
    refine onV_ok hC h hK fun x h => ?_
    split at h
    · rw [t_bl, if_pos rfl]
      split at h
      · rename_i s3 e
        exact hb s _ e _ (whV_ok hC hb n s3 o h K hK)
      · rename_i s3 e
        exact hb s _ e _ (whV_ok hC hb n s3 o h K hK)
      · rename_i s3 e
        cases h
        exact hb s _ e _ hK
      · rename_i n1 n2 n3
        refine hb s o h _ ?_
        cases o with
        | nx s => exact absurd h (n1 s)
        | ct s => exact absurd h (n2 s)
        | bk s => exact absurd h (n3 s)
        | rt d => exact hK
        | ex x s => exact hK
    · rw [t_bl, if_neg Bool.false_ne_true]
      cases h
      exact hK
    · cases h
mutual
theorem evS_ok (hC : EvOk C V) : ∀ (i : IS) (ES : XS) (s : DSt) (o : Ot), evS V i s = some o → ∀ st K, o.ok st ES K → wpS C ES i s st K
  | .ex e, ES, s, o, h, st, K, hK => by
    simp only [evS] at h
    simp only [wpS]
    refine onV_ok hC h hK fun x h => ?_
    cases h
    exact hK
  | .set t e, ES, s, o, h, st, K, hK => by
    simp only [evS] at h
    simp only [wpS]
    refine onV_ok hC h hK fun x h => ?_
    obtain ⟨s2, h1, rfl⟩ := Option.map_eq_some_iff.mp h
    exact asgV_ok t x s s2 h1 _ hK
  | .par i j a b, ES, s, o, h, st, K, hK => by
    simp only [evS] at h
    simp only [wpS]
    refine onV_ok hC h hK fun x h => onV_ok hC h hK fun y h => ?_
    cases h
    exact hK
  | .par3 i j l a b c, ES, s, o, h, st, K, hK => by
    simp only [evS] at h
    simp only [wpS]
    refine onV_ok hC h hK fun x h => onV_ok hC h hK fun y h => onV_ok hC h hK fun w h => ?_
    cases h
    exact hK
  | .setIx a b c, ES, s, o, h, st, K, hK => by simp [evS] at h
  | .aug i p e, ES, s, o, h, st, K, hK => by simp [evS] at h
  | .ifs t a b, ES, s, o, h, st, K, hK => by
    simp only [evS] at h
    simp only [wpS, wpT]
    refine onV_ok hC h hK fun x h => ?_
    split at h
    · rw [t_bl, if_pos rfl]
      exact evSs_ok hC a ES s o h st K hK
    · rw [t_bl, if_neg Bool.false_ne_true]
      exact evSs_ok hC b ES s o h st K hK
    · cases h
  | .whl t b, ES, s, o, h, st, K, hK => by
    simp only [evS] at h
    simp only [wpS]
    exact ⟨1000, whV_ok hC (fun s o e K hK => evSs_ok hC b ES s o e st K hK) 1000 s o h K hK⟩
  | .fr t it b, ES, s, o, h, st, K, hK => by
    simp only [evS] at h
    simp only [wpS]
    unfold onV at h
    split at h
    · rename_i d e
      refine evI_ok hC it ES s _ e st _ ?_
      dsimp only at h
      split at h
      · exact ⟨_, rfl, frV_ok (fun s o e K hK => evSs_ok hC b ES s o e st K hK) _ s o h K hK⟩
      · cases h
    · rename_i e1 e
      cases h
      exact evI_ok hC it ES s _ e st _ hK
    · cases h
  | .ret e, ES, s, o, h, st, K, hK => by
    simp only [evS] at h
    simp only [wpS]
    refine onV_ok hC h hK fun x h => ?_
    cases h
    exact hK
  | .retN, ES, s, o, h, st, K, hK => by
    simp only [evS] at h
    simp only [wpS]
    cases h
    exact hK
  | .pass, ES, s, o, h, st, K, hK => by
    simp only [evS] at h
    simp only [wpS]
    cases h
    exact hK
  | .brk, ES, s, o, h, st, K, hK => by
    simp only [evS] at h
    simp only [wpS]
    cases h
    exact hK
  | .cont, ES, s, o, h, st, K, hK => by
    simp only [evS] at h
    simp only [wpS]
    cases h
    exact hK
  | .nope, ES, s, o, h, st, K, hK => by simp [evS] at h
  | .gh i, ES, s, o, h, st, K, hK => by simp [evS] at h
  | .rs c es, ES, s, o, h, st, K, hK => by
    simp only [evS] at h
    simp only [wpS]
    unfold onV at h
    split at h
    · rename_i d e
      refine evEs_ok hC es ES s _ e st _ ?_
      dsimp only at h
      split at h
      · cases h
        exact ⟨_, rfl, hK⟩
      · cases h
    · rename_i e1 e
      cases h
      exact evEs_ok hC es ES s _ e st _ hK
    · cases h
  | .tr b h, ES, s, o, q, st, K, hK => by
    simp only [evS] at q
    simp only [wpS]
    split at q
    · rename_i x s2 e
      exact evSs_ok hC b _ s _ e st K (evH_ok hC h ES x s2 o q st K hK)
    · rename_i n1
      refine evSs_ok hC b _ s o q st K ?_
      cases o with
      | ex x s => exact absurd q (n1 x s)
      | nx s => exact hK
      | bk s => exact hK
      | ct s => exact hK
      | rt d => exact hK
theorem evSs_ok (hC : EvOk C V) : ∀ (i : ISs) (ES : XS) (s : DSt) (o : Ot), evSs V i s = some o → ∀ st K, o.ok st ES K → wpSs C ES i s st K
  | .nil, ES, s, o, h, st, K, hK => by
    simp only [evSs] at h
    simp only [wpSs]
    cases h
    exact hK
  | .cons a r, ES, s, o, h, st, K, hK => by
    simp only [evSs] at h
    simp only [wpSs]
    split at h
    · rename_i s2 e
      exact evS_ok hC a ES s _ e st _ (evSs_ok hC r ES s2 o h st K hK)
    · rename_i n1
      refine evS_ok hC a ES s o h st _ ?_
      cases o with
      | nx s => exact absurd h (n1 s)
      | ex x s => exact hK
      | bk s => exact hK
      | ct s => exact hK
      | rt d => exact hK
theorem evH_ok (hC : EvOk C V) : ∀ (i : IHs) (ES : XS) (x : Exc) (s : DSt) (o : Ot), evH V i x s = some o → ∀ st K, o.ok st ES K → wpH C ES i x s st K
  | .cx c cs i m t f b, ES, x, s, o, h, st, K, hK => by simp [evH] at h
  | .nil, ES, x, s, o, h, st, K, hK => by
    simp only [evH] at h
    simp only [wpH]
    cases h
    exact hK
  | .cons c cs i b r, ES, x, s, o, h, st, K, hK => by
    simp only [evH] at h
    simp only [wpH]
    split at h
    · rename_i q
      rw [if_pos q]
      split at h
      · cases h
      · rename_i n1
        obtain ⟨o2, e2, rfl⟩ := Option.map_eq_some_iff.mp h
        refine evSs_ok hC b _ _ o2 e2 st _ ?_
        cases o2 with
        | ex x s => exact absurd e2 (n1 x s)
        | nx s => exact hK
        | bk s => exact hK
        | ct s => exact hK
        | rt d => exact hK
    · rename_i q
      rw [if_neg q]
      exact evH_ok hC r ES x s o h st K hK
end
end
def fnV (P : List FnD) : Nat → Ev
  | 0, _, _ => none
  | n + 1, f, ds => match P[f]? with
    | none => none
    | some d => if ds.length = d.np then (match evSs (fnV P n) d.body (dstart d.ns ds) with
        | some (.nx _) => some (.v .non)
        | some (.rt x) => some (.v x)
        | some (.ex x _) => some (.x x)
        | _ => none) else none
theorem fnV_ok (P : List FnD) : ∀ n, EvOk (wpFn P n) (fnV P n)
  | 0 => fun f ds r h => by simp [fnV] at h
  | n + 1 => fun f ds r h st R E hr => by
    simp only [fnV] at h
    split at h
    · cases h
    · rename_i d e
      split at h
      · rename_i hl
        refine ⟨d, e, hl, ?_⟩
        split at h
        · rename_i s2 q
          cases h
          exact evSs_ok (fnV_ok P n) d.body _ _ _ q st _ (fg0 hr)
        · rename_i x q
          cases h
          exact evSs_ok (fnV_ok P n) d.body _ _ _ q st _ (fg0 hr)
        · rename_i x s2 q
          cases h
          exact evSs_ok (fnV_ok P n) d.body _ _ _ q st _ ⟨st, Sub.refl _, hr⟩
        · cases h
      · cases h
/-- a call that the kernel reckons -/
theorem run_v {P : List FnD} {n f : Nat} {ds : List D} {d : D} {st : Sto} {R : D → Sto → Prop} {E : Exc → Sto → Prop} (h : fnV P n f ds = some (.v d)) (hR : R d st) : wpFn P n f ds st R E := fnV_ok P n f ds _ h st R E hR
theorem run_x {P : List FnD} {n f : Nat} {ds : List D} {x : Exc} {st : Sto} {R : D → Sto → Prop} {E : Exc → Sto → Prop} (h : fnV P n f ds = some (.x x)) (hE : E x st) : wpFn P n f ds st R E := fnV_ok P n f ds _ h st R E hE
end Fy

local macro_rules | `(tactic| walk_at "fy") => `(tactic| simp only [Fy.dstart, List.map_cons, List.map_nil, List.length_cons, List.length_nil, Nat.reduceAdd, Nat.reduceSub, List.replicate_succ, List.replicate_zero, List.cons_append, List.nil_append, List.append_nil, Fy.wpSs, Fy.wpS, Fy.wpT, Fy.wpEs, Fy.e_and, Fy.e_or, Fy.e_not, Fy.e_neg, Fy.e_cmp2, Fy.e_var, Fy.e_int, Fy.e_bl, Fy.e_non, Fy.e_str, Fy.e_bin, Fy.e_cmp, Fy.e_ife, Fy.e_tup, Fy.e_lst, Fy.e_frz, Fy.e_call, Fy.e_bi, Fy.e_ix, Fy.e_sl, Fy.e_lc, Fy.ex_ix, Fy.ex_sx, Fy.ex_get, Fy.put_same, Fy.put_put, Fy.wpI, Fy.o_int, Fy.o_nil, Fy.o_one, Fy.ts_nil, Fy.ts_one, Fy.a_nm, Fy.a_tp, Fy.a_tf, Fy.a_nil, Fy.a_cons, List.set_cons_zero, List.set_cons_succ, Fy.getP_0, Fy.getP_S, Fy.brP_bl, Fy.notP_bl, Fy.negP_int, Fy.sl_s, Fy.bi_add, Fy.bi_sub, Fy.bi_mul, Fy.bi_fdiv, Fy.bi_mod, Fy.b_str, Fy.b_tup, Fy.b_ff, Fy.e_mt, Fy.e_lc2, Fy.e_rev, Fy.e_rp, Fy.b_rp, Fy.e_thk, Fy.e_srk, Fy.e_dnew, Fy.e_dg, Fy.e_din, Fy.e_dgt, Fy.e_mnk, Fy.wpC, Fy.h_ret, Fy.h_drop, Fy.gz_r, Fy.en_t, Fy.en_f, Fy.zp_t, Fy.zp_f, Fy.i_max1, Fy.i_min1, Fy.i_sum1, Fy.b_rep, Fy.b_repT, Fy.c_isb, Fy.c_isnotb, Fy.e_lrg1, Fy.e_lrg2, Fy.b_add, Fy.b_sub, Fy.b_mul, Fy.b_fdiv, Fy.b_mod, Fy.b_pow, Fy.c_lt, Fy.c_le, Fy.c_gt, Fy.c_ge, Fy.c_eq, Fy.c_ne, Fy.c_is, Fy.c_isnot, Fy.q_int, Fy.q_bl, Fy.q_str, Fy.n_non, Fy.n_tup, Fy.n_int, Fy.n_ref, Fy.n_fl, Fy.n_str, Fy.n_bl, Fy.t_bl, Fy.l_t, Fy.l_f, Fy.i_abs, Fy.i_len, Fy.i_int, Fy.i_bl, Fy.i_max, Fy.i_min, Fy.ln_t, Fy.ln_f, Fy.ix_t, Fy.ix_f, Fy.ix_r, Fy.sx_r, Fy.at_0, Fy.at_1, Fy.at_2, Fy.at_3, Fy.at_4, Fy.at_5, Fy.at_6, Fy.at_7, Fy.ixn_0, Fy.ixn_1, Fy.ixn_2, Fy.ixn_3, Fy.ixn_4, Fy.ixn_5, Fy.ixn_6, Fy.ixn_7, Fy.it_t, Fy.it_f, Fy.it_r, Fy.rg_t, Fy.prD, Fy.sl_f, Fy.sl_r, Fy.dw_n, Fy.dw_c, Fy.e_gen, Fy.e_con, Fy.e_cty, Fy.kd_int, Fy.kd_str, Fy.i_isi, Fy.i_tuple, Fy.i_list, Fy.i_sorted, Fy.y_non, Fy.y_bl, Fy.y_int, Fy.y_str, Fy.y_tup, Fy.y_fl, Fy.m_t, Fy.m_f, Fy.w_f, Fy.c_in, Fy.c_notin, Fy.ln_s, Fy.it_s, Fy.sl_t, Fy.kn_1, Fy.kn_2, Fy.kn_3, Fy.kn_4, Fy.kn_5, Fy.kn_6, Fy.sb_1, Fy.sb_2, Fy.sb_3, Fy.sb_4, Fy.sb_5, Fy.sb_6, Fy.sb_7, Fy.sb_8, Fy.sb_9, Fy.sb_10, Fy.sb_11, Fy.sb_12, Fy.sb_13, Fy.sb_14, Fy.sb_15, Fy.sb_16, true_and, Fy.ex_some, decide_eq_true_eq, Bool.not_eq_true', decide_eq_false_iff_not, if_true, if_false, Bool.false_eq_true, Bool.true_eq_false, Bool.not_true, Bool.not_false, not_true_eq_false, not_false_eq_true, decide_true, decide_false])
local macro_rules | `(tactic| walk_at "fys") => do
  let h := Lean.mkIdent `hst
  `(tactic| simp only [Fy.dstart, List.map_cons, List.map_nil, List.length_cons, List.length_nil, Nat.reduceAdd, Nat.reduceSub, List.replicate_succ, List.replicate_zero, List.cons_append, List.nil_append, List.append_nil, Fy.wpSs, Fy.wpS, Fy.wpT, Fy.wpEs, Fy.e_and, Fy.e_or, Fy.e_not, Fy.e_neg, Fy.e_cmp2, Fy.e_var, Fy.e_int, Fy.e_bl, Fy.e_non, Fy.e_str, Fy.e_bin, Fy.e_cmp, Fy.e_ife, Fy.e_tup, Fy.e_lst, Fy.e_frz, Fy.e_call, Fy.e_bi, Fy.e_ix, Fy.e_sl, Fy.e_lc, Fy.ex_ix, Fy.ex_sx, Fy.ex_get, Fy.put_same, Fy.put_put, Fy.wpI, Fy.o_int, Fy.o_nil, Fy.o_one, Fy.ts_nil, Fy.ts_one, Fy.a_nm, Fy.a_tp, Fy.a_tf, Fy.a_nil, Fy.a_cons, List.set_cons_zero, List.set_cons_succ, Fy.getP_0, Fy.getP_S, Fy.brP_bl, Fy.notP_bl, Fy.negP_int, Fy.sl_s, Fy.bi_add, Fy.bi_sub, Fy.bi_mul, Fy.bi_fdiv, Fy.bi_mod, Fy.b_str, Fy.b_tup, Fy.b_ff, Fy.e_mt, Fy.e_lc2, Fy.e_rev, Fy.e_rp, Fy.b_rp, Fy.e_thk, Fy.e_srk, Fy.e_dnew, Fy.e_dg, Fy.e_din, Fy.e_dgt, Fy.e_mnk, Fy.wpC, Fy.h_ret, Fy.h_drop, Fy.gz_r, Fy.en_t, Fy.en_f, Fy.zp_t, Fy.zp_f, Fy.i_max1, Fy.i_min1, Fy.i_sum1, Fy.b_rep, Fy.b_repT, Fy.c_isb, Fy.c_isnotb, Fy.e_lrg1, Fy.e_lrg2, Fy.b_add, Fy.b_sub, Fy.b_mul, Fy.b_fdiv, Fy.b_mod, Fy.b_pow, Fy.c_lt, Fy.c_le, Fy.c_gt, Fy.c_ge, Fy.c_eq, Fy.c_ne, Fy.c_is, Fy.c_isnot, Fy.q_int, Fy.q_bl, Fy.q_str, Fy.n_non, Fy.n_tup, Fy.n_int, Fy.n_ref, Fy.n_fl, Fy.n_str, Fy.n_bl, Fy.t_bl, Fy.l_t, Fy.l_f, Fy.i_abs, Fy.i_len, Fy.i_int, Fy.i_bl, Fy.i_max, Fy.i_min, Fy.ln_t, Fy.ln_f, Fy.ix_t, Fy.ix_f, Fy.ix_r, Fy.sx_r, Fy.at_0, Fy.at_1, Fy.at_2, Fy.at_3, Fy.at_4, Fy.at_5, Fy.at_6, Fy.at_7, Fy.ixn_0, Fy.ixn_1, Fy.ixn_2, Fy.ixn_3, Fy.ixn_4, Fy.ixn_5, Fy.ixn_6, Fy.ixn_7, Fy.it_t, Fy.it_f, Fy.it_r, Fy.rg_t, Fy.prD, Fy.sl_f, Fy.sl_r, Fy.dw_n, Fy.dw_c, Fy.e_gen, Fy.e_con, Fy.e_cty, Fy.kd_int, Fy.kd_str, Fy.i_isi, Fy.i_tuple, Fy.i_list, Fy.i_sorted, Fy.y_non, Fy.y_bl, Fy.y_int, Fy.y_str, Fy.y_tup, Fy.y_fl, Fy.m_t, Fy.m_f, Fy.w_f, Fy.c_in, Fy.c_notin, Fy.ln_s, Fy.it_s, Fy.sl_t, Fy.kn_1, Fy.kn_2, Fy.kn_3, Fy.kn_4, Fy.kn_5, Fy.kn_6, Fy.sb_1, Fy.sb_2, Fy.sb_3, Fy.sb_4, Fy.sb_5, Fy.sb_6, Fy.sb_7, Fy.sb_8, Fy.sb_9, Fy.sb_10, Fy.sb_11, Fy.sb_12, Fy.sb_13, Fy.sb_14, Fy.sb_15, Fy.sb_16, true_and, Fy.ex_some, decide_eq_true_eq, Bool.not_eq_true', decide_eq_false_iff_not, if_true, if_false, Bool.false_eq_true, Bool.true_eq_false, Bool.not_true, Bool.not_false, not_true_eq_false, not_false_eq_true, decide_true, decide_false, $h:ident])
local macro_rules | `(tactic| walk_at "fyc") => `(tactic| simp only [Fy.dstart, List.map_cons, List.map_nil, List.length_cons, List.length_nil, Nat.reduceAdd, Nat.reduceSub, List.replicate_succ, List.replicate_zero, List.cons_append, List.nil_append, List.append_nil, Fy.wpSs, Fy.wpS, Fy.wpT, Fy.wpEs, Fy.e_and, Fy.e_or, Fy.e_not, Fy.e_neg, Fy.e_cmp2, Fy.e_var, Fy.e_int, Fy.e_bl, Fy.e_non, Fy.e_str, Fy.e_bin, Fy.e_cmp, Fy.e_ife, Fy.e_tup, Fy.e_lst, Fy.e_frz, Fy.e_call, Fy.e_bi, Fy.e_ix, Fy.e_sl, Fy.e_lc, Fy.ex_ix, Fy.ex_sx, Fy.ex_get, Fy.put_same, Fy.put_put, Fy.wpI, Fy.o_int, Fy.o_nil, Fy.o_one, Fy.ts_nil, Fy.ts_one, Fy.a_nm, Fy.a_tp, Fy.a_tf, Fy.a_nil, Fy.a_cons, List.set_cons_zero, List.set_cons_succ, Fy.getP_0, Fy.getP_S, Fy.brP_bl, Fy.notP_bl, Fy.negP_int, Fy.sl_s, Fy.bi_add, Fy.bi_sub, Fy.bi_mul, Fy.bi_fdiv, Fy.bi_mod, Fy.b_str, Fy.b_tup, Fy.b_ff, Fy.e_mt, Fy.e_lc2, Fy.e_rev, Fy.e_rp, Fy.b_rp, Fy.e_thk, Fy.e_srk, Fy.e_dnew, Fy.e_dg, Fy.e_din, Fy.e_dgt, Fy.e_mnk, Fy.wpC, Fy.h_ret, Fy.h_drop, Fy.gz_r, Fy.en_t, Fy.en_f, Fy.zp_t, Fy.zp_f, Fy.i_max1, Fy.i_min1, Fy.i_sum1, Fy.b_rep, Fy.b_repT, Fy.c_isb, Fy.c_isnotb, Fy.e_lrg1, Fy.e_lrg2, Fy.b_add, Fy.b_sub, Fy.b_mul, Fy.b_fdiv, Fy.b_mod, Fy.b_pow, Fy.c_lt, Fy.c_le, Fy.c_gt, Fy.c_ge, Fy.c_eq, Fy.c_ne, Fy.c_is, Fy.c_isnot, Fy.q_int, Fy.q_bl, Fy.q_str, Fy.n_non, Fy.n_tup, Fy.n_int, Fy.n_ref, Fy.n_fl, Fy.n_str, Fy.n_bl, Fy.t_bl, Fy.l_t, Fy.l_f, Fy.i_abs, Fy.i_len, Fy.i_int, Fy.i_bl, Fy.i_max, Fy.i_min, Fy.ln_t, Fy.ln_f, Fy.ix_t, Fy.ix_f, Fy.ix_r, Fy.sx_r, Fy.at_0, Fy.at_1, Fy.at_2, Fy.at_3, Fy.at_4, Fy.at_5, Fy.at_6, Fy.at_7, Fy.ixn_0, Fy.ixn_1, Fy.ixn_2, Fy.ixn_3, Fy.ixn_4, Fy.ixn_5, Fy.ixn_6, Fy.ixn_7, Fy.it_t, Fy.it_f, Fy.it_r, Fy.rg_t, Fy.prD, Fy.sl_f, Fy.sl_r, Fy.dw_n, Fy.dw_c, Fy.e_gen, Fy.e_con, Fy.e_cty, Fy.kd_int, Fy.kd_str, Fy.i_isi, Fy.i_tuple, Fy.i_list, Fy.i_sorted, Fy.y_non, Fy.y_bl, Fy.y_int, Fy.y_str, Fy.y_tup, Fy.y_fl, Fy.m_t, Fy.m_f, Fy.w_f, Fy.c_in, Fy.c_notin, Fy.ln_s, Fy.it_s, Fy.sl_t, Fy.kn_1, Fy.kn_2, Fy.kn_3, Fy.kn_4, Fy.kn_5, Fy.kn_6, Fy.sb_1, Fy.sb_2, Fy.sb_3, Fy.sb_4, Fy.sb_5, Fy.sb_6, Fy.sb_7, Fy.sb_8, Fy.sb_9, Fy.sb_10, Fy.sb_11, Fy.sb_12, Fy.sb_13, Fy.sb_14, Fy.sb_15, Fy.sb_16, true_and, Fy.ex_some, decide_eq_true_eq, Bool.not_eq_true', decide_eq_false_iff_not, if_true, if_false, Bool.false_eq_true, Bool.true_eq_false, Bool.not_true, Bool.not_false, not_true_eq_false, not_false_eq_true, decide_true, decide_false, Fy.forL, Fy.genL, Fy.gs_1, Fy.gs_2, Fy.gs_3, Fy.gs_4, Fy.gs_5, Fy.gs_6, Fy.ge_1, Fy.ge_2, Fy.ge_3, Fy.lcL, Fy.Src.ok, Fy.b_ff, List.all_cons, List.all_nil, List.any_cons, List.any_nil, Int.reduceLT, Int.reduceLE, Int.reduceEq, Int.reduceNeg, Int.reduceAdd, Int.reduceSub, Int.reduceMul, Int.reduceMod, Int.reduceDiv, Int.reduceToNat, Int.natCast_one, Int.natCast_zero, Int.cast_ofNat_Int, Int.neg_neg, and_self, and_true, or_true, or_false, true_or, false_or, Bool.not_eq_eq_eq_not, ite_true, ite_false, ite_self, Nat.reduceLeDiff, Nat.reduceEqDiff, Nat.reduceLT, reduceIte, and_false, false_and, not_true_eq_false, not_false_eq_true, Nat.reduceMul, reduceCtorEq, ne_eq])
/-! loops over numbers and places, slices of typed rows -/
namespace Fy
open PySem PySem.Spec PyProof.Rows L2
theorem rng_at {a b : Int} {pre post : List Int} {x : Int} (h : rng a b = pre ++ x :: post) : x = a + pre.length ∧ a + pre.length < b := by
  have e : (rng a b)[pre.length]? = some x := by rw [h]; simp
  have hl : pre.length < (b - a).toNat := by
    have := congrArg List.length h
    rw [rng_length] at this
    simp at this
    omega
  unfold rng at e
  rw [List.getElem?_map, List.getElem?_range hl] at e
  simp at e
  omega
section
variable {K : DEnds} {t : Tg} {s : DSt} {st : Sto} {body : DSt → Sto → DEnds → Prop}
theorem for_ab (a b : Nat) (hab : a ≤ b) (P : Nat → DSt → Sto → Prop) (h0 : P a s st)
    (hs : ∀ k, a ≤ k → k < b → ∀ s st (Kn : DSt → Sto → Prop), P k s st → (∀ s st, P (k + 1) s st → Kn s st) → asgP t (.int (k : Nat)) s fun s2 => body s2 st { K with nx := Kn, ct := Kn, bk := K.nx })
    (hd : ∀ s st, P b s st → K.nx s st) : forL body t ⟨(rng (a : Nat) (b : Nat)).map D.int, none⟩ ((rng (a : Nat) (b : Nat)).map D.int) s st K := by
  refine forL_t D.int (rng (a : Nat) (b : Nat)) (fun pre s st => P (a + pre.length) s st) h0 ?_ ?_
  · rintro pre x post s st Kn e hp q
    obtain ⟨rfl, h2⟩ := rng_at e
    refine hs (a + pre.length) (by omega) (by omega) s st Kn hp fun s st h => q s st ?_
    rw [List.length_append, List.length_singleton]
    exact h
  · intro s st h
    rw [rng_length] at h
    have : a + ((b : Int) - (a : Int)).toNat = b := by omega
    rw [this] at h
    exact hd s st h
theorem for_n (n : Nat) (P : Nat → DSt → Sto → Prop) (h0 : P 0 s st)
    (hs : ∀ k, k < n → ∀ s st (Kn : DSt → Sto → Prop), P k s st → (∀ s st, P (k + 1) s st → Kn s st) → asgP t (.int (k : Nat)) s fun s2 => body s2 st { K with nx := Kn, ct := Kn, bk := K.nx })
    (hd : ∀ s st, P n s st → K.nx s st) : forL body t ⟨(rng 0 (n : Nat)).map D.int, none⟩ ((rng 0 (n : Nat)).map D.int) s st K :=
  for_ab 0 n (Nat.zero_le _) P h0 (fun k _ hk => hs k hk) hd
/-- a row with its places -/
theorem for_enum {α : Type} (e : α → D) (xs : List α) (P : Nat → DSt → Sto → Prop) (h0 : P 0 s st)
    (hs : ∀ k x, xs[k]? = some x → ∀ s st (Kn : DSt → Sto → Prop), P k s st → (∀ s st, P (k + 1) s st → Kn s st) → asgP t (.tup [.int (k : Nat), e x]) s fun s2 => body s2 st { K with nx := Kn, ct := Kn, bk := K.nx })
    (hd : ∀ s st, P xs.length s st → K.nx s st) : forL body t ⟨enumD (xs.map e), none⟩ (enumD (xs.map e)) s st K := by
  have q : enumD (xs.map e) = xs.zipIdx.map fun p => D.tup [.int (p.2 : Nat), e p.1] := by
    unfold enumD
    rw [List.zipIdx_map, List.map_map]
    rfl
  rw [q]
  refine forL_t (fun p : α × Nat => D.tup [.int (p.2 : Nat), e p.1]) xs.zipIdx (fun pre s st => P pre.length s st) h0 ?_ ?_
  · rintro pre x post s st Kn e1 hp q
    have e2 : xs.zipIdx[pre.length]? = some x := by rw [e1]; simp
    rw [List.getElem?_zipIdx] at e2
    obtain ⟨w, hw, e2⟩ := Option.map_eq_some_iff.mp e2
    rw [← e2]
    have := hs pre.length w hw s st Kn hp fun s st h => q s st (by rw [List.length_append]; exact h)
    simpa using this
  · intro s st h
    rw [List.length_zipIdx] at h
    exact hd s st h
/-- a row by places -/
theorem for_row {α : Type} (e : α → D) (xs : List α) (P : Nat → DSt → Sto → Prop) (h0 : P 0 s st)
    (hs : ∀ k x, xs[k]? = some x → ∀ s st (Kn : DSt → Sto → Prop), P k s st → (∀ s st, P (k + 1) s st → Kn s st) → asgP t (e x) s fun s2 => body s2 st { K with nx := Kn, ct := Kn, bk := K.nx })
    (hd : ∀ s st, P xs.length s st → K.nx s st) : forL body t ⟨xs.map e, none⟩ (xs.map e) s st K := by
  refine forL_t e xs (fun pre s st => P pre.length s st) h0 ?_ hd
  rintro pre x post s st Kn e1 hp q
  refine hs pre.length x (by rw [e1]; simp) s st Kn hp fun s st h => q s st ?_
  rw [List.length_append, List.length_singleton]
  exact h
end
theorem at_map {α : Type} {e : α → D} {xs : List α} {k : Nat} {x : α} (h : xs[k]? = some x) : atI (xs.map e) (k : Int) = some (e x) := atI_nat (by rw [List.getElem?_map, h]; rfl)
theorem cut_ab {xs : List D} {k g : Nat} (hg : g ≤ xs.length) : cutD xs (some (k : Int)) (some (g : Int)) = (xs.drop k).take (g - k) := by
  unfold cutD
  rw [HT.sIx_nat, HT.sIx_nat, Nat.min_eq_left hg]
  by_cases h : k ≤ xs.length
  · rw [Nat.min_eq_left h]
  · rw [Nat.min_eq_right (by omega), List.drop_eq_nil_of_le (Nat.le_refl _), List.drop_eq_nil_of_le (by omega)]
    simp
theorem cut_to {xs : List D} {g : Nat} (hg : g ≤ xs.length) : cutD xs none (some (g : Int)) = xs.take g := by
  unfold cutD
  rw [HT.sIx_nat, HT.sIx_none, Nat.min_eq_left hg]
  simp
theorem cut_from {xs : List D} {k : Nat} : cutD xs (some (k : Int)) none = xs.drop k := by
  unfold cutD
  rw [HT.sIx_nat, HT.sIx_none]
  by_cases h : k ≤ xs.length
  · rw [Nat.min_eq_left h, List.take_of_length_le (by rw [List.length_drop]; omega)]
  · rw [Nat.min_eq_right (by omega), List.drop_eq_nil_of_le (Nat.le_refl _), List.drop_eq_nil_of_le (by omega)]
    simp
theorem cut_all {xs : List D} : cutD xs none none = xs := by
  unfold cutD
  rw [HT.sIx_none, HT.sIx_none]
  simp
theorem ixn_lt {n k : Nat} (h : k < n) : ixN n (k : Int) = some k := by
  unfold ixN
  rw [if_pos (by omega), if_pos (by omega)]
  simp
theorem cml {c v : Int} (h : -(2 ^ 64) < c ∧ c < 2 ^ 64) : CMul c v := .inl h
theorem cmr {c v : Int} (h : -(2 ^ 64) < c ∧ c < 2 ^ 64) : CMul v c := .inr h
theorem rep_one {d : D} {n : Nat} : (List.replicate n [d]).flatten = List.replicate n d := by
  induction n with
  | zero => rfl
  | succ n ih => rw [List.replicate_succ, List.flatten_cons, ih, List.replicate_succ]; rfl
theorem rep_int {n : Nat} {i : Int} : List.replicate n (D.int i) = (List.replicate n i).map D.int := by rw [List.map_replicate]
theorem Sub.at {st st3 : Sto} {a : Addr} {X : MO} (hs : Sub (Fy.put st a X) st3) : st3 a = some X := hs a X put_same
theorem Sub.app {st st3 : Sto} {a b : Addr} {X X2 Y : MO} (hs : Sub (Fy.put st a X) st3) (hb : st3 b = none) : Sub (Fy.put st a X2) (Fy.put (Fy.put st3 b Y) a X2) := fun x o e => by
  by_cases q : x = a
  · subst q
    rw [put_same] at e ⊢
    exact e
  · rw [put_ne q] at e ⊢
    have h := hs x o (by rw [put_ne q]; exact e)
    rw [put_ne (fun z => by rw [z, hb] at h; cases h)]
    exact h
/-! ### sorted by keys -/
theorem keyL_t {α : Type} {el : DSt → Sto → (D → Sto → Prop) → Prop} {i : Nat} {s : DSt} {st : Sto} {k : List D → Sto → Prop} (e : α → D) (g : α → D) : ∀ (xs : List α) (ks : List D), (∀ x ∈ xs, ∀ (Y : D → Sto → Prop), Y (g x) st → el (s.set i (some (e x))) st Y) → k (ks ++ xs.map g) st → keyL el i s (xs.map e) ks st k
  | [], ks, _, hk => by simpa [keyL] using hk
  | x :: xs, ks, h, hk => h x List.mem_cons_self _ (keyL_t e g xs (ks ++ [g x]) (fun y hy => h y (List.mem_cons_of_mem _ hy)) (by simpa using hk))
theorem perm_of_map {α β : Type} {f : α → β} {l : List β} {xs : List α} (p : l.Perm (xs.map f)) : ∃ ys : List α, ys.Perm xs ∧ l = ys.map f := by
  have q : ∀ ys : List α, Paired (fun a b => b = f a) ys (ys.map f) := fun ys => by
    induction ys with
    | nil => exact .nil
    | cons a r ih => exact .cons rfl ih
  obtain ⟨ys, h1, h2⟩ := perm_lift p (q xs)
  refine ⟨ys, h1, ?_⟩
  clear p h1
  induction h2 with
  | nil => rfl
  | cons r _ ih => rw [List.map_cons, r, ih]
theorem srk_rows {α : Type} {z : Bool} {ks : List D} {st : Sto} {R : D → Sto → Prop} {e : α → D} {rf : α → List Int} {d : Nat} {xs : List α} (hk : KeysD ks (xs.map rf) d) (h : ∀ ys : List α, ys.Perm xs → ys.Pairwise (fun a b => lexN (rf b) (rf a) = false) → newL z (ys.map e) st R) : srkP z ks (xs.map e) st R := by
  refine ⟨xs.map rf, d, hk, ?_⟩
  rintro ys ⟨ps, p1, p2, rfl⟩
  have ez : (xs.map rf).zip (xs.map e) = xs.map fun x => (rf x, e x) := by
    rw [List.zip_map']
  rw [ez] at p1
  obtain ⟨zs, q1, rfl⟩ := perm_of_map p1
  rw [List.pairwise_map] at p2
  have := h zs q1 p2
  rw [List.map_map]
  exact this
/-- keys that are tuples of d ints -/
theorem srk_tup {α : Type} {z : Bool} {st : Sto} {R : D → Sto → Prop} {e : α → D} (rf : α → List Int) (d : Nat) {xs : List α} (hd : 1 ≤ d) (hl : ∀ x ∈ xs, (rf x).length = d) (h : ∀ ys : List α, ys.Perm xs → ys.Pairwise (fun a b => lexN (rf b) (rf a) = false) → newL z (ys.map e) st R) : srkP z (xs.map fun x => D.tup ((rf x).map D.int)) (xs.map e) st R :=
  srk_rows (.inr ⟨hd, fun r hr => by
    obtain ⟨x, hx, rfl⟩ := List.mem_map.mp hr
    exact hl x hx, by rw [List.map_map]; rfl⟩) h
/-- keys that are ints -/
theorem srk_int {α : Type} {z : Bool} {st : Sto} {R : D → Sto → Prop} {e : α → D} (kf : α → Int) {xs : List α} (h : ∀ ys : List α, ys.Perm xs → ys.Pairwise (fun a b => kf a ≤ kf b) → newL z (ys.map e) st R) : srkP z (xs.map fun x => D.int (kf x)) (xs.map e) st R :=
  srk_rows (rf := fun x => [kf x]) (d := 1) (.inl ⟨rfl, xs.map kf, by rw [List.map_map]; rfl, by rw [List.map_map]; rfl⟩) fun ys p o => h ys p (o.imp fun {a b} q => by
    simp only [lexN] at q
    split at q
    · omega
    · have := of_decide_eq_false q
      omega)
/-- noughts -/
def zr (n : Nat) : List Int := List.replicate n 0
theorem zr_len {n : Nat} : (zr n).length = n := by simp [zr]
theorem zr_0 : zr 0 = [] := rfl
theorem zr_snoc {n : Nat} : zr (n + 1) = zr n ++ [0] := List.replicate_succ'
theorem zr_cons {n : Nat} : zr (n + 1) = 0 :: zr n := List.replicate_succ
theorem zr_add {n m : Nat} : zr (n + m) = zr n ++ zr m := by unfold zr; rw [List.replicate_append_replicate]
theorem rep_zr {n : Nat} : (List.replicate n [D.int 0]).flatten = (zr n).map D.int := by rw [rep_one, rep_int]; rfl
def fnWho : FnD := ⟨3, 3,
  (.cons (.ret (.and (.bi .isi (.cons (.var 0) (.cons (.cty "int") .nil))) (.and (.not (.bi .isi (.cons (.var 0) (.cons (.cty "bool") .nil)))) (.cmp2 .le .le (.var 1) (.var 0) (.var 2)))))
  .nil)⟩
theorem who_int {P : List FnD} {n f : Nat} (hf : P[f]? = some fnWho) (hn : 1 ≤ n) {i lo hi : Int} {st : Sto} {R : D → Sto → Prop} {E : Exc → Sto → Prop} (hR : R (.bl (decide (lo ≤ i ∧ i ≤ hi))) st) : wpFn P n f [.int i, .int lo, .int hi] st R E := by
  obtain ⟨n, rfl⟩ : ∃ m, n = m + 1 := ⟨n - 1, by omega⟩
  refine ⟨fnWho, hf, rfl, ?_⟩
  simp only [fnWho]
  try walk_at "fy"
  by_cases h : lo ≤ i
  · rw [if_pos h]
    have e : decide (lo ≤ i ∧ i ≤ hi) = decide (i ≤ hi) := by simp [h]
    rw [e] at hR
    exact fg0 hR
  · rw [if_neg h]
    have e : decide (lo ≤ i ∧ i ≤ hi) = false := by simp [h]
    rw [e] at hR
    exact fg0 hR
theorem who_yes {P : List FnD} {n f : Nat} (hf : P[f]? = some fnWho) (hn : 1 ≤ n) {i lo hi : Int} (h : lo ≤ i ∧ i ≤ hi) {st : Sto} {R : D → Sto → Prop} {E : Exc → Sto → Prop} (hR : R (.bl true) st) : wpFn P n f [.int i, .int lo, .int hi] st R E := who_int hf hn (by rw [decide_eq_true h]; exact hR)
end Fy

/-! tables by their keys -/
namespace Fy
open PySem PySem.Spec PyProof.Rows L2
def bg (ps : List (Int × Int)) (k : Nat) : Int := (ps.getD k (0, 0)).1
def en (ps : List (Int × Int)) (k : Nat) : Int := (ps.getD k (0, 0)).2
theorem at_pr {ps : List (Int × Int)} {k : Nat} (h : k < ps.length) : atI (ps.map prD) (k : Int) = some (.tup [.int (bg ps k), .int (en ps k)]) := by
  have e := at_map (e := prD) (List.getElem?_eq_getElem h)
  rw [e]
  unfold bg en prD
  rw [List.getD_eq_getElem?_getD, List.getElem?_eq_getElem h]
  rfl
theorem rng_nats (n : Nat) : (rng 0 (n : Nat)).map D.int = (List.range n).map fun k : Nat => D.int (k : Nat) := by
  unfold rng
  rw [List.map_map, show ((n : Int) - 0).toNat = n by omega]
  refine List.map_congr_left fun i _ => ?_
  simp
theorem val_snoc {kvs : List (List Key × D)} {k : List Key} {v : D} (h : ∀ p ∈ kvs, p.1 ≠ k) : putD kvs k v = kvs ++ [(k, v)] := by
  unfold putD
  rw [if_neg]
  intro c
  obtain ⟨p, hp, e⟩ := List.any_eq_true.mp c
  exact h p hp (of_decide_eq_true e)
/-- a table by a function -/
def tabD {α : Type} (ek : α → List Key) (L : α → D) (l : List α) : List (List Key × D) := l.map fun j => (ek j, L j)
theorem tab_val {α : Type} {ek : α → List Key} (inj : ∀ a b, ek a = ek b → a = b) {L : α → D} {l : List α} {k : α} (h : k ∈ l) : valD (tabD ek L l) (ek k) = some (L k) := by
  induction l with
  | nil => cases h
  | cons a l ih =>
    unfold tabD valD at ih ⊢
    rw [List.map_cons, List.find?_cons]
    by_cases c : a = k
    · subst c
      simp
    · have : ¬ ek a = ek k := fun z => c (inj _ _ z)
      simp only [this, decide_false]
      exact ih ((List.mem_cons.mp h).resolve_left fun z => c z.symm)
theorem tab_none {α : Type} {ek : α → List Key} (inj : ∀ a b, ek a = ek b → a = b) {L : α → D} {l : List α} {k : α} (h : k ∉ l) : valD (tabD ek L l) (ek k) = none := by
  induction l with
  | nil => rfl
  | cons a l ih =>
    unfold tabD valD at ih ⊢
    rw [List.map_cons, List.find?_cons]
    have : ¬ ek a = ek k := fun z => h (inj _ _ z ▸ List.mem_cons_self)
    simp only [this, decide_false]
    exact ih fun z => h (List.mem_cons_of_mem _ z)
def ik (k : Nat) : List Key := [.inl (k : Nat)]
theorem ik_inj (a b : Nat) (h : ik a = ik b) : a = b := by
  unfold ik at h
  simp at h
  omega
theorem bn_1 : (true != false) = true := rfl
theorem bn_2 : (true != true) = false := rfl
theorem bn_3 : (false != false) = false := rfl
theorem bn_4 : (false != true) = true := rfl
theorem min_r {p : Addr} {st : Sto} {R : D → Sto → Prop} {ns : List Int} (h : st p = some (.lst (ns.map D.int))) (h0 : 0 < ns.length) (k : ∀ m, m ∈ ns → (∀ y ∈ ns, m ≤ y) → R (.int m) st) : biP .min [.ref p] st R := ⟨_, h, ns, rfl, h0, k⟩
theorem max_r {p : Addr} {st : Sto} {R : D → Sto → Prop} {ns : List Int} (h : st p = some (.lst (ns.map D.int))) (h0 : 0 < ns.length) (k : ∀ m, m ∈ ns → (∀ y ∈ ns, y ≤ m) → R (.int m) st) : biP .max [.ref p] st R := ⟨_, h, ns, rfl, h0, k⟩
/-- a loop that may be left by break -/
theorem forL_b {α : Type} {K : DEnds} {t : Tg} {s : DSt} {st : Sto} {body : DSt → Sto → DEnds → Prop} (e : α → D) (xs : List α) (P : List α → DSt → Sto → Prop) (Q : DSt → Sto → Prop) (h0 : P [] s st)
    (hs : ∀ pre x post s st (Kn : DSt → Sto → Prop), xs = pre ++ x :: post → P pre s st → (∀ s st, P (pre ++ [x]) s st → Kn s st) → (∀ s st, Q s st → K.nx s st) → asgP t (e x) s fun s2 => body s2 st { K with nx := Kn, ct := Kn, bk := K.nx })
    (hq : ∀ s st, P xs s st → Q s st) (hd : ∀ s st, Q s st → K.nx s st) : forL body t ⟨xs.map e, none⟩ (xs.map e) s st K :=
  forL_t e xs P h0 (fun pre x post s st Kn e1 hp k => hs pre x post s st Kn e1 hp k hd) fun s st h => hd s st (hq s st h)
end Fy

/-! the least of a list of pairs -/
namespace Fy
open PySem PySem.Spec PyProof.Rows L2
def prPy (p : Int × Int) : PyData := .tuple [.int p.1, .int p.2]
def ltP2 (a b : Int × Int) : Bool := decide (a.1 < b.1 ∨ (a.1 = b.1 ∧ a.2 < b.2))
def mnP (p : Int × Int) (ps : List (Int × Int)) : Int × Int := ps.foldl (fun a y => if ltP2 y a = true then y else a) p
theorem py_prs {st : Sto} : ∀ ps : List (Int × Int), Pys st (ps.map prD) (ps.map prPy)
  | [] => .nil
  | p :: ps => .cons (.tup (.cons (.int _) (.cons (.int _) .nil))) (py_prs ps)
theorem min_prs : ∀ (ps : List (Int × Int)) (p : Int × Int), PySem.W.minD (prPy p) (ps.map prPy) = prPy (mnP p ps)
  | [], p => rfl
  | y :: ps, p => by
    have ih := min_prs ps (if ltP2 y p = true then y else p)
    unfold PySem.W.minD mnP at ih ⊢
    rw [List.map_cons, List.foldl_cons, List.foldl_cons, ← ih]
    have e : PySem.W.dataLt (prPy y) (prPy p) = ltP2 y p := PySem.W.dataLt_ii _ _ _ _
    rw [e]
    split <;> rfl
theorem mnP_mem : ∀ (ps : List (Int × Int)) (p : Int × Int), mnP p ps ∈ p :: ps
  | [], p => List.mem_singleton.mpr rfl
  | y :: ps, p => by
    have ih := mnP_mem ps (if ltP2 y p = true then y else p)
    unfold mnP at ih ⊢
    rw [List.foldl_cons]
    rcases List.mem_cons.mp ih with h | h
    · rw [h]
      split
      · exact List.mem_cons_of_mem _ List.mem_cons_self
      · exact List.mem_cons_self
    · exact List.mem_cons_of_mem _ (List.mem_cons_of_mem _ h)
def leP2 (a b : Int × Int) : Prop := a.1 < b.1 ∨ (a.1 = b.1 ∧ a.2 ≤ b.2)
theorem mnP_le : ∀ (ps : List (Int × Int)) (p : Int × Int), ∀ q ∈ p :: ps, leP2 (mnP p ps) q
  | [], p, q, hq => by
    rw [List.mem_singleton.mp hq]
    exact .inr ⟨rfl, Int.le_refl _⟩
  | y :: ps, p, q, hq => by
    have ih := mnP_le ps (if ltP2 y p = true then y else p)
    have e : mnP p (y :: ps) = mnP (if ltP2 y p = true then y else p) ps := by unfold mnP; rw [List.foldl_cons]
    rw [e]
    have h0 := ih _ List.mem_cons_self
    have h1 : leP2 (if ltP2 y p = true then y else p) p ∧ leP2 (if ltP2 y p = true then y else p) y := by
      unfold leP2
      split
      · rename_i c
        unfold ltP2 at c
        have c := of_decide_eq_true c
        omega
      · rename_i c
        unfold ltP2 at c
        have c : ¬ (y.1 < p.1 ∨ (y.1 = p.1 ∧ y.2 < p.2)) := fun z => c (decide_eq_true z)
        omega
    have tr : ∀ a b c : Int × Int, leP2 a b → leP2 b c → leP2 a c := by
      unfold leP2
      intro a b c
      omega
    rcases List.mem_cons.mp hq with rfl | hq
    · exact tr _ _ _ h0 h1.1
    · rcases List.mem_cons.mp hq with rfl | hq
      · exact tr _ _ _ h0 h1.2
      · exact ih _ (List.mem_cons_of_mem _ hq)
theorem best_pr {a : Addr} {st : Sto} {R : D → Sto → Prop} {ps : List (Int × Int)} (h : st a = some (.lst (ps.map prD))) (h0 : ps ≠ []) (k : ∀ m ∈ ps, (∀ q ∈ ps, leP2 m q) → R (prD m) st) : lstP (.ref a) st fun ds => bestP false ds st R := by
  refine ⟨_, h, ?_⟩
  obtain ⟨p, qs, rfl⟩ := List.exists_cons_of_ne_nil h0
  have al : PySem.W.AlikeAll ((p :: qs).map prPy) := PySem.W.alikeAll_datum (p :: qs)
  have dp : PyData.depthAll ((p :: qs).map prPy) ≤ 60 := by
    generalize p :: qs = l
    induction l with
    | nil => simp [PyData.depthAll]
    | cons x l ih =>
      rw [List.map_cons]
      simp only [PyData.depthAll, prPy, PyData.depth] at ih ⊢
      omega
  refine ⟨prPy p, qs.map prPy, py_prs (p :: qs), al, dp, fun i d hd hb => ?_⟩
  have e : bestD false (prPy p) (qs.map prPy) = prPy (mnP p qs) := min_prs qs p
  rw [e, ← List.map_cons, List.getElem?_map] at hb
  obtain ⟨x, hx, ex⟩ := Option.map_eq_some_iff.mp hb
  rw [List.getElem?_map, hx] at hd
  cases hd
  have e2 : x = mnP p qs := by
    unfold prPy at ex
    injection ex with ex
    injection ex with e1 ex
    injection ex with e2 _
    injection e1 with e1
    injection e2 with e2
    exact Prod.ext e1 e2
  rw [e2]
  exact k _ (mnP_mem qs p) (mnP_le qs p)
theorem forL_d {K : DEnds} {t : Tg} {s : DSt} {st : Sto} {body : DSt → Sto → DEnds → Prop} (xs : List D) (P : List D → DSt → Sto → Prop) (h0 : P [] s st)
    (hs : ∀ pre x post s st (Kn : DSt → Sto → Prop), xs = pre ++ x :: post → P pre s st → (∀ s st, P (pre ++ [x]) s st → Kn s st) → asgP t x s fun s2 => body s2 st { K with nx := Kn, ct := Kn, bk := K.nx })
    (hd : ∀ s st, P xs s st → K.nx s st) : forL body t ⟨xs, none⟩ xs s st K := by
  have := forL_t (K := K) (t := t) (s := s) (st := st) (body := body) (fun d : D => d) xs P h0 hs hd
  rwa [List.map_id'] at this
end Fy

namespace K01
open PySem PySem.Spec PyProof.Rows L2 Fy
def consts : List (Str × KC) := [("SIGNS", (.str "abcdefghijklmnopqrstuvwxyz"))]
def xcs : List XC := [⟨"YardError", none, [0], false⟩, ⟨"BadName", none, [1, 0], true⟩, ⟨"BadNumber", none, [2, 0], false⟩]
def topS (i : Nat) : Stmt := PySem.Challenge.pw_fleetyard_k01_numbers_and_what_is_common.main.body.getD i (.Pass ⟨0, 0, 0, 0⟩)
def th_law_refused : TH := ⟨"_law_refused", "what", ["what", "e"], topS 19, (.drop (.str "let")), [⟨2, [2], (some 1), (.cst (.str "number"))⟩, ⟨1, [1], (some 1), (.isx 0 (.str "name"))⟩]⟩
theorem tb_law_refused : thB xcs th_law_refused = true := by decide +kernel
def ths : List TH := [th_law_refused]
/-! is_name: 0 thing, 1 sign -/
def b_is_name : ISs :=
  (.cons (.ret (.and (.bi .isi (.cons (.var 0) (.cons (.cty "str") .nil))) (.and (.cmp2 .le .le (.cint 1) (.bi .len (.cons (.var 0) .nil)) (.cint 8)) (.gen .all [1] (.nm 1) (.val (.var 0)) .nil (.cmp .isin (.var 1) (.con (.str "abcdefghijklmnopqrstuvwxyz")))))))
  .nil)
def d_is_name : PD := ⟨"is_name", ["thing"], ["thing", "sign"], topS 6, b_is_name, true, consts, xcs, false, [], []⟩
/-! are_names: 0 thing, 1 one, 2 k -/
def b_are_names : ISs :=
  (.cons (.ifs (.or (.not (.bi .isi (.cons (.var 0) (.cons (.cty "tuple") .nil)))) (.not (.gen .all [1] (.nm 1) (.val (.var 0)) .nil (.call 0 (.cons (.var 1) .nil)))))
   (.cons (.ret (.cbl false))
    .nil)
   .nil)
  (.cons (.ret (.gen .all [2] (.nm 2) (.rng1 (.bi .len (.cons (.var 0) .nil))) .nil (.cmp .notin (.ix (.var 0) (.var 2)) (.sl true (.var 0) .nil (.cons (.var 2) .nil)))))
   .nil))
def d_are_names : PD := ⟨"are_names", ["thing"], ["thing", "one", "k"], topS 7, b_are_names, true, consts, xcs, false, [], []⟩
/-! check_names: 0 thing -/
def b_check_names : ISs :=
  (.cons (.ifs (.not (.call 1 (.cons (.var 0) .nil)))
   (.cons (.rs 1 .nil)
    .nil)
   .nil)
  .nil)
def d_check_names : PD := ⟨"check_names", ["thing"], ["thing"], topS 8, b_check_names, false, consts, xcs, false, [], []⟩
/-! is_whole: 0 thing, 1 low, 2 high -/
def b_is_whole : ISs :=
  (.cons (.ret (.and (.bi .isi (.cons (.var 0) (.cons (.cty "int") .nil))) (.and (.not (.bi .isi (.cons (.var 0) (.cons (.cty "bool") .nil)))) (.cmp2 .le .le (.var 1) (.var 0) (.var 2)))))
  .nil)
def d_is_whole : PD := ⟨"is_whole", ["thing", "low", "high"], ["thing", "low", "high"], topS 9, b_is_whole, false, consts, xcs, false, [], []⟩
/-! check_whole: 0 thing, 1 low, 2 high -/
def b_check_whole : ISs :=
  (.cons (.ifs (.not (.call 3 (.cons (.var 0) (.cons (.var 1) (.cons (.var 2) .nil)))))
   (.cons (.rs 2 .nil)
    .nil)
   .nil)
  .nil)
def d_check_whole : PD := ⟨"check_whole", ["thing", "low", "high"], ["thing", "low", "high"], topS 10, b_check_whole, false, consts, xcs, false, [], []⟩
/-! greatest_common: 0 one, 1 other -/
def b_greatest_common : ISs :=
  (.cons (.whl (.cmp .ne (.var 1) (.cint 0))
   (.cons (.par 0 1 (.var 1) (.bin .mod (.var 0) (.var 1)))
    .nil))
  (.cons (.ret (.bi .abs (.cons (.var 0) .nil)))
   .nil))
def d_greatest_common : PD := ⟨"greatest_common", ["one", "other"], ["one", "other"], topS 11, b_greatest_common, false, consts, xcs, false, [], []⟩
/-! least_common: 0 one, 1 other -/
def b_least_common : ISs :=
  (.cons (.ret (.bin .mul (.bin .fdiv (.var 0) (.call 5 (.cons (.var 0) (.cons (.var 1) .nil)))) (.var 1)))
  .nil)
def d_least_common : PD := ⟨"least_common", ["one", "other"], ["one", "other"], topS 12, b_least_common, false, consts, xcs, false, [], []⟩
/-! ways_of: 0 one, 1 other, 2 a, 3 b, 4 c, 5 d, 6 whole -/
def b_ways_of : ISs :=
  (.cons (.set (.tp (.cons (.nm 2) (.cons (.nm 3) (.cons (.nm 4) (.cons (.nm 5) .nil))))) (.tup (.cons (.cint 1) (.cons (.cint 0) (.cons (.cint 0) (.cons (.cint 1) .nil))))))
  (.cons (.whl (.cmp .ne (.var 1) (.cint 0))
    (.cons (.set (.nm 6) (.bin .fdiv (.var 0) (.var 1)))
     (.cons (.par 0 1 (.var 1) (.bin .sub (.var 0) (.bin .mul (.var 6) (.var 1))))
      (.cons (.par 2 3 (.var 3) (.bin .sub (.var 2) (.bin .mul (.var 6) (.var 3))))
       (.cons (.par 4 5 (.var 5) (.bin .sub (.var 4) (.bin .mul (.var 6) (.var 5))))
        .nil)))))
   (.cons (.ret (.tup (.cons (.var 0) (.cons (.var 2) (.cons (.var 4) .nil)))))
    .nil)))
def d_ways_of : PD := ⟨"ways_of", ["one", "other"], ["one", "other", "a", "b", "c", "d", "whole"], topS 13, b_ways_of, false, consts, xcs, false, [], []⟩
/-! rounded_up: 0 number, 1 by -/
def b_rounded_up : ISs :=
  (.cons (.ret (.neg (.bin .fdiv (.neg (.var 0)) (.var 1))))
  .nil)
def d_rounded_up : PD := ⟨"rounded_up", ["number", "by"], ["number", "by"], topS 14, b_rounded_up, false, consts, xcs, false, [], []⟩
/-! _law_dice: 0 cell -/
def b_law_dice : ISs :=
  (.cons (.ifs (.cmp2 .lt .lt (.bin .sub (.cint 0) (.cint 10)) (.var 0) (.cint 10))
   (.cons (.ret (.lst false (.cons (.bi .abs (.cons (.var 0) .nil)) (.cons (.cint 0) (.cons (.cint 2) .nil)))))
    .nil)
   .nil)
  (.cons (.ret (.lst false (.cons (.var 0) (.cons (.bin .add (.cint 1) (.bin .mod (.bi .int (.cons (.var 0) .nil)) (.cint 1009))) (.cons (.bi .int (.cons (.cmp .ge (.var 0) (.bin .pow (.cint 10) (.cint 18))) .nil)) .nil)))))
   .nil))
def d_law_dice : PD := ⟨"_law_dice", ["cell"], ["cell"], topS 16, b_law_dice, false, consts, xcs, false, [], []⟩
/-! _law_roll: 0 dice, 1 many, 2 found -/
def b_law_roll : ISs :=
  (.cons (.ifs (.or (.cmp .eq (.ix (.var 0) (.cint 2)) (.cint 2)) (.and (.cmp .eq (.ix (.var 0) (.cint 2)) (.cint 1)) (.cmp .gt (.ix (.var 0) (.cint 0)) (.cint 0))))
   (.cons (.set (.nm 2) (.bin .mod (.bi .int (.cons (.ix (.var 0) (.cint 0)) .nil)) (.var 1)))
    (.cons (.setIx (.var 0) (.cint 0) (.bin .fdiv (.ix (.var 0) (.cint 0)) (.var 1)))
     (.cons (.ret (.var 2))
      .nil)))
   .nil)
  (.cons (.setIx (.var 0) (.cint 2) (.cint 0))
   (.cons (.setIx (.var 0) (.cint 0) (.bin .mod (.bi .int (.cons (.bin .add (.bin .add (.bin .mul (.ix (.var 0) (.cint 0)) (.cint 48271)) (.bin .mul (.ix (.var 0) (.cint 1)) (.cint 69621))) (.cint 11)) .nil)) (.cint 2147483647)))
    (.cons (.setIx (.var 0) (.cint 1) (.bin .add (.ix (.var 0) (.cint 1)) (.cint 1)))
     (.cons (.ret (.bin .mod (.bi .int (.cons (.bin .add (.bin .fdiv (.ix (.var 0) (.cint 0)) (.cint 7)) (.ix (.var 0) (.cint 0))) .nil)) (.var 1)))
      .nil)))))
def d_law_roll : PD := ⟨"_law_roll", ["dice", "many"], ["dice", "many", "found"], topS 17, b_law_roll, false, consts, xcs, false, [], []⟩
/-! _law_rounds: 0 script, 1 most, 2 cells, 3 cell -/
def b_law_rounds : ISs :=
  (.cons (.set (.nm 2) (.sl true (.var 0) .nil (.cons (.var 1) .nil)))
  (.cons (.ifs (.cmp .eq (.var 2) (.lst true .nil))
    (.cons (.set (.nm 2) (.lst true (.cons (.cint 0) .nil)))
     .nil)
    .nil)
   (.cons (.ret (.lc [3] (.nm 3) (.val (.var 2)) .nil (.call 9 (.cons (.var 3) .nil))))
    .nil)))
def d_law_rounds : PD := ⟨"_law_rounds", ["script", "most"], ["script", "most", "cells", "cell"], topS 18, b_law_rounds, false, consts, xcs, false, [], []⟩
/-! law: 0 script, 1 dice, 2 high, 3 one, 4 two, 5 common, 6 third, 7 left, 8 right, 9 many, 10 bad, 11 fits -/
def b_law : ISs :=
  (.cons (.fr (.nm 1) (.val (.call 11 (.cons (.var 0) (.cons (.cint 8) .nil))))
   (.cons (.set (.nm 2) (.ix (.lst true (.cons (.cint 41) (.cons (.cint 1000001) .nil))) (.call 10 (.cons (.var 1) (.cons (.cint 2) .nil)))))
    (.cons (.set (.tp (.cons (.nm 3) (.cons (.nm 4) .nil))) (.tup (.cons (.bin .add (.cint 1) (.call 10 (.cons (.var 1) (.cons (.var 2) .nil)))) (.cons (.bin .add (.cint 1) (.call 10 (.cons (.var 1) (.cons (.var 2) .nil)))) .nil))))
     (.cons (.set (.nm 5) (.call 5 (.cons (.var 3) (.cons (.var 4) .nil))))
      (.cons (.ifs (.or (.cmp .ne (.bin .mod (.bi .int (.cons (.var 3) .nil)) (.var 5)) (.cint 0)) (.or (.cmp .ne (.bin .mod (.bi .int (.cons (.var 4) .nil)) (.var 5)) (.cint 0)) (.or (.cmp .lt (.var 5) (.cint 1)) (.cmp .ne (.call 5 (.cons (.var 4) (.cons (.var 3) .nil))) (.var 5)))))
        (.cons (.ret (.cbl false))
         .nil)
        .nil)
       (.cons (.set (.tp (.cons (.nm 6) (.cons (.nm 7) (.cons (.nm 8) .nil)))) (.call 7 (.cons (.var 3) (.cons (.var 4) .nil))))
        (.cons (.ifs (.or (.cmp .ne (.var 6) (.var 5)) (.or (.cmp .ne (.bin .add (.bin .mul (.var 7) (.var 3)) (.bin .mul (.var 8) (.var 4))) (.var 5)) (.cmp .ne (.bin .mul (.call 6 (.cons (.var 3) (.cons (.var 4) .nil))) (.var 5)) (.bin .mul (.var 3) (.var 4)))))
          (.cons (.ret (.cbl false))
           .nil)
          .nil)
         (.cons (.ifs (.or (.cmp .ne (.call 5 (.cons (.var 3) (.cons (.cint 0) .nil))) (.var 3)) (.cmp .ne (.call 5 (.cons (.cint 0) (.cons (.cint 0) .nil))) (.cint 0)))
           (.cons (.ret (.cbl false))
            .nil)
           .nil)
          (.cons (.set (.nm 9) (.call 8 (.cons (.var 3) (.cons (.var 4) .nil))))
           (.cons (.ifs (.or (.cmp .lt (.bin .mul (.var 9) (.var 4)) (.var 3)) (.cmp .ge (.bin .mul (.bin .sub (.var 9) (.cint 1)) (.var 4)) (.var 3)))
             (.cons (.ret (.cbl false))
              .nil)
             .nil)
            (.cons (.fr (.nm 10) (.val (.lst true (.cons (.bin .sub (.var 3) (.cint 1)) (.cons (.bin .add (.var 4) (.cint 1)) (.cons (.cbl true) (.cons .cnon (.cons (.cstr "1") .nil)))))))
              (.cons (.set (.nm 11) (.and (.cmp .isin (.var 10) (.lst true (.cons (.bin .sub (.var 3) (.cint 1)) (.cons (.bin .add (.var 4) (.cint 1)) .nil)))) (.and (.cmp .isnot (.var 10) (.cbl true)) (.cmp2 .le .le (.var 3) (.var 10) (.var 4)))))
               (.cons (.ifs (.or (.cmp .ne (.call 3 (.cons (.var 10) (.cons (.var 3) (.cons (.var 4) .nil)))) (.var 11)) (.cmp .ne (.cmp .eq (.thk 0 (.drop (.str "let")) [⟨2, [2], (some 1), (.cst (.str "number"))⟩, ⟨1, [1], (some 1), (.isx 0 (.str "name"))⟩] (.call 4 (.cons (.var 10) (.cons (.var 3) (.cons (.var 4) .nil))))) (.cstr "let")) (.var 11)))
                 (.cons (.ret (.cbl false))
                  .nil)
                 .nil)
                .nil)))
             (.cons (.ifs (.or (.not (.call 3 (.cons (.var 3) (.cons (.var 3) (.cons (.var 3) .nil))))) (.or (.not (.call 0 (.cons (.cstr "abcdefgh") .nil))) (.or (.call 0 (.cons (.cstr "abcdefghi") .nil)) (.or (.call 0 (.cons (.cstr "") .nil)) (.call 0 (.cons (.cstr "aB") .nil))))))
               (.cons (.ret (.cbl false))
                .nil)
               .nil)
              (.cons (.fr (.nm 10) (.val (.lst true (.cons (.tup (.cons (.cstr "a") (.cons (.cstr "a") .nil))) (.cons (.tup (.cons (.cstr "a") (.cons (.cstr "") .nil))) (.cons (.lst true (.cons (.cstr "a") .nil)) (.cons (.tup (.cons (.cstr "a") (.cons (.cint 5) .nil))) (.cons .cnon .nil)))))))
                (.cons (.ifs (.or (.call 1 (.cons (.var 10) .nil)) (.cmp .ne (.thk 0 (.drop (.str "let")) [⟨2, [2], (some 1), (.cst (.str "number"))⟩, ⟨1, [1], (some 1), (.isx 0 (.str "name"))⟩] (.call 2 (.cons (.var 10) .nil))) (.cstr "name")))
                  (.cons (.ret (.cbl false))
                   .nil)
                  .nil)
                 .nil))
               (.cons (.ifs (.cmp .ne (.thk 0 (.drop (.str "let")) [⟨2, [2], (some 1), (.cst (.str "number"))⟩, ⟨1, [1], (some 1), (.isx 0 (.str "name"))⟩] (.call 2 (.cons (.tup (.cons (.cstr "a") (.cons (.cstr "bb") .nil))) .nil))) (.cstr "let"))
                 (.cons (.ret (.cbl false))
                  .nil)
                 .nil)
                .nil))))))))))))))
  (.cons (.ret (.call 1 (.cons (.tup .nil) .nil)))
   .nil))
def d_law : PD := ⟨"law", ["script"], ["script", "dice", "high", "one", "two", "common", "third", "left", "right", "many", "bad", "fits"], topS 20, b_law, false, consts, xcs, true, ths, [(85, 64), (90, 46), (92, 24)]⟩
def prog : List PD := [d_is_name, d_are_names, d_check_names, d_is_whole, d_check_whole, d_greatest_common, d_least_common, d_ways_of, d_rounded_up, d_law_dice, d_law_roll, d_law_rounds, d_law]
theorem ok_is_name : d_is_name.ok prog = true := by decide +kernel
abbrev f_is_name : Nat := 0
theorem ok_are_names : d_are_names.ok prog = true := by decide +kernel
abbrev f_are_names : Nat := 1
theorem ok_check_names : d_check_names.ok prog = true := by decide +kernel
abbrev f_check_names : Nat := 2
theorem ok_is_whole : d_is_whole.ok prog = true := by decide +kernel
abbrev f_is_whole : Nat := 3
theorem ok_check_whole : d_check_whole.ok prog = true := by decide +kernel
abbrev f_check_whole : Nat := 4
theorem ok_greatest_common : d_greatest_common.ok prog = true := by decide +kernel
abbrev f_greatest_common : Nat := 5
theorem ok_least_common : d_least_common.ok prog = true := by decide +kernel
abbrev f_least_common : Nat := 6
theorem ok_ways_of : d_ways_of.ok prog = true := by decide +kernel
abbrev f_ways_of : Nat := 7
theorem ok_rounded_up : d_rounded_up.ok prog = true := by decide +kernel
abbrev f_rounded_up : Nat := 8
theorem ok_law_dice : d_law_dice.ok prog = true := by decide +kernel
abbrev f_law_dice : Nat := 9
theorem ok_law_roll : d_law_roll.ok prog = true := by decide +kernel
abbrev f_law_roll : Nat := 10
theorem ok_law_rounds : d_law_rounds.ok prog = true := by decide +kernel
abbrev f_law_rounds : Nat := 11
theorem ok_law : d_law.ok prog = true := by decide +kernel
abbrev f_law : Nat := 12
end K01

local macro_rules | `(tactic| walk_at "fy") => `(tactic| simp only [Fy.dstart, List.map_cons, List.map_nil, List.length_cons, List.length_nil, Nat.reduceAdd, Nat.reduceSub, List.replicate_succ, List.replicate_zero, List.cons_append, List.nil_append, List.append_nil, Fy.wpSs, Fy.wpS, Fy.wpT, Fy.wpEs, Fy.e_and, Fy.e_or, Fy.e_not, Fy.e_neg, Fy.e_cmp2, Fy.e_var, Fy.e_int, Fy.e_bl, Fy.e_non, Fy.e_str, Fy.e_bin, Fy.e_cmp, Fy.e_ife, Fy.e_tup, Fy.e_lst, Fy.e_frz, Fy.e_call, Fy.e_bi, Fy.e_ix, Fy.e_sl, Fy.e_lc, Fy.ex_ix, Fy.ex_sx, Fy.ex_get, Fy.put_same, Fy.put_put, Fy.wpI, Fy.o_int, Fy.o_nil, Fy.o_one, Fy.ts_nil, Fy.ts_one, Fy.a_nm, Fy.a_tp, Fy.a_tf, Fy.a_nil, Fy.a_cons, List.set_cons_zero, List.set_cons_succ, Fy.getP_0, Fy.getP_S, Fy.brP_bl, Fy.notP_bl, Fy.negP_int, Fy.sl_s, Fy.bi_add, Fy.bi_sub, Fy.bi_mul, Fy.bi_fdiv, Fy.bi_mod, Fy.b_str, Fy.b_tup, Fy.b_ff, Fy.e_mt, Fy.e_lc2, Fy.e_rev, Fy.e_rp, Fy.b_rp, Fy.e_thk, Fy.e_srk, Fy.e_dnew, Fy.e_dg, Fy.e_din, Fy.e_dgt, Option.map_some, Option.map_none, Option.isSome_some, Option.isSome_none, Option.getD_some, Option.getD_none, Fy.bn_1, Fy.bn_2, Fy.bn_3, Fy.bn_4, Fy.e_dis, Fy.e_fzd, Fy.fz_r, Fy.e_dln, Fy.e_deq, Fy.e_dcp, Fy.e_dpo, Fy.e_dks, Fy.it_d, Fy.ln_d, Fy.y_fd, Fy.ko_s, Fy.ko_i, Fy.ko_ss, Fy.dr_f, Fy.da_f, Fy.isd_f, Fy.ex_key, Fy.e_mnk, Fy.e_idx, Fy.e_tpx, Fy.e_join, Fy.jn_f, Fy.e_tdc, Fy.e_dkp, Fy.sl_x, Fy.b_repS, Fy.it_x, Fy.rv_x, Fy.ln_x, Fy.ix_x, Fy.ix_s, Fy.y_x, Fy.m_x, Fy.mt_t, Fy.mt_f, Fy.i_srd, Fy.i_best, Fy.is_t, Fy.xp_t, Fy.e_trv, Fy.e_trg, Fy.rv_t, Fy.rv_f, Fy.rv_r, Fy.rd_t, Fy.is_f, Fy.xp_f, Fy.wpC, Fy.h_ret, Fy.h_drop, Fy.h_dropB, Fy.h_dropN, Fy.h_tell, Fy.c_isnotIB, Fy.gz_r, Fy.en_t, Fy.en_f, Fy.zp_t, Fy.zp_f, Fy.i_max1, Fy.i_min1, Fy.i_sum1, Fy.b_rep, Fy.b_repT, Fy.c_isb, Fy.c_isnotb, Fy.e_lrg1, Fy.e_lrg2, Fy.b_add, Fy.b_sub, Fy.b_mul, Fy.b_fdiv, Fy.b_mod, Fy.b_pow, Fy.c_lt, Fy.c_le, Fy.c_gt, Fy.c_ge, Fy.c_eq, Fy.c_ne, Fy.c_is, Fy.c_isnot, Fy.q_int, Fy.q_bl, Fy.q_str, Fy.n_non, Fy.n_tup, Fy.n_int, Fy.n_ref, Fy.n_fl, Fy.n_str, Fy.n_bl, Fy.t_bl, Fy.l_t, Fy.l_f, Fy.i_abs, Fy.i_len, Fy.i_int, Fy.i_bl, Fy.i_max, Fy.i_min, Fy.ln_t, Fy.ln_f, Fy.ix_t, Fy.ix_f, Fy.ix_r, Fy.sx_r, Fy.at_0, Fy.at_1, Fy.at_2, Fy.at_3, Fy.at_4, Fy.at_5, Fy.at_6, Fy.at_7, Fy.ixn_0, Fy.ixn_1, Fy.ixn_2, Fy.ixn_3, Fy.ixn_4, Fy.ixn_5, Fy.ixn_6, Fy.ixn_7, Fy.it_t, Fy.it_f, Fy.it_r, Fy.rg_t, Fy.prD, Fy.sl_f, Fy.sl_r, Fy.dw_n, Fy.dw_c, Fy.e_gen, Fy.e_con, Fy.e_cty, Fy.kd_int, Fy.kd_str, Fy.i_isi, Fy.i_tuple, Fy.i_list, Fy.i_sorted, Fy.y_non, Fy.y_bl, Fy.y_int, Fy.y_str, Fy.y_tup, Fy.y_fl, Fy.m_t, Fy.m_f, Fy.w_f, Fy.c_in, Fy.c_notin, Fy.ln_s, Fy.it_s, Fy.sl_t, Fy.kn_1, Fy.kn_2, Fy.kn_3, Fy.kn_4, Fy.kn_5, Fy.kn_6, Fy.sb_1, Fy.sb_2, Fy.sb_3, Fy.sb_4, Fy.sb_5, Fy.sb_6, Fy.sb_7, Fy.sb_8, Fy.sb_9, Fy.sb_10, Fy.sb_11, Fy.sb_12, Fy.sb_13, Fy.sb_14, Fy.sb_15, Fy.sb_16, true_and, Fy.ex_some, decide_eq_true_eq, Bool.not_eq_true', decide_eq_false_iff_not, if_true, if_false, Bool.false_eq_true, Bool.true_eq_false, Bool.not_true, Bool.not_false, not_true_eq_false, not_false_eq_true, decide_true, decide_false])
local macro_rules | `(tactic| walk_at "fys") => do
  let h := Lean.mkIdent `hst
  `(tactic| simp only [Fy.dstart, List.map_cons, List.map_nil, List.length_cons, List.length_nil, Nat.reduceAdd, Nat.reduceSub, List.replicate_succ, List.replicate_zero, List.cons_append, List.nil_append, List.append_nil, Fy.wpSs, Fy.wpS, Fy.wpT, Fy.wpEs, Fy.e_and, Fy.e_or, Fy.e_not, Fy.e_neg, Fy.e_cmp2, Fy.e_var, Fy.e_int, Fy.e_bl, Fy.e_non, Fy.e_str, Fy.e_bin, Fy.e_cmp, Fy.e_ife, Fy.e_tup, Fy.e_lst, Fy.e_frz, Fy.e_call, Fy.e_bi, Fy.e_ix, Fy.e_sl, Fy.e_lc, Fy.ex_ix, Fy.ex_sx, Fy.ex_get, Fy.put_same, Fy.put_put, Fy.wpI, Fy.o_int, Fy.o_nil, Fy.o_one, Fy.ts_nil, Fy.ts_one, Fy.a_nm, Fy.a_tp, Fy.a_tf, Fy.a_nil, Fy.a_cons, List.set_cons_zero, List.set_cons_succ, Fy.getP_0, Fy.getP_S, Fy.brP_bl, Fy.notP_bl, Fy.negP_int, Fy.sl_s, Fy.bi_add, Fy.bi_sub, Fy.bi_mul, Fy.bi_fdiv, Fy.bi_mod, Fy.b_str, Fy.b_tup, Fy.b_ff, Fy.e_mt, Fy.e_lc2, Fy.e_rev, Fy.e_rp, Fy.b_rp, Fy.e_thk, Fy.e_srk, Fy.e_dnew, Fy.e_dg, Fy.e_din, Fy.e_dgt, Option.map_some, Option.map_none, Option.isSome_some, Option.isSome_none, Option.getD_some, Option.getD_none, Fy.bn_1, Fy.bn_2, Fy.bn_3, Fy.bn_4, Fy.e_dis, Fy.e_fzd, Fy.fz_r, Fy.e_dln, Fy.e_deq, Fy.e_dcp, Fy.e_dpo, Fy.e_dks, Fy.it_d, Fy.ln_d, Fy.y_fd, Fy.ko_s, Fy.ko_i, Fy.ko_ss, Fy.dr_f, Fy.da_f, Fy.isd_f, Fy.ex_key, Fy.e_mnk, Fy.e_idx, Fy.e_tpx, Fy.e_join, Fy.jn_f, Fy.e_tdc, Fy.e_dkp, Fy.sl_x, Fy.b_repS, Fy.it_x, Fy.rv_x, Fy.ln_x, Fy.ix_x, Fy.ix_s, Fy.y_x, Fy.m_x, Fy.mt_t, Fy.mt_f, Fy.i_srd, Fy.i_best, Fy.is_t, Fy.xp_t, Fy.e_trv, Fy.e_trg, Fy.rv_t, Fy.rv_f, Fy.rv_r, Fy.rd_t, Fy.is_f, Fy.xp_f, Fy.wpC, Fy.h_ret, Fy.h_drop, Fy.h_dropB, Fy.h_dropN, Fy.h_tell, Fy.c_isnotIB, Fy.gz_r, Fy.en_t, Fy.en_f, Fy.zp_t, Fy.zp_f, Fy.i_max1, Fy.i_min1, Fy.i_sum1, Fy.b_rep, Fy.b_repT, Fy.c_isb, Fy.c_isnotb, Fy.e_lrg1, Fy.e_lrg2, Fy.b_add, Fy.b_sub, Fy.b_mul, Fy.b_fdiv, Fy.b_mod, Fy.b_pow, Fy.c_lt, Fy.c_le, Fy.c_gt, Fy.c_ge, Fy.c_eq, Fy.c_ne, Fy.c_is, Fy.c_isnot, Fy.q_int, Fy.q_bl, Fy.q_str, Fy.n_non, Fy.n_tup, Fy.n_int, Fy.n_ref, Fy.n_fl, Fy.n_str, Fy.n_bl, Fy.t_bl, Fy.l_t, Fy.l_f, Fy.i_abs, Fy.i_len, Fy.i_int, Fy.i_bl, Fy.i_max, Fy.i_min, Fy.ln_t, Fy.ln_f, Fy.ix_t, Fy.ix_f, Fy.ix_r, Fy.sx_r, Fy.at_0, Fy.at_1, Fy.at_2, Fy.at_3, Fy.at_4, Fy.at_5, Fy.at_6, Fy.at_7, Fy.ixn_0, Fy.ixn_1, Fy.ixn_2, Fy.ixn_3, Fy.ixn_4, Fy.ixn_5, Fy.ixn_6, Fy.ixn_7, Fy.it_t, Fy.it_f, Fy.it_r, Fy.rg_t, Fy.prD, Fy.sl_f, Fy.sl_r, Fy.dw_n, Fy.dw_c, Fy.e_gen, Fy.e_con, Fy.e_cty, Fy.kd_int, Fy.kd_str, Fy.i_isi, Fy.i_tuple, Fy.i_list, Fy.i_sorted, Fy.y_non, Fy.y_bl, Fy.y_int, Fy.y_str, Fy.y_tup, Fy.y_fl, Fy.m_t, Fy.m_f, Fy.w_f, Fy.c_in, Fy.c_notin, Fy.ln_s, Fy.it_s, Fy.sl_t, Fy.kn_1, Fy.kn_2, Fy.kn_3, Fy.kn_4, Fy.kn_5, Fy.kn_6, Fy.sb_1, Fy.sb_2, Fy.sb_3, Fy.sb_4, Fy.sb_5, Fy.sb_6, Fy.sb_7, Fy.sb_8, Fy.sb_9, Fy.sb_10, Fy.sb_11, Fy.sb_12, Fy.sb_13, Fy.sb_14, Fy.sb_15, Fy.sb_16, true_and, Fy.ex_some, decide_eq_true_eq, Bool.not_eq_true', decide_eq_false_iff_not, if_true, if_false, Bool.false_eq_true, Bool.true_eq_false, Bool.not_true, Bool.not_false, not_true_eq_false, not_false_eq_true, decide_true, decide_false, $h:ident])
local macro_rules | `(tactic| walk_at "fyc") => `(tactic| simp only [Fy.dstart, List.map_cons, List.map_nil, List.length_cons, List.length_nil, Nat.reduceAdd, Nat.reduceSub, List.replicate_succ, List.replicate_zero, List.cons_append, List.nil_append, List.append_nil, Fy.wpSs, Fy.wpS, Fy.wpT, Fy.wpEs, Fy.e_and, Fy.e_or, Fy.e_not, Fy.e_neg, Fy.e_cmp2, Fy.e_var, Fy.e_int, Fy.e_bl, Fy.e_non, Fy.e_str, Fy.e_bin, Fy.e_cmp, Fy.e_ife, Fy.e_tup, Fy.e_lst, Fy.e_frz, Fy.e_call, Fy.e_bi, Fy.e_ix, Fy.e_sl, Fy.e_lc, Fy.ex_ix, Fy.ex_sx, Fy.ex_get, Fy.put_same, Fy.put_put, Fy.wpI, Fy.o_int, Fy.o_nil, Fy.o_one, Fy.ts_nil, Fy.ts_one, Fy.a_nm, Fy.a_tp, Fy.a_tf, Fy.a_nil, Fy.a_cons, List.set_cons_zero, List.set_cons_succ, Fy.getP_0, Fy.getP_S, Fy.brP_bl, Fy.notP_bl, Fy.negP_int, Fy.sl_s, Fy.bi_add, Fy.bi_sub, Fy.bi_mul, Fy.bi_fdiv, Fy.bi_mod, Fy.b_str, Fy.b_tup, Fy.b_ff, Fy.e_mt, Fy.e_lc2, Fy.e_rev, Fy.e_rp, Fy.b_rp, Fy.e_thk, Fy.e_srk, Fy.e_dnew, Fy.e_dg, Fy.e_din, Fy.e_dgt, Option.map_some, Option.map_none, Option.isSome_some, Option.isSome_none, Option.getD_some, Option.getD_none, Fy.bn_1, Fy.bn_2, Fy.bn_3, Fy.bn_4, Fy.e_dis, Fy.e_fzd, Fy.fz_r, Fy.e_dln, Fy.e_deq, Fy.e_dcp, Fy.e_dpo, Fy.e_dks, Fy.it_d, Fy.ln_d, Fy.y_fd, Fy.ko_s, Fy.ko_i, Fy.ko_ss, Fy.dr_f, Fy.da_f, Fy.isd_f, Fy.ex_key, Fy.e_mnk, Fy.e_idx, Fy.e_tpx, Fy.e_join, Fy.jn_f, Fy.e_tdc, Fy.e_dkp, Fy.sl_x, Fy.b_repS, Fy.it_x, Fy.rv_x, Fy.ln_x, Fy.ix_x, Fy.ix_s, Fy.y_x, Fy.m_x, Fy.mt_t, Fy.mt_f, Fy.i_srd, Fy.i_best, Fy.is_t, Fy.xp_t, Fy.e_trv, Fy.e_trg, Fy.rv_t, Fy.rv_f, Fy.rv_r, Fy.rd_t, Fy.is_f, Fy.xp_f, Fy.wpC, Fy.h_ret, Fy.h_drop, Fy.h_dropB, Fy.h_dropN, Fy.h_tell, Fy.c_isnotIB, Fy.gz_r, Fy.en_t, Fy.en_f, Fy.zp_t, Fy.zp_f, Fy.i_max1, Fy.i_min1, Fy.i_sum1, Fy.b_rep, Fy.b_repT, Fy.c_isb, Fy.c_isnotb, Fy.e_lrg1, Fy.e_lrg2, Fy.b_add, Fy.b_sub, Fy.b_mul, Fy.b_fdiv, Fy.b_mod, Fy.b_pow, Fy.c_lt, Fy.c_le, Fy.c_gt, Fy.c_ge, Fy.c_eq, Fy.c_ne, Fy.c_is, Fy.c_isnot, Fy.q_int, Fy.q_bl, Fy.q_str, Fy.n_non, Fy.n_tup, Fy.n_int, Fy.n_ref, Fy.n_fl, Fy.n_str, Fy.n_bl, Fy.t_bl, Fy.l_t, Fy.l_f, Fy.i_abs, Fy.i_len, Fy.i_int, Fy.i_bl, Fy.i_max, Fy.i_min, Fy.ln_t, Fy.ln_f, Fy.ix_t, Fy.ix_f, Fy.ix_r, Fy.sx_r, Fy.at_0, Fy.at_1, Fy.at_2, Fy.at_3, Fy.at_4, Fy.at_5, Fy.at_6, Fy.at_7, Fy.ixn_0, Fy.ixn_1, Fy.ixn_2, Fy.ixn_3, Fy.ixn_4, Fy.ixn_5, Fy.ixn_6, Fy.ixn_7, Fy.it_t, Fy.it_f, Fy.it_r, Fy.rg_t, Fy.prD, Fy.sl_f, Fy.sl_r, Fy.dw_n, Fy.dw_c, Fy.e_gen, Fy.e_con, Fy.e_cty, Fy.kd_int, Fy.kd_str, Fy.i_isi, Fy.i_tuple, Fy.i_list, Fy.i_sorted, Fy.y_non, Fy.y_bl, Fy.y_int, Fy.y_str, Fy.y_tup, Fy.y_fl, Fy.m_t, Fy.m_f, Fy.w_f, Fy.c_in, Fy.c_notin, Fy.ln_s, Fy.it_s, Fy.sl_t, Fy.kn_1, Fy.kn_2, Fy.kn_3, Fy.kn_4, Fy.kn_5, Fy.kn_6, Fy.sb_1, Fy.sb_2, Fy.sb_3, Fy.sb_4, Fy.sb_5, Fy.sb_6, Fy.sb_7, Fy.sb_8, Fy.sb_9, Fy.sb_10, Fy.sb_11, Fy.sb_12, Fy.sb_13, Fy.sb_14, Fy.sb_15, Fy.sb_16, true_and, Fy.ex_some, decide_eq_true_eq, Bool.not_eq_true', decide_eq_false_iff_not, if_true, if_false, Bool.false_eq_true, Bool.true_eq_false, Bool.not_true, Bool.not_false, not_true_eq_false, not_false_eq_true, decide_true, decide_false, Fy.forL, Fy.genL, Fy.gs_1, Fy.gs_2, Fy.gs_3, Fy.gs_4, Fy.gs_5, Fy.gs_6, Fy.ge_1, Fy.ge_2, Fy.ge_3, Fy.lcL, Fy.Src.ok, Fy.b_ff, List.all_cons, List.all_nil, List.any_cons, List.any_nil, Int.reduceLT, Int.reduceLE, Int.reduceEq, Int.reduceNeg, Int.reduceAdd, Int.reduceSub, Int.reduceMul, Int.reduceMod, Int.reduceDiv, Int.reduceToNat, Int.natCast_one, Int.natCast_zero, Int.cast_ofNat_Int, Int.neg_neg, and_self, and_true, or_true, or_false, true_or, false_or, Bool.not_eq_eq_eq_not, ite_true, ite_false, ite_self, Nat.reduceLeDiff, Nat.reduceEqDiff, Nat.reduceLT, reduceIte, and_false, false_and, not_true_eq_false, not_false_eq_true, Nat.reduceMul, reduceCtorEq, ne_eq])
local macro_rules | `(tactic| walk_at "fyt") => do
  let h := Lean.mkIdent `tl
  `(tactic| simp only [Fy.dstart, List.map_cons, List.map_nil, List.length_cons, List.length_nil, Nat.reduceAdd, Nat.reduceSub, List.replicate_succ, List.replicate_zero, List.cons_append, List.nil_append, List.append_nil, Fy.wpSs, Fy.wpS, Fy.wpT, Fy.wpEs, Fy.e_and, Fy.e_or, Fy.e_not, Fy.e_neg, Fy.e_cmp2, Fy.e_var, Fy.e_int, Fy.e_bl, Fy.e_non, Fy.e_str, Fy.e_bin, Fy.e_cmp, Fy.e_ife, Fy.e_tup, Fy.e_lst, Fy.e_frz, Fy.e_call, Fy.e_bi, Fy.e_ix, Fy.e_sl, Fy.e_lc, Fy.ex_ix, Fy.ex_sx, Fy.ex_get, Fy.put_same, Fy.put_put, Fy.wpI, Fy.o_int, Fy.o_nil, Fy.o_one, Fy.ts_nil, Fy.ts_one, Fy.a_nm, Fy.a_tp, Fy.a_tf, Fy.a_nil, Fy.a_cons, List.set_cons_zero, List.set_cons_succ, Fy.getP_0, Fy.getP_S, Fy.brP_bl, Fy.notP_bl, Fy.negP_int, Fy.sl_s, Fy.bi_add, Fy.bi_sub, Fy.bi_mul, Fy.bi_fdiv, Fy.bi_mod, Fy.b_str, Fy.b_tup, Fy.b_ff, Fy.e_mt, Fy.e_lc2, Fy.e_rev, Fy.e_rp, Fy.b_rp, Fy.e_thk, Fy.e_srk, Fy.e_dnew, Fy.e_dg, Fy.e_din, Fy.e_dgt, Option.map_some, Option.map_none, Option.isSome_some, Option.isSome_none, Option.getD_some, Option.getD_none, Fy.bn_1, Fy.bn_2, Fy.bn_3, Fy.bn_4, Fy.e_dis, Fy.e_fzd, Fy.fz_r, Fy.e_dln, Fy.e_deq, Fy.e_dcp, Fy.e_dpo, Fy.e_dks, Fy.it_d, Fy.ln_d, Fy.y_fd, Fy.ko_s, Fy.ko_i, Fy.ko_ss, Fy.dr_f, Fy.da_f, Fy.isd_f, Fy.ex_key, Fy.e_mnk, Fy.e_idx, Fy.e_tpx, Fy.e_join, Fy.jn_f, Fy.e_tdc, Fy.e_dkp, Fy.sl_x, Fy.b_repS, Fy.it_x, Fy.rv_x, Fy.ln_x, Fy.ix_x, Fy.ix_s, Fy.y_x, Fy.m_x, Fy.mt_t, Fy.mt_f, Fy.i_srd, Fy.i_best, Fy.is_t, Fy.xp_t, Fy.e_trv, Fy.e_trg, Fy.rv_t, Fy.rv_f, Fy.rv_r, Fy.rd_t, Fy.is_f, Fy.xp_f, Fy.wpC, Fy.h_ret, Fy.h_drop, Fy.h_dropB, Fy.h_dropN, Fy.h_tell, Fy.c_isnotIB, Fy.gz_r, Fy.en_t, Fy.en_f, Fy.zp_t, Fy.zp_f, Fy.i_max1, Fy.i_min1, Fy.i_sum1, Fy.b_rep, Fy.b_repT, Fy.c_isb, Fy.c_isnotb, Fy.e_lrg1, Fy.e_lrg2, Fy.b_add, Fy.b_sub, Fy.b_mul, Fy.b_fdiv, Fy.b_mod, Fy.b_pow, Fy.c_lt, Fy.c_le, Fy.c_gt, Fy.c_ge, Fy.c_eq, Fy.c_ne, Fy.c_is, Fy.c_isnot, Fy.q_int, Fy.q_bl, Fy.q_str, Fy.n_non, Fy.n_tup, Fy.n_int, Fy.n_ref, Fy.n_fl, Fy.n_str, Fy.n_bl, Fy.t_bl, Fy.l_t, Fy.l_f, Fy.i_abs, Fy.i_len, Fy.i_int, Fy.i_bl, Fy.i_max, Fy.i_min, Fy.ln_t, Fy.ln_f, Fy.ix_t, Fy.ix_f, Fy.ix_r, Fy.sx_r, Fy.at_0, Fy.at_1, Fy.at_2, Fy.at_3, Fy.at_4, Fy.at_5, Fy.at_6, Fy.at_7, Fy.ixn_0, Fy.ixn_1, Fy.ixn_2, Fy.ixn_3, Fy.ixn_4, Fy.ixn_5, Fy.ixn_6, Fy.ixn_7, Fy.it_t, Fy.it_f, Fy.it_r, Fy.rg_t, Fy.prD, Fy.sl_f, Fy.sl_r, Fy.dw_n, Fy.dw_c, Fy.e_gen, Fy.e_con, Fy.e_cty, Fy.kd_int, Fy.kd_str, Fy.i_isi, Fy.i_tuple, Fy.i_list, Fy.i_sorted, Fy.y_non, Fy.y_bl, Fy.y_int, Fy.y_str, Fy.y_tup, Fy.y_fl, Fy.m_t, Fy.m_f, Fy.w_f, Fy.c_in, Fy.c_notin, Fy.ln_s, Fy.it_s, Fy.sl_t, Fy.kn_1, Fy.kn_2, Fy.kn_3, Fy.kn_4, Fy.kn_5, Fy.kn_6, Fy.sb_1, Fy.sb_2, Fy.sb_3, Fy.sb_4, Fy.sb_5, Fy.sb_6, Fy.sb_7, Fy.sb_8, Fy.sb_9, Fy.sb_10, Fy.sb_11, Fy.sb_12, Fy.sb_13, Fy.sb_14, Fy.sb_15, Fy.sb_16, true_and, Fy.ex_some, decide_eq_true_eq, Bool.not_eq_true', decide_eq_false_iff_not, if_true, if_false, Bool.false_eq_true, Bool.true_eq_false, Bool.not_true, Bool.not_false, not_true_eq_false, not_false_eq_true, decide_true, decide_false] at $h:ident)
namespace K01
open PySem PySem.Spec PyProof.Rows L2 Fy
abbrev PF : List FnD := prog.map PD.fn
abbrev gc (x y : Int) : Int := (Int.gcd x y : Nat)
theorem gc_step {a b : Int} (ha : 0 ≤ a) (hb : 0 ≤ b) : gc b (a % b) = gc a b := by
  obtain ⟨m, rfl⟩ : ∃ m : Nat, a = (m : Int) := ⟨a.toNat, by omega⟩
  obtain ⟨k, rfl⟩ : ∃ k : Nat, b = (k : Int) := ⟨b.toNat, by omega⟩
  show ((Nat.gcd _ _ : Nat) : Int) = ((Nat.gcd _ _ : Nat) : Int)
  rw [← Int.natCast_emod]
  simp only [Int.natAbs_natCast]
  rw [Nat.gcd_comm k, ← Nat.gcd_rec, Nat.gcd_comm]
theorem gc_zero {a : Int} (ha : 0 ≤ a) : gc a 0 = a := by
  show ((Nat.gcd _ _ : Nat) : Int) = a
  simp only [Int.natAbs_zero, Nat.gcd_zero_right]
  omega
theorem gc_comm {a b : Int} : gc a b = gc b a := by
  show ((Int.gcd _ _ : Nat) : Int) = _
  rw [Int.gcd_comm]
theorem gc_dvd1 {a b : Int} : gc a b ∣ a := Int.gcd_dvd_left ..
theorem gc_dvd2 {a b : Int} : gc a b ∣ b := Int.gcd_dvd_right ..
theorem gc_pos {a b : Int} (ha : 0 < a) : 0 < gc a b := by
  have h0 : 0 ≤ gc a b := by show (0 : Int) ≤ ((Int.gcd _ _ : Nat) : Int); omega
  rcases Int.lt_or_eq_of_le h0 with h | h
  · exact h
  · obtain ⟨c, e⟩ := gc_dvd1 (a := a) (b := b)
    rw [← h, Int.zero_mul] at e
    omega
theorem gc_le {a b : Int} (ha : 0 < a) : gc a b ≤ a := Int.le_of_dvd ha gc_dvd1
theorem gcd_ok {n : Nat} (hn : 1 ≤ n) {x y : Int} (hx : 0 ≤ x) (hy : 0 ≤ y) {st : Sto} {R : D → Sto → Prop} {E : Exc → Sto → Prop} (hR : R (.int (gc x y)) st) : wpFn PF n f_greatest_common [.int x, .int y] st R E := by
  obtain ⟨n, rfl⟩ : ∃ m, n = m + 1 := ⟨n - 1, by omega⟩
  refine ⟨d_greatest_common.fn, rfl, rfl, ?_⟩
  simp only [PD.fn, d_greatest_common, b_greatest_common]
  try walk_at "fy"
  refine while_by (fun s st2 => st2 = st ∧ ∃ a b : Int, 0 ≤ a ∧ 0 ≤ b ∧ gc a b = gc x y ∧ s = [some (.int a), some (.int b)]) (fun s _ => match s with | [_, some (.int b)] => b.toNat | _ => 0) ⟨rfl, x, y, hx, hy, rfl, rfl⟩ ?_
  rintro s st2 Kn ⟨rfl, a, b, ha, hb, e, rfl⟩ q
  try walk_at "fy"
  by_cases c : b = 0
  · subst c
    rw [if_neg (by simp)]
    try walk_at "fy"
    rw [gc_zero ha] at e
    split
    · omega
    · rw [e]; exact fg0 hR
  · rw [if_pos (by simpa using c)]
    refine ⟨by omega, ?_⟩
    have m1 := Int.emod_nonneg a c
    have m2 := Int.emod_lt_of_pos a (show 0 < b by omega)
    exact q _ _ ⟨rfl, b, a % b, by omega, by omega, by rw [gc_step ha hb]; exact e, rfl⟩ (by show (a % b).toNat < b.toNat; omega)
theorem ways_ok {n : Nat} (hn : 1 ≤ n) {x y : Int} (hx : 0 ≤ x ∧ x < 2 ^ 40) (hy : 0 ≤ y ∧ y < 1073741824) {st : Sto} {R : D → Sto → Prop} {E : Exc → Sto → Prop} (hR : ∀ u v : Int, u * x + v * y = gc x y → R (.tup [.int (gc x y), .int u, .int v]) st) : wpFn PF n f_ways_of [.int x, .int y] st R E := by
  obtain ⟨n, rfl⟩ : ∃ m, n = m + 1 := ⟨n - 1, by omega⟩
  refine ⟨d_ways_of.fn, rfl, rfl, ?_⟩
  simp only [PD.fn, d_ways_of, b_ways_of]
  try walk_at "fy"
  refine while_by (fun s st2 => st2 = st ∧ ∃ (a b u v w z : Int) (l : Option D), 0 ≤ a ∧ a < 2 ^ 40 ∧ 0 ≤ b ∧ b < 1073741824 ∧ gc a b = gc x y ∧ u * x + w * y = a ∧ v * x + z * y = b ∧ s = [some (.int a), some (.int b), some (.int u), some (.int v), some (.int w), some (.int z), l]) (fun s _ => match s with | [_, some (.int b), _, _, _, _, _] => b.toNat | _ => 0) ⟨rfl, x, y, 1, 0, 0, 1, _, hx.1, hx.2, hy.1, hy.2, rfl, by omega, by omega, rfl⟩ ?_
  rintro s st2 Kn ⟨rfl, a, b, u, v, w, z, l, ha, ha2, hb, hb2, e, e1, e2, rfl⟩ q
  try walk_at "fy"
  by_cases c : b = 0
  · subst c
    rw [if_neg (by simp)]
    try walk_at "fy"
    rw [gc_zero ha] at e
    subst e
    exact fg0 (hR u w e1)
  · rw [if_pos (by simpa using c)]
    have m1 := Int.emod_nonneg a c
    have m2 := Int.emod_lt_of_pos a (show 0 < b by omega)
    have em : a - a / b * b = a % b := by have := Int.emod_add_mul_ediv a b; rw [Int.mul_comm b] at this; omega
    have q0 : 0 ≤ a / b := Int.ediv_nonneg ha hb
    have q1 : a / b ≤ a := Int.ediv_le_self b ha
    have cm : ∀ t : Int, CMul (a / b) t := fun t => .inl ⟨by omega, by omega⟩
    refine ⟨by omega, cm _, ?_⟩
    try walk_at "fy"
    refine ⟨cm _, ?_⟩
    try walk_at "fy"
    refine ⟨cm _, ?_⟩
    try walk_at "fy"
    refine q _ _ ⟨rfl, b, a - a / b * b, v, u - a / b * v, z, w - a / b * z, _, by omega, by omega, by omega, by omega, by rw [em, gc_step ha hb]; exact e, e2, ?_, rfl⟩ (by show (a - a / b * b).toNat < b.toNat; omega)
    rw [Int.sub_mul, Int.sub_mul, Int.mul_assoc, Int.mul_assoc]
    have : a / b * b = a / b * (v * x) + a / b * (z * y) := by rw [← Int.mul_add, e2]

    omega
theorem lcm_ok {n : Nat} (hn : 2 ≤ n) {x y : Int} (hx : 0 < x ∧ x < 1073741824) (hy : 0 < y ∧ y < 1073741824) {st : Sto} {R : D → Sto → Prop} {E : Exc → Sto → Prop} (hR : R (.int (x / gc x y * y)) st) : wpFn PF n f_least_common [.int x, .int y] st R E := by
  obtain ⟨n, rfl⟩ : ∃ m, n = m + 1 := ⟨n - 1, by omega⟩
  refine ⟨d_least_common.fn, rfl, rfl, ?_⟩
  simp only [PD.fn, d_least_common, b_least_common]
  try walk_at "fy"
  refine gcd_ok (by omega) (by omega) (by omega) ?_
  have g1 := gc_pos (b := y) hx.1
  have g2 := gc_le (b := y) hx.1
  try walk_at "fy"
  exact ⟨⟨g1, by omega⟩, .inr ⟨by omega, by omega⟩, fg0 hR⟩
theorem up_ok {n : Nat} (hn : 1 ≤ n) {x y : Int} (hy : 0 < y ∧ y < 1073741824) {st : Sto} {R : D → Sto → Prop} {E : Exc → Sto → Prop} (hR : R (.int (-(-x / y))) st) : wpFn PF n f_rounded_up [.int x, .int y] st R E := by
  obtain ⟨n, rfl⟩ : ∃ m, n = m + 1 := ⟨n - 1, by omega⟩
  refine ⟨d_rounded_up.fn, rfl, rfl, ?_⟩
  simp only [PD.fn, d_rounded_up, b_rounded_up]
  try walk_at "fy"
  exact ⟨hy, fg0 hR⟩
theorem wh_bl {n : Nat} (hn : 1 ≤ n) {b : Bool} {lo hi : Int} {st : Sto} {R : D → Sto → Prop} {E : Exc → Sto → Prop} (hR : R (.bl false) st) : wpFn PF n f_is_whole [.bl b, .int lo, .int hi] st R E := by
  obtain ⟨n, rfl⟩ : ∃ m, n = m + 1 := ⟨n - 1, by omega⟩
  refine ⟨d_is_whole.fn, rfl, rfl, ?_⟩
  simp only [PD.fn, d_is_whole, b_is_whole]
  try walk_at "fy"
  exact fg0 hR
theorem wh_non {n : Nat} (hn : 1 ≤ n) {lo hi : Int} {st : Sto} {R : D → Sto → Prop} {E : Exc → Sto → Prop} (hR : R (.bl false) st) : wpFn PF n f_is_whole [.non, .int lo, .int hi] st R E := by
  obtain ⟨n, rfl⟩ : ∃ m, n = m + 1 := ⟨n - 1, by omega⟩
  refine ⟨d_is_whole.fn, rfl, rfl, ?_⟩
  simp only [PD.fn, d_is_whole, b_is_whole]
  try walk_at "fy"
  exact fg0 hR
theorem wh_str {n : Nat} (hn : 1 ≤ n) {x : Str} {lo hi : Int} {st : Sto} {R : D → Sto → Prop} {E : Exc → Sto → Prop} (hR : R (.bl false) st) : wpFn PF n f_is_whole [.str x, .int lo, .int hi] st R E := by
  obtain ⟨n, rfl⟩ : ∃ m, n = m + 1 := ⟨n - 1, by omega⟩
  refine ⟨d_is_whole.fn, rfl, rfl, ?_⟩
  simp only [PD.fn, d_is_whole, b_is_whole]
  try walk_at "fy"
  exact fg0 hR
/-- check_whole, of what is_whole tells v -/
theorem ck_wh {n : Nat} (hn : 2 ≤ n) {d : D} {v : Bool} {lo hi : Int} (hd : ∀ n, 1 ≤ n → ∀ (st : Sto) (R : D → Sto → Prop) (E : Exc → Sto → Prop), R (.bl v) st → wpFn PF n f_is_whole [d, .int lo, .int hi] st R E)
    {st : Sto} {R : D → Sto → Prop} {E : Exc → Sto → Prop} (hR : if v = true then R .non st else E ⟨2, none⟩ st) : wpFn PF n f_check_whole [d, .int lo, .int hi] st R E := by
  obtain ⟨n, rfl⟩ : ∃ m, n = m + 1 := ⟨n - 1, by omega⟩
  refine ⟨d_check_whole.fn, rfl, rfl, ?_⟩
  simp only [PD.fn, d_check_whole, b_check_whole]
  try walk_at "fy"
  refine hd n (by omega) _ _ _ ?_
  try walk_at "fy"
  cases v with
  | true =>
    rw [if_pos rfl] at hR
    try walk_at "fy"
    exact fg0 hR
  | false =>
    rw [if_neg (by decide)] at hR
    try walk_at "fy"
    exact ⟨st, Sub.refl _, hR⟩
def badN : List D := [.tup [.str "a", .str "a"], .tup [.str "a", .str ""], .fl [.str "a"], .tup [.str "a", .int 5], .non]
theorem an_no {n : Nat} {d : D} (hd : d ∈ badN) {st : Sto} {R : D → Sto → Prop} {E : Exc → Sto → Prop} (hR : R (.bl false) st) : wpFn PF (n + 3) f_are_names [d] st R E := by
  simp only [badN, List.mem_cons, List.not_mem_nil, or_false] at hd
  rcases hd with rfl | rfl | rfl | rfl | rfl <;> exact run_v (by kernel_rfl) hR
theorem cn_no {n : Nat} {d : D} (hd : d ∈ badN) {st : Sto} {R : D → Sto → Prop} {E : Exc → Sto → Prop} (hE : E ⟨1, none⟩ st) : wpFn PF (n + 4) f_check_names [d] st R E := by
  simp only [badN, List.mem_cons, List.not_mem_nil, or_false] at hd
  rcases hd with rfl | rfl | rfl | rfl | rfl <;> exact run_x (by kernel_rfl) hE
theorem cn_yes {n : Nat} {st : Sto} {R : D → Sto → Prop} {E : Exc → Sto → Prop} (hR : R .non st) : wpFn PF (n + 4) f_check_names [.tup [.str "a", .str "bb"]] st R E := run_v (by kernel_rfl) hR
set_option maxHeartbeats 4000000 in
theorem law_true (ns : List Int) (hl : ns.length ≤ 63) (hb : ∀ z ∈ ns, Builtin.Int.intBits z ≤ 1048576) : wpFn (prog.map PD.fn) 40 f_law [.scr (ns.map D.int)] (fun _ => none) (fun v _ => v = .bl true) fun _ _ => False := by
  refine ⟨d_law.fn, rfl, rfl, ?_⟩
  simp only [PD.fn, d_law, b_law]
  have sl : 3000000 ≤ sizeLine := by decide
  try walk_at "fy"
  refine rounds_ok (P := PF) (fd := f_law_dice) rfl rfl (by decide) ns 8 fun qs st hqs => ?_
  try walk_at "fy"
  refine forL_t D.ref qs (fun _ s st => (∃ v1 v2 v3 v4 v5 v6 v7 v8 v9 v10 v11 : Option D, s = [some (.scr (ns.map D.int)), v1, v2, v3, v4, v5, v6, v7, v8, v9, v10, v11]) ∧ ∀ p ∈ qs, Dice st p) ⟨⟨_, _, _, _, _, _, _, _, _, _, _, rfl⟩, hqs⟩ ?_ ?_
  rotate_left
  · rintro s st ⟨⟨v1, v2, v3, v4, v5, v6, v7, v8, v9, v10, v11, rfl⟩, hqs⟩
    try walk_at "fy"
    refine run_v (n := 39) (d := .bl true) (by kernel_rfl) ?_
    exact fg0 rfl
  rintro pre p post s st K0 e ⟨⟨v1, v2, v3, v4, v5, v6, v7, v8, v9, v10, v11, rfl⟩, hqs⟩ q
  have hp : p ∈ qs := by rw [e]; simp
  try walk_at "fy"
  refine roll_all (P := PF) (f := f_law_roll) rfl (by decide) (ps := qs) (st0 := st) ⟨hqs, fun _ _ => rfl⟩ hp (by decide) (by decide) fun r0 st1 h0 h1 hd1 => ?_
  obtain ⟨high, hh, hat⟩ : ∃ high : Int, (high = 41 ∨ high = 1000001) ∧ atI [D.int 41, D.int 1000001] r0 = some (.int high) := by
    rcases (show r0 = 0 ∨ r0 = 1 by omega) with rfl | rfl
    · exact ⟨41, .inl rfl, rfl⟩
    · exact ⟨1000001, .inr rfl, rfl⟩
  try walk_at "fy"
  refine ⟨_, hat, ?_⟩
  try walk_at "fy"
  refine roll_all (P := PF) (f := f_law_roll) rfl (by decide) (ps := qs) (st0 := st1) ⟨hd1.all, fun _ _ => rfl⟩ hp (by omega) (by omega) fun r1 st2 h2 h3 hd2 => ?_
  try walk_at "fy"
  refine roll_all (P := PF) (f := f_law_roll) rfl (by decide) (ps := qs) (st0 := st2) ⟨hd2.all, fun _ _ => rfl⟩ hp (by omega) (by omega) fun r2 st3 h4 h5 hd3 => ?_
  try walk_at "fy"
  obtain ⟨x, hx⟩ : ∃ x, x = 1 + r1 := ⟨_, rfl⟩
  obtain ⟨y, hy⟩ : ∃ y, y = 1 + r2 := ⟨_, rfl⟩
  rw [← hx, ← hy]
  have x0 : 0 < x := by omega
  have y0 : 0 < y := by omega
  have x1 : x ≤ 1000001 := by omega
  have y1 : y ≤ 1000001 := by omega
  have g0 := gc_pos (b := y) x0
  have gx := gc_le (b := y) x0
  refine gcd_ok (by decide) (by omega) (by omega) ?_
  try walk_at "fy"
  have dx : x % gc x y = 0 := Int.emod_eq_zero_of_dvd gc_dvd1
  have dy : y % gc x y = 0 := Int.emod_eq_zero_of_dvd gc_dvd2
  refine ⟨g0, ?_⟩
  rw [if_neg (by simpa using dx)]
  refine ⟨g0, ?_⟩
  rw [if_neg (by simpa using dy), if_neg (by omega)]
  refine gcd_ok (by decide) (by omega) (by omega) ?_
  rw [show gc y x = gc x y from gc_comm]
  try walk_at "fy"
  refine ways_ok (by decide) ⟨by omega, by omega⟩ ⟨by omega, by omega⟩ fun u v huv => ?_
  try walk_at "fy"
  refine ⟨.inr ⟨by omega, by omega⟩, .inr ⟨by omega, by omega⟩, ?_⟩
  try walk_at "fy"
  rw [if_neg (by simpa using huv)]
  refine lcm_ok (by decide) ⟨by omega, by omega⟩ ⟨by omega, by omega⟩ ?_
  have lc : x / gc x y * y * gc x y = x * y := by
    rw [Int.mul_assoc, Int.mul_comm y, ← Int.mul_assoc, Int.ediv_mul_cancel gc_dvd1]
  try walk_at "fy"
  refine ⟨.inr ⟨by omega, by omega⟩, .inl ⟨by omega, by omega⟩, ?_⟩
  rw [if_neg (by simpa using lc)]
  refine gcd_ok (by decide) (by omega) (by omega) ?_
  rw [gc_zero (show 0 ≤ x by omega)]
  try walk_at "fy"
  refine gcd_ok (by decide) (by omega) (by omega) ?_
  rw [gc_zero (show (0 : Int) ≤ 0 by omega)]
  try walk_at "fy"
  refine up_ok (by decide) ⟨by omega, by omega⟩ ?_
  obtain ⟨m, hm⟩ : ∃ m, m = -(-x / y) := ⟨_, rfl⟩
  rw [← hm]
  have em := Int.emod_add_mul_ediv (-x) y
  have e1 := Int.emod_nonneg (-x) (show y ≠ 0 by omega)
  have e2 := Int.emod_lt_of_pos (-x) y0
  have e3 : y * (-x / y) = - (m * y) := by rw [hm, Int.neg_mul, Int.neg_neg, Int.mul_comm]
  rw [e3] at em
  have e4 : (m - 1) * y = m * y - y := by rw [Int.sub_mul, Int.one_mul]
  try walk_at "fy"
  refine ⟨.inr ⟨by omega, by omega⟩, ?_⟩
  rw [if_neg (by omega)]
  try walk_at "fy"
  refine ⟨.inr ⟨by omega, by omega⟩, ?_⟩
  rw [if_neg (by omega)]
  try walk_at "fy"
  refine forL_d [.int (x - 1), .int (y + 1), .bl true, .non, .str "1"] (fun _ s stx => stx = st3 ∧ ∃ w10 w11 : Option D, s = [some (.scr (ns.map D.int)), some (.ref p), some (.int high), some (.int x), some (.int y), some (.int (gc x y)), some (.int (gc x y)), some (.int u), some (.int v), some (.int m), w10, w11]) ⟨rfl, _, _, rfl⟩ ?_ ?_
  · rintro pre2 d post2 s stx K1 e5 ⟨rfl, w10, w11, rfl⟩ q1
    have hd : d ∈ [D.int (x - 1), .int (y + 1), .bl true, .non, .str "1"] := by rw [e5]; simp
    have mi : ∀ k : Int, k = x - 1 ∨ k = y + 1 → k ∈ [x - 1, y + 1] := fun k hk => by simpa using hk
    simp only [List.mem_cons, List.not_mem_nil, or_false] at hd
    rcases hd with rfl | rfl | rfl | rfl | rfl
    · try walk_at "fy"
      refine in_ints (xs := [x - 1, y + 1]) ?_
      rw [decide_eq_true (mi _ (.inl rfl))]
      try walk_at "fy"
      rw [if_neg (by omega)]
      refine who_int (P := PF) (f := f_is_whole) rfl (by decide) ?_
      rw [show decide (x ≤ x - 1 ∧ x - 1 ≤ y) = false from decide_eq_false (by omega)]
      try walk_at "fy"
      refine ck_wh (v := false) (by decide) (fun n hn st R E h => who_int (P := PF) (f := f_is_whole) rfl hn (by rw [show decide (x ≤ x - 1 ∧ x - 1 ≤ y) = false from decide_eq_false (by omega)]; exact h)) ?_
      rw [if_neg (by decide)]
      simp only [h_cons]
      rw [if_pos (by decide)]
      try walk_at "fy"
      exact q1 _ _ ⟨rfl, _, _, rfl⟩
    · try walk_at "fy"
      refine in_ints (xs := [x - 1, y + 1]) ?_
      rw [decide_eq_true (mi _ (.inr rfl))]
      try walk_at "fy"
      simp only [show decide (y + 1 ≤ y) = false from decide_eq_false (by omega)]
      split
      all_goals
        refine who_int (P := PF) (f := f_is_whole) rfl (by decide) ?_
        rw [show decide (x ≤ y + 1 ∧ y + 1 ≤ y) = false from decide_eq_false (by omega)]
        try walk_at "fy"
        refine ck_wh (v := false) (by decide) (fun n hn st R E h => who_int (P := PF) (f := f_is_whole) rfl hn (by rw [show decide (x ≤ y + 1 ∧ y + 1 ≤ y) = false from decide_eq_false (by omega)]; exact h)) ?_
        rw [if_neg (by decide)]
        simp only [h_cons]
        rw [if_pos (by decide)]
        try walk_at "fy"
        exact q1 _ _ ⟨rfl, _, _, rfl⟩
    · try walk_at "fy"
      refine .inl ⟨rfl, rfl, ?_⟩
      obtain ⟨bb, hbb⟩ : ∃ bb, bb = ([D.int (x - 1), D.int (y + 1)].any fun z => eqF z (.bl true)) := ⟨_, rfl⟩
      rw [← hbb]
      cases bb
      all_goals
        try walk_at "fy"
        refine wh_bl (by decide) ?_
        try walk_at "fy"
        refine ck_wh (v := false) (by decide) (fun n hn st R E h => wh_bl hn h) ?_
        rw [if_neg (by decide)]
        simp only [h_cons]
        rw [if_pos (by decide)]
        try walk_at "fy"
        exact q1 _ _ ⟨rfl, _, _, rfl⟩
    · try walk_at "fy"
      refine .inl ⟨rfl, rfl, ?_⟩
      rw [show ([D.int (x - 1), D.int (y + 1)].any fun z => eqF z .non) = false from rfl]
      try walk_at "fy"
      refine wh_non (by decide) ?_
      try walk_at "fy"
      refine ck_wh (v := false) (by decide) (fun n hn st R E h => wh_non hn h) ?_
      rw [if_neg (by decide)]
      simp only [h_cons]
      rw [if_pos (by decide)]
      try walk_at "fy"
      exact q1 _ _ ⟨rfl, _, _, rfl⟩
    · try walk_at "fy"
      refine .inl ⟨rfl, rfl, ?_⟩
      rw [show ([D.int (x - 1), D.int (y + 1)].any fun z => eqF z (.str "1")) = false from rfl]
      try walk_at "fy"
      refine wh_str (by decide) ?_
      try walk_at "fy"
      refine ck_wh (v := false) (by decide) (fun n hn st R E h => wh_str hn h) ?_
      rw [if_neg (by decide)]
      simp only [h_cons]
      rw [if_pos (by decide)]
      try walk_at "fy"
      exact q1 _ _ ⟨rfl, _, _, rfl⟩
  · rintro s stx ⟨rfl, w10, w11, rfl⟩
    try walk_at "fy"
    refine who_yes (P := PF) (f := f_is_whole) rfl (by decide) ⟨by omega, by omega⟩ ?_
    try walk_at "fy"
    refine run_v (n := 39) (d := .bl true) (by kernel_rfl) ?_
    try walk_at "fy"
    refine run_v (n := 39) (d := .bl false) (by kernel_rfl) ?_
    try walk_at "fy"
    refine run_v (n := 39) (d := .bl false) (by kernel_rfl) ?_
    try walk_at "fy"
    refine run_v (n := 39) (d := .bl false) (by kernel_rfl) ?_
    try walk_at "fy"
    refine forL_d badN (fun _ s st4 => st4 = stx ∧ ∃ w10 : Option D, s = [some (.scr (ns.map D.int)), some (.ref p), some (.int high), some (.int x), some (.int y), some (.int (gc x y)), some (.int (gc x y)), some (.int u), some (.int v), some (.int m), w10, w11]) ⟨rfl, _, rfl⟩ ?_ ?_
    · rintro pre3 d post3 s st4 K3 e6 ⟨rfl, w10, rfl⟩ q3
      have hd : d ∈ badN := by rw [e6]; simp
      try walk_at "fy"
      refine an_no (n := 36) hd ?_
      try walk_at "fy"
      refine cn_no (n := 35) hd ?_
      simp only [h_cons, h_consX]
      rw [if_neg (by decide), if_pos (by decide)]
      refine ⟨trivial, ?_⟩
      try walk_at "fy"
      exact q3 _ _ ⟨rfl, _, rfl⟩
    · rintro s st4 ⟨rfl, w10, rfl⟩
      try walk_at "fy"
      refine cn_yes (n := 35) ?_
      try walk_at "fy"
      exact q _ _ ⟨⟨_, _, _, _, _, _, _, _, _, _, _, rfl⟩, hd3.all⟩
end K01

namespace K01
open PySem PySem.Spec PyProof.Rows L2 Fy
theorem all_mk {w : World} {K : PySem.W.Frag} {h : Heap} {mg : Str → Option Value} {q : Program} {fa f0 f1 f2 f3 f4 f5 f6 f7 f8 f9 f10 f11 f12 f13 : Addr} (X : K.In h) (G : h.Ns mainGlobals mg) (hfa : mg "law" = some (.ref fa)) (own : ∀ x : Str, ((recsOf q).any fun e => e.name == x) = true → ∀ f, mg x = some (.ref f) → LamX.OwnTab K f h)
    {od0 od1 od2 od3 od4 od5 od6 od7 od8 od9 od10 od11 od12 od13 an0 an1 an2 an3 an4 an5 an6 an7 an8 an9 an10 an11 an12 an13 : Option Addr} {sl0 sl1 sl2 sl3 sl4 sl5 sl6 sl7 sl8 sl9 sl10 sl11 sl12 sl13 : Array (Option Value)} {oc0 oc1 oc2 oc3 oc4 oc5 oc6 oc7 oc8 oc9 oc10 oc11 oc12 oc13 kV0 kV1 kV2 kV3 kV4 kV5 kV6 kV7 kV8 kV9 kV10 kV11 kV12 kV13 dc0 dc1 dc2 dc3 dc4 dc5 dc6 dc7 dc8 dc9 dc10 dc11 dc12 dc13 pm0 pm1 pm2 pm3 pm4 pm5 pm6 pm7 pm8 pm9 pm10 pm11 pm12 pm13 cd2 cd3 cd4 cd5 cd6 cd7 cd8 cd9 cd10 cd11 cd13 ct0 ct1 ct2 ct3 ct4 ct5 ct6 ct7 ct8 ct9 ct10 ct11 ct12 ct13 : Value}
    {g0 p0 g1 p1 g12 p12 : Addr} {e0 e1 e12 : Option Addr} {vs0 vs1 vs12 : Array Value} {s0 s1 s12 : Array (Option Value)}
    (a0 : PySem.W.nsIn K mainGlobals d_is_name.name = some (some (.ref f0))) (l0 : K.lookup f0 = some ⟨oc0, od0, .func (PySem.W.fnOf d_is_name.name d_is_name.name (defArgs d_is_name.st) (defBody d_is_name.st) (defScope d_is_name.st) .none kV0 dc0 pm0 an0 (.ref g0) ct0), sl0⟩) (c0 : PySem.W.codeIn K (.ref g0) d_is_name.name = true) (k0 : PySem.W.keepIn K (.ref f0) = true)
    (q0 : K.lookup g0 = some ⟨.type "code", e0, .fields vs0, s0⟩) (v0 : vs0[11]? = some (.ref p0)) (t0 : PySem.W.codeHdIn K g0 p0 = true) (n0 : K.lookup p0 = none) (r0 : ((recsOf q).any fun e => e.name == d_is_name.name) = true)
    (a1 : PySem.W.nsIn K mainGlobals d_are_names.name = some (some (.ref f1))) (l1 : K.lookup f1 = some ⟨oc1, od1, .func (PySem.W.fnOf d_are_names.name d_are_names.name (defArgs d_are_names.st) (defBody d_are_names.st) (defScope d_are_names.st) .none kV1 dc1 pm1 an1 (.ref g1) ct1), sl1⟩) (c1 : PySem.W.codeIn K (.ref g1) d_are_names.name = true) (k1 : PySem.W.keepIn K (.ref f1) = true)
    (q1 : K.lookup g1 = some ⟨.type "code", e1, .fields vs1, s1⟩) (v1 : vs1[11]? = some (.ref p1)) (t1 : PySem.W.codeHdIn K g1 p1 = true) (n1 : K.lookup p1 = none) (r1 : ((recsOf q).any fun e => e.name == d_are_names.name) = true)
    (a2 : PySem.W.nsIn K mainGlobals d_check_names.name = some (some (.ref f2))) (l2 : K.lookup f2 = some ⟨oc2, od2, .func (PySem.W.fnOf d_check_names.name d_check_names.name (defArgs d_check_names.st) (defBody d_check_names.st) (defScope d_check_names.st) .none kV2 dc2 pm2 an2 cd2 ct2), sl2⟩) (c2 : PySem.W.codeIn K cd2 d_check_names.name = true) (k2 : PySem.W.keepIn K (.ref f2) = true)
    (a3 : PySem.W.nsIn K mainGlobals d_is_whole.name = some (some (.ref f3))) (l3 : K.lookup f3 = some ⟨oc3, od3, .func (PySem.W.fnOf d_is_whole.name d_is_whole.name (defArgs d_is_whole.st) (defBody d_is_whole.st) (defScope d_is_whole.st) .none kV3 dc3 pm3 an3 cd3 ct3), sl3⟩) (c3 : PySem.W.codeIn K cd3 d_is_whole.name = true) (k3 : PySem.W.keepIn K (.ref f3) = true)
    (a4 : PySem.W.nsIn K mainGlobals d_check_whole.name = some (some (.ref f4))) (l4 : K.lookup f4 = some ⟨oc4, od4, .func (PySem.W.fnOf d_check_whole.name d_check_whole.name (defArgs d_check_whole.st) (defBody d_check_whole.st) (defScope d_check_whole.st) .none kV4 dc4 pm4 an4 cd4 ct4), sl4⟩) (c4 : PySem.W.codeIn K cd4 d_check_whole.name = true) (k4 : PySem.W.keepIn K (.ref f4) = true)
    (a5 : PySem.W.nsIn K mainGlobals d_greatest_common.name = some (some (.ref f5))) (l5 : K.lookup f5 = some ⟨oc5, od5, .func (PySem.W.fnOf d_greatest_common.name d_greatest_common.name (defArgs d_greatest_common.st) (defBody d_greatest_common.st) (defScope d_greatest_common.st) .none kV5 dc5 pm5 an5 cd5 ct5), sl5⟩) (c5 : PySem.W.codeIn K cd5 d_greatest_common.name = true) (k5 : PySem.W.keepIn K (.ref f5) = true)
    (a6 : PySem.W.nsIn K mainGlobals d_least_common.name = some (some (.ref f6))) (l6 : K.lookup f6 = some ⟨oc6, od6, .func (PySem.W.fnOf d_least_common.name d_least_common.name (defArgs d_least_common.st) (defBody d_least_common.st) (defScope d_least_common.st) .none kV6 dc6 pm6 an6 cd6 ct6), sl6⟩) (c6 : PySem.W.codeIn K cd6 d_least_common.name = true) (k6 : PySem.W.keepIn K (.ref f6) = true)
    (a7 : PySem.W.nsIn K mainGlobals d_ways_of.name = some (some (.ref f7))) (l7 : K.lookup f7 = some ⟨oc7, od7, .func (PySem.W.fnOf d_ways_of.name d_ways_of.name (defArgs d_ways_of.st) (defBody d_ways_of.st) (defScope d_ways_of.st) .none kV7 dc7 pm7 an7 cd7 ct7), sl7⟩) (c7 : PySem.W.codeIn K cd7 d_ways_of.name = true) (k7 : PySem.W.keepIn K (.ref f7) = true)
    (a8 : PySem.W.nsIn K mainGlobals d_rounded_up.name = some (some (.ref f8))) (l8 : K.lookup f8 = some ⟨oc8, od8, .func (PySem.W.fnOf d_rounded_up.name d_rounded_up.name (defArgs d_rounded_up.st) (defBody d_rounded_up.st) (defScope d_rounded_up.st) .none kV8 dc8 pm8 an8 cd8 ct8), sl8⟩) (c8 : PySem.W.codeIn K cd8 d_rounded_up.name = true) (k8 : PySem.W.keepIn K (.ref f8) = true)
    (a9 : PySem.W.nsIn K mainGlobals d_law_dice.name = some (some (.ref f9))) (l9 : K.lookup f9 = some ⟨oc9, od9, .func (PySem.W.fnOf d_law_dice.name d_law_dice.name (defArgs d_law_dice.st) (defBody d_law_dice.st) (defScope d_law_dice.st) .none kV9 dc9 pm9 an9 cd9 ct9), sl9⟩) (c9 : PySem.W.codeIn K cd9 d_law_dice.name = true) (k9 : PySem.W.keepIn K (.ref f9) = true)
    (a10 : PySem.W.nsIn K mainGlobals d_law_roll.name = some (some (.ref f10))) (l10 : K.lookup f10 = some ⟨oc10, od10, .func (PySem.W.fnOf d_law_roll.name d_law_roll.name (defArgs d_law_roll.st) (defBody d_law_roll.st) (defScope d_law_roll.st) .none kV10 dc10 pm10 an10 cd10 ct10), sl10⟩) (c10 : PySem.W.codeIn K cd10 d_law_roll.name = true) (k10 : PySem.W.keepIn K (.ref f10) = true)
    (a11 : PySem.W.nsIn K mainGlobals d_law_rounds.name = some (some (.ref f11))) (l11 : K.lookup f11 = some ⟨oc11, od11, .func (PySem.W.fnOf d_law_rounds.name d_law_rounds.name (defArgs d_law_rounds.st) (defBody d_law_rounds.st) (defScope d_law_rounds.st) .none kV11 dc11 pm11 an11 cd11 ct11), sl11⟩) (c11 : PySem.W.codeIn K cd11 d_law_rounds.name = true) (k11 : PySem.W.keepIn K (.ref f11) = true)
    (a12 : PySem.W.nsIn K mainGlobals d_law.name = some (some (.ref f12))) (l12 : K.lookup f12 = some ⟨oc12, od12, .func (PySem.W.fnOf d_law.name d_law.name (defArgs d_law.st) (defBody d_law.st) (defScope d_law.st) .none kV12 dc12 pm12 an12 (.ref g12) ct12), sl12⟩) (c12 : PySem.W.codeIn K (.ref g12) d_law.name = true) (k12 : PySem.W.keepIn K (.ref f12) = true)
    (q12 : K.lookup g12 = some ⟨.type "code", e12, .fields vs12, s12⟩) (v12 : vs12[11]? = some (.ref p12)) (t12 : PySem.W.codeHdIn K g12 p12 = true) (n12 : K.lookup p12 = none) (r12 : ((recsOf q).any fun e => e.name == d_law.name) = true)
    (a13 : PySem.W.nsIn K mainGlobals th_law_refused.name = some (some (.ref f13))) (l13 : K.lookup f13 = some ⟨oc13, od13, .func (PySem.W.fnOf th_law_refused.name th_law_refused.name (defArgs th_law_refused.st) (defBody th_law_refused.st) (defScope th_law_refused.st) .none kV13 dc13 pm13 an13 cd13 ct13), sl13⟩) (c13 : PySem.W.codeIn K cd13 th_law_refused.name = true) (k13 : PySem.W.keepIn K (.ref f13) = true)
    (z0 : PySem.W.nsIn K mainGlobals "abs" = some none)
    (z1 : PySem.W.nsIn K mainGlobals "len" = some none)
    (z2 : PySem.W.nsIn K mainGlobals "int" = some none)
    (z3 : PySem.W.nsIn K mainGlobals "max" = some none)
    (z4 : PySem.W.nsIn K mainGlobals "min" = some none)
    (z5 : PySem.W.nsIn K mainGlobals "range" = some none)
    (z6 : PySem.W.nsIn K mainGlobals "all" = some none)
    (z7 : PySem.W.nsIn K mainGlobals "any" = some none)
    (z8 : PySem.W.nsIn K mainGlobals "sum" = some none)
    (z9 : PySem.W.nsIn K mainGlobals "isinstance" = some none)
    (z10 : PySem.W.nsIn K mainGlobals "tuple" = some none)
    (z11 : PySem.W.nsIn K mainGlobals "list" = some none)
    (z12 : PySem.W.nsIn K mainGlobals "sorted" = some none)
    (z13 : PySem.W.nsIn K mainGlobals "bool" = some none)
    (z14 : PySem.W.nsIn K mainGlobals "str" = some none)
    (z15 : PySem.W.nsIn K mainGlobals "dict" = some none)
    (z16 : PySem.W.nsIn K mainGlobals "enumerate" = some none)
    (z17 : PySem.W.nsIn K mainGlobals "zip" = some none)
    (z18 : PySem.W.nsIn K mainGlobals "super" = some none)
    (z19 : PySem.W.nsIn K mainGlobals "reversed" = some none)
    (z20 : PySem.W.nsIn K mainGlobals "ValueError" = some none)
    {tk0 : Tok}
    (y0 : PySem.W.nsIn K mainGlobals "SIGNS" = some (some (.str "abcdefghijklmnopqrstuvwxyz" tk0)))
    {x0 x1 x2 : Addr}
    (xa0 : PySem.W.nsIn K mainGlobals "YardError" = some (some (.ref x0))) (xk0 : PySem.W.keepIn K (.ref x0) = true) (xb0 : PySem.W.subIn K (.ref x0) (.type "BaseException") = some true) (xt0 : PySem.W.typeIn K (.ref x0) = some (.type "type")) (xi0 : PySem.W.isClsIn K x0 = true)
    (xe0 : PySem.W.excIn K x0 HandSPX.veTail "ValueError.__new__" = true)
    (xm0_0 : PySem.W.subIn K (.ref x0) (.ref x0) = some true) (xm0_1 : PySem.W.subIn K (.ref x0) (.ref x1) = some false) (xm0_2 : PySem.W.subIn K (.ref x0) (.ref x2) = some false)
    (xa1 : PySem.W.nsIn K mainGlobals "BadName" = some (some (.ref x1))) (xk1 : PySem.W.keepIn K (.ref x1) = true) (xb1 : PySem.W.subIn K (.ref x1) (.type "BaseException") = some true) (xt1 : PySem.W.typeIn K (.ref x1) = some (.type "type")) (xi1 : PySem.W.isClsIn K x1 = true)
    (xe1 : PySem.W.excIn K x1 HandSPX.veTail "ValueError.__new__" = true)
    (xX1 : isxB K x1 = true)
    (xm1_0 : PySem.W.subIn K (.ref x1) (.ref x0) = some true) (xm1_1 : PySem.W.subIn K (.ref x1) (.ref x1) = some true) (xm1_2 : PySem.W.subIn K (.ref x1) (.ref x2) = some false)
    (xa2 : PySem.W.nsIn K mainGlobals "BadNumber" = some (some (.ref x2))) (xk2 : PySem.W.keepIn K (.ref x2) = true) (xb2 : PySem.W.subIn K (.ref x2) (.type "BaseException") = some true) (xt2 : PySem.W.typeIn K (.ref x2) = some (.type "type")) (xi2 : PySem.W.isClsIn K x2 = true)
    (xe2 : PySem.W.excIn K x2 HandSPX.veTail "ValueError.__new__" = true)
    (xm2_0 : PySem.W.subIn K (.ref x2) (.ref x0) = some true) (xm2_1 : PySem.W.subIn K (.ref x2) (.ref x1) = some false) (xm2_2 : PySem.W.subIn K (.ref x2) (.ref x2) = some true)
    (ne0_12 : p0 ≠ p12) (ne1_12 : p1 ≠ p12)
    : LamX.LawAtS PySem.Challenge.rw_fleetyard_k01_numbers_and_what_is_common w K (L2.CX PySem.Challenge.pw_fleetyard_k01_numbers_and_what_is_common w) 160 63 "script" mg fa h := by
  letI : LamT := ⟨fun P => if P = p12 then some (d_law.name ++ ".<locals>." ++ "<lambda>") else none, fun P l c => if P = p12 then d_law.lps.contains (l, c) else false⟩
  have F13 : Fun K th_law_refused.name th_law_refused.name th_law_refused.st f13 _ := fun_mk l13 c13 k13
  have b13 : Binds K _ [th_law_refused.a] [] := F13.binds (ps := [th_law_refused.a]) fun _ _ _ _ _ _ us hl => match us, hl with | [_], _ => rfl
  have F0 : Fun K d_is_name.name d_is_name.name d_is_name.st f0 _ := fun_mk l0 c0 k0
  have b0 : Binds K _ d_is_name.ps [] := F0.binds (ps := d_is_name.ps) fun _ _ _ _ _ _ us hl => match us, hl with | [_], _ => rfl
  have F1 : Fun K d_are_names.name d_are_names.name d_are_names.st f1 _ := fun_mk l1 c1 k1
  have b1 : Binds K _ d_are_names.ps [] := F1.binds (ps := d_are_names.ps) fun _ _ _ _ _ _ us hl => match us, hl with | [_], _ => rfl
  have F2 : Fun K d_check_names.name d_check_names.name d_check_names.st f2 _ := fun_mk l2 c2 k2
  have b2 : Binds K _ d_check_names.ps [] := F2.binds (ps := d_check_names.ps) fun _ _ _ _ _ _ us hl => match us, hl with | [_], _ => rfl
  have F3 : Fun K d_is_whole.name d_is_whole.name d_is_whole.st f3 _ := fun_mk l3 c3 k3
  have b3 : Binds K _ d_is_whole.ps [] := F3.binds (ps := d_is_whole.ps) fun _ _ _ _ _ _ us hl => match us, hl with | [_, _, _], _ => rfl
  have F4 : Fun K d_check_whole.name d_check_whole.name d_check_whole.st f4 _ := fun_mk l4 c4 k4
  have b4 : Binds K _ d_check_whole.ps [] := F4.binds (ps := d_check_whole.ps) fun _ _ _ _ _ _ us hl => match us, hl with | [_, _, _], _ => rfl
  have F5 : Fun K d_greatest_common.name d_greatest_common.name d_greatest_common.st f5 _ := fun_mk l5 c5 k5
  have b5 : Binds K _ d_greatest_common.ps [] := F5.binds (ps := d_greatest_common.ps) fun _ _ _ _ _ _ us hl => match us, hl with | [_, _], _ => rfl
  have F6 : Fun K d_least_common.name d_least_common.name d_least_common.st f6 _ := fun_mk l6 c6 k6
  have b6 : Binds K _ d_least_common.ps [] := F6.binds (ps := d_least_common.ps) fun _ _ _ _ _ _ us hl => match us, hl with | [_, _], _ => rfl
  have F7 : Fun K d_ways_of.name d_ways_of.name d_ways_of.st f7 _ := fun_mk l7 c7 k7
  have b7 : Binds K _ d_ways_of.ps [] := F7.binds (ps := d_ways_of.ps) fun _ _ _ _ _ _ us hl => match us, hl with | [_, _], _ => rfl
  have F8 : Fun K d_rounded_up.name d_rounded_up.name d_rounded_up.st f8 _ := fun_mk l8 c8 k8
  have b8 : Binds K _ d_rounded_up.ps [] := F8.binds (ps := d_rounded_up.ps) fun _ _ _ _ _ _ us hl => match us, hl with | [_, _], _ => rfl
  have F9 : Fun K d_law_dice.name d_law_dice.name d_law_dice.st f9 _ := fun_mk l9 c9 k9
  have b9 : Binds K _ d_law_dice.ps [] := F9.binds (ps := d_law_dice.ps) fun _ _ _ _ _ _ us hl => match us, hl with | [_], _ => rfl
  have F10 : Fun K d_law_roll.name d_law_roll.name d_law_roll.st f10 _ := fun_mk l10 c10 k10
  have b10 : Binds K _ d_law_roll.ps [] := F10.binds (ps := d_law_roll.ps) fun _ _ _ _ _ _ us hl => match us, hl with | [_, _], _ => rfl
  have F11 : Fun K d_law_rounds.name d_law_rounds.name d_law_rounds.st f11 _ := fun_mk l11 c11 k11
  have b11 : Binds K _ d_law_rounds.ps [] := F11.binds (ps := d_law_rounds.ps) fun _ _ _ _ _ _ us hl => match us, hl with | [_, _], _ => rfl
  have F12 : Fun K d_law.name d_law.name d_law.st f12 _ := fun_mk l12 c12 k12
  have b12 : Binds K _ d_law.ps [] := F12.binds (ps := d_law.ps) fun _ _ _ _ _ _ us hl => match us, hl with | [_], _ => rfl
  have xse : ∀ (f : Nat) (d : PD), prog[f]? = some d → d.xs = xcs := by
    intro f d e
    match f, e with
    | 0, e => cases e; rfl
    | 1, e => cases e; rfl
    | 2, e => cases e; rfl
    | 3, e => cases e; rfl
    | 4, e => cases e; rfl
    | 5, e => cases e; rfl
    | 6, e => cases e; rfl
    | 7, e => cases e; rfl
    | 8, e => cases e; rfl
    | 9, e => cases e; rfl
    | 10, e => cases e; rfl
    | 11, e => cases e; rfl
    | 12, e => cases e; rfl
    | (f + 13), e => cases e
  have GG : GlOk PySem.Challenge.rw_fleetyard_k01_numbers_and_what_is_common.prog prog (ctOf [x0, x1, x2]) K mg := by
    refine ⟨fun f d e => ?_, fun x hx => ?_, fun f d e => con_of fun p hp => ?_, fun f d e n cls hn => ?_, fun f d e n c hc => ?_, fun f d e n c m cls cv hc hn hm => ?_⟩
    · match f, e with
      | 0, e => cases e; exact ⟨_, _, PySem.W.mg_of X G a0, F0, b0⟩
      | 1, e => cases e; exact ⟨_, _, PySem.W.mg_of X G a1, F1, b1⟩
      | 2, e => cases e; exact ⟨_, _, PySem.W.mg_of X G a2, F2, b2⟩
      | 3, e => cases e; exact ⟨_, _, PySem.W.mg_of X G a3, F3, b3⟩
      | 4, e => cases e; exact ⟨_, _, PySem.W.mg_of X G a4, F4, b4⟩
      | 5, e => cases e; exact ⟨_, _, PySem.W.mg_of X G a5, F5, b5⟩
      | 6, e => cases e; exact ⟨_, _, PySem.W.mg_of X G a6, F6, b6⟩
      | 7, e => cases e; exact ⟨_, _, PySem.W.mg_of X G a7, F7, b7⟩
      | 8, e => cases e; exact ⟨_, _, PySem.W.mg_of X G a8, F8, b8⟩
      | 9, e => cases e; exact ⟨_, _, PySem.W.mg_of X G a9, F9, b9⟩
      | 10, e => cases e; exact ⟨_, _, PySem.W.mg_of X G a10, F10, b10⟩
      | 11, e => cases e; exact ⟨_, _, PySem.W.mg_of X G a11, F11, b11⟩
      | 12, e => cases e; exact ⟨_, _, PySem.W.mg_of X G a12, F12, b12⟩
      | (f + 13), e => cases e
    · simp only [bltNames, List.mem_cons, List.not_mem_nil, or_false] at hx
      rcases hx with rfl | rfl | rfl | rfl | rfl | rfl | rfl | rfl | rfl | rfl | rfl | rfl | rfl | rfl | rfl | rfl | rfl | rfl | rfl | rfl | rfl
      · exact PySem.W.mg_none_of X G z0
      · exact PySem.W.mg_none_of X G z1
      · exact PySem.W.mg_none_of X G z2
      · exact PySem.W.mg_none_of X G z3
      · exact PySem.W.mg_none_of X G z4
      · exact PySem.W.mg_none_of X G z5
      · exact PySem.W.mg_none_of X G z6
      · exact PySem.W.mg_none_of X G z7
      · exact PySem.W.mg_none_of X G z8
      · exact PySem.W.mg_none_of X G z9
      · exact PySem.W.mg_none_of X G z10
      · exact PySem.W.mg_none_of X G z11
      · exact PySem.W.mg_none_of X G z12
      · exact PySem.W.mg_none_of X G z13
      · exact PySem.W.mg_none_of X G z14
      · exact PySem.W.mg_none_of X G z15
      · exact PySem.W.mg_none_of X G z16
      · exact PySem.W.mg_none_of X G z17
      · exact PySem.W.mg_none_of X G z18
      · exact PySem.W.mg_none_of X G z19
      · exact PySem.W.mg_none_of X G z20
    · have e2 : d.cs = consts := by
        match f, e with
        | 0, e => cases e; rfl
        | 1, e => cases e; rfl
        | 2, e => cases e; rfl
        | 3, e => cases e; rfl
        | 4, e => cases e; rfl
        | 5, e => cases e; rfl
        | 6, e => cases e; rfl
        | 7, e => cases e; rfl
        | 8, e => cases e; rfl
        | 9, e => cases e; rfl
        | 10, e => cases e; rfl
        | 11, e => cases e; rfl
        | 12, e => cases e; rfl
        | (f + 13), e => cases e
      rw [e2] at hp
      simp only [consts, List.mem_cons, List.not_mem_nil, or_false] at hp
      rcases hp with rfl
      · exact ⟨_, PySem.W.mg_of X G y0, ⟨_, rfl⟩⟩
    · rw [xse f d e]
      match n, hn with
      | 0, _ => decide
      | 1, _ => decide
      | 2, _ => decide
      | (n + 3), hn => cases hn
    · rw [xse f d e] at hc
      match n, hc with
      | 0, hc => cases hc; exact ⟨x0, rfl, PySem.W.mg_of X G xa0, xk0, xb0, xt0, (fun _ => xe0), (fun f h => by cases h), (fun f h => by cases h), (fun h => by cases h)⟩
      | 1, hc => cases hc; exact ⟨x1, rfl, PySem.W.mg_of X G xa1, xk1, xb1, xt1, (fun _ => xe1), (fun f h => by cases h), (fun f h => by cases h), (fun _ => isxB_ok xX1)⟩
      | 2, hc => cases hc; exact ⟨x2, rfl, PySem.W.mg_of X G xa2, xk2, xb2, xt2, (fun _ => xe2), (fun f h => by cases h), (fun f h => by cases h), (fun h => by cases h)⟩
      | (n + 3), hc => cases hc
    · rw [xse f d e] at hc
      match n, m, hc, hn, hm with
      | 0, 0, hc, hn, hm => cases hc; cases hn; cases hm; exact exm_of xb0 xi0 xt0 xm0_0
      | 0, 1, hc, hn, hm => cases hc; cases hn; cases hm; exact exm_of xb1 xi1 xt1 xm0_1
      | 0, 2, hc, hn, hm => cases hc; cases hn; cases hm; exact exm_of xb2 xi2 xt2 xm0_2
      | 0, (m + 3), hc, hn, hm => cases hm
      | 1, 0, hc, hn, hm => cases hc; cases hn; cases hm; exact exm_of xb0 xi0 xt0 xm1_0
      | 1, 1, hc, hn, hm => cases hc; cases hn; cases hm; exact exm_of xb1 xi1 xt1 xm1_1
      | 1, 2, hc, hn, hm => cases hc; cases hn; cases hm; exact exm_of xb2 xi2 xt2 xm1_2
      | 1, (m + 3), hc, hn, hm => cases hm
      | 2, 0, hc, hn, hm => cases hc; cases hn; cases hm; exact exm_of xb0 xi0 xt0 xm2_0
      | 2, 1, hc, hn, hm => cases hc; cases hn; cases hm; exact exm_of xb1 xi1 xt1 xm2_1
      | 2, 2, hc, hn, hm => cases hc; cases hn; cases hm; exact exm_of xb2 xi2 xt2 xm2_2
      | 2, (m + 3), hc, hn, hm => cases hm
      | (n + 3), m, hc, hn, hm => cases hn
  have hok : ∀ (f : Nat) (d : PD), prog[f]? = some d → d.ok prog = true := by
    intro f d e
    match f, e with
    | 0, e => cases e; exact ok_is_name
    | 1, e => cases e; exact ok_are_names
    | 2, e => cases e; exact ok_check_names
    | 3, e => cases e; exact ok_is_whole
    | 4, e => cases e; exact ok_check_whole
    | 5, e => cases e; exact ok_greatest_common
    | 6, e => cases e; exact ok_least_common
    | 7, e => cases e; exact ok_ways_of
    | 8, e => cases e; exact ok_rounded_up
    | 9, e => cases e; exact ok_law_dice
    | 10, e => cases e; exact ok_law_roll
    | 11, e => cases e; exact ok_law_rounds
    | 12, e => cases e; exact ok_law
    | (f + 13), e => cases e
  have hNL : ∀ Q : Addr, ¬ (Q ∈ ([(g0, p0), (g1, p1), (g12, p12)] : List (Addr × Addr)).map (·.2)) → NoL Q := fun Q hQ => by
    have h12 : Q ≠ p12 := fun e => hQ (by rw [e]; simp)
    exact ⟨(if_neg h12), fun l c => (if_neg h12)⟩
  have hTT : ∀ base : Heap, (∀ p ∈ ([(g0, p0), (g1, p1), (g12, p12)] : List (Addr × Addr)), LamX.TabB base mg p.1 p.2) → ∀ (f : Nat) (d : PD), prog[f]? = some d → d.gen = true → ∀ fa, mg d.name = some (.ref fa) → ∃ c Pt, CodeOf K fa c ∧ GxR.TabB base mg c Pt ∧ Pt ∈ ([(g0, p0), (g1, p1), (g12, p12)] : List (Addr × Addr)).map (·.2) ∧ ∀ l c, d.lps.contains (l, c) = false → LamT.lp Pt l c = false := by
    intro base TB f d e hg fa hm
    match f, e with
    | 0, e => cases e; have z := hm.symm.trans (PySem.W.mg_of X G a0); cases z; exact ⟨g0, p0, ⟨_, _, l0, rfl, rfl⟩, tabB_of (TB (g0, p0) (by simp)), by simp, fun l c _ => if_neg ne0_12⟩
    | 1, e => cases e; have z := hm.symm.trans (PySem.W.mg_of X G a1); cases z; exact ⟨g1, p1, ⟨_, _, l1, rfl, rfl⟩, tabB_of (TB (g1, p1) (by simp)), by simp, fun l c _ => if_neg ne1_12⟩
    | 2, e => cases e; cases hg
    | 3, e => cases e; cases hg
    | 4, e => cases e; cases hg
    | 5, e => cases e; cases hg
    | 6, e => cases e; cases hg
    | 7, e => cases e; cases hg
    | 8, e => cases e; cases hg
    | 9, e => cases e; cases hg
    | 10, e => cases e; cases hg
    | 11, e => cases e; cases hg
    | 12, e => cases e; cases hg
    | (f + 13), e => cases e
  have hLL : ∀ base : Heap, (∀ p ∈ ([(g0, p0), (g1, p1), (g12, p12)] : List (Addr × Addr)), LamX.TabB base mg p.1 p.2) → ∀ (f : Nat) (d : PD), prog[f]? = some d → d.lam = true → ∀ fa, mg d.name = some (.ref fa) → ∃ c Pt, CodeOf K fa c ∧ LamX.TabB base mg c Pt ∧ Pt ∈ ([(g0, p0), (g1, p1), (g12, p12)] : List (Addr × Addr)).map (·.2) ∧ LamT.nm Pt = some (d.name ++ ".<locals>." ++ "<lambda>") ∧ ∀ l c, d.lps.contains (l, c) = true → LamT.lp Pt l c = true := by
    intro base TB f d e hg fa hm
    match f, e with
    | 0, e => cases e; cases hg
    | 1, e => cases e; cases hg
    | 2, e => cases e; cases hg
    | 3, e => cases e; cases hg
    | 4, e => cases e; cases hg
    | 5, e => cases e; cases hg
    | 6, e => cases e; cases hg
    | 7, e => cases e; cases hg
    | 8, e => cases e; cases hg
    | 9, e => cases e; cases hg
    | 10, e => cases e; cases hg
    | 11, e => cases e; cases hg
    | 12, e => cases e; have z := hm.symm.trans (PySem.W.mg_of X G a12); cases z; exact ⟨g12, p12, ⟨_, _, l12, rfl, rfl⟩, TB (g12, p12) (by simp), by simp, if_pos rfl, fun l c h => (if_pos rfl).trans h⟩
    | (f + 13), e => cases e
  have hTH : ThsOk prog K mg := by
    intro f d e t th ht
    match f, e with
    | 0, e => cases e; cases ht
    | 1, e => cases e; cases ht
    | 2, e => cases e; cases ht
    | 3, e => cases e; cases ht
    | 4, e => cases e; cases ht
    | 5, e => cases e; cases ht
    | 6, e => cases e; cases ht
    | 7, e => cases e; cases ht
    | 8, e => cases e; cases ht
    | 9, e => cases e; cases ht
    | 10, e => cases e; cases ht
    | 11, e => cases e; cases ht
    | 12, e =>
      cases e
      match t, ht with
      | 0, ht => cases ht; exact ⟨⟨_, _, PySem.W.mg_of X G a13, F13, b13⟩, tb_law_refused⟩
      | (t + 1), ht => cases ht
    | (f + 13), e => cases e
  have e := hfa.symm.trans (PySem.W.mg_of X G a12)
  cases e
  refine ⟨_, [(g0, p0), (g1, p1), (g12, p12)], spOf (fun P => P ∈ ([(g0, p0), (g1, p1), (g12, p12)] : List (Addr × Addr)).map (·.2)) (ctOf [x0, x1, x2]) K (wpFn (prog.map PD.fn) 40) 12 1, fun p hp => ?_, fun p hp => ?_, fun p hp => ?_, fun s v => .of_eq rfl, fun H a ns hl hb hH hS => law_sp (Nat.le_trans hl (by decide)) (fun P hP => ?_) hS (law_true ns hl hb), fun base _ _ TB => fn_sound prog (ctOf [x0, x1, x2]) GG hNL (hTT base TB) (hLL base TB) hTH hok 40 12 d_law rfl _ _ (PySem.W.mg_of X G a12) F12⟩
  · simp only [List.mem_cons, List.not_mem_nil, or_false] at hp
    rcases hp with rfl | rfl | rfl
    · exact own_tab (own _ r0 _ (PySem.W.mg_of X G a0)) l0 rfl rfl t0
    · exact own_tab (own _ r1 _ (PySem.W.mg_of X G a1)) l1 rfl rfl t1
    · exact own_tab (own _ r12 _ (PySem.W.mg_of X G a12)) l12 rfl rfl t12
  · simp only [List.mem_cons, List.not_mem_nil, or_false] at hp
    rcases hp with rfl | rfl | rfl
    · exact n0
    · exact n1
    · exact n12
  · simp only [List.mem_cons, List.not_mem_nil, or_false] at hp
    rcases hp with rfl | rfl | rfl
    · exact PySem.W.codeHd_of_K X t0
    · exact PySem.W.codeHd_of_K X t1
    · exact PySem.W.codeHd_of_K X t12
  · obtain ⟨p, hp, rfl⟩ := List.mem_map.mp hP
    exact tabG0 (hH p hp)
end K01
open PySem PySem.W PyProof.Rows
set_option maxHeartbeats 0 in
theorem PySem.Challenge.cw_fleetyard_k01_numbers_and_what_is_common_holds : PySem.Challenge.rw_fleetyard_k01_numbers_and_what_is_common.Holds := by
  w_on; o_law; k_head; (case hw => w_witness2)
  k_fill
  refine Fy.walk_tabs (l := PySem.Challenge.rw_fleetyard_k01_numbers_and_what_is_common) (n := 63) (k := 160) (x := "script") (CX := fun w => L2.CX PySem.Challenge.pw_fleetyard_k01_numbers_and_what_is_common w) rfl (by decide) rfl ⟨rfl, by decide, by decide⟩ (fun w h Y => by first | exact PySem.W.kIn_of Y | exact PySem.W.km_in_of Y) ?F (fun _ _ _ _ _ h => Fy.cx_none h)
  case F =>
    intro w mg fa h Y KX G hmg own
    refine' K01.all_mk KX G hmg own ?a0 ?l0 ?c0 ?k0 ?q0 ?v0 ?t0 ?n0 ?r0 ?a1 ?l1 ?c1 ?k1 ?q1 ?v1 ?t1 ?n1 ?r1 ?a2 ?l2 ?c2 ?k2 ?a3 ?l3 ?c3 ?k3 ?a4 ?l4 ?c4 ?k4 ?a5 ?l5 ?c5 ?k5 ?a6 ?l6 ?c6 ?k6 ?a7 ?l7 ?c7 ?k7 ?a8 ?l8 ?c8 ?k8 ?a9 ?l9 ?c9 ?k9 ?a10 ?l10 ?c10 ?k10 ?a11 ?l11 ?c11 ?k11 ?a12 ?l12 ?c12 ?k12 ?q12 ?v12 ?t12 ?n12 ?r12 ?a13 ?l13 ?c13 ?k13 ?z0 ?z1 ?z2 ?z3 ?z4 ?z5 ?z6 ?z7 ?z8 ?z9 ?z10 ?z11 ?z12 ?z13 ?z14 ?z15 ?z16 ?z17 ?z18 ?z19 ?z20 ?y0 ?xa0 ?xk0 ?xb0 ?xt0 ?xi0 ?xe0 ?xm0_0 ?xm0_1 ?xm0_2 ?xa1 ?xk1 ?xb1 ?xt1 ?xi1 ?xe1 ?xX1 ?xm1_0 ?xm1_1 ?xm1_2 ?xa2 ?xk2 ?xb2 ?xt2 ?xi2 ?xe2 ?xm2_0 ?xm2_1 ?xm2_2 ?ne0_12 ?ne1_12
    (case xa0 => k_is); (case xa1 => k_is); (case xa2 => k_is); (case a0 => k_is); (case l0 => k_is); (case c0 => k_is); (case k0 => k_is); (case q0 => k_is); (case v0 => rfl); (case t0 => kernel_rfl); (case n0 => kernel_rfl); (case r0 => decide +kernel); (case a1 => k_is); (case l1 => k_is); (case c1 => k_is); (case k1 => k_is); (case q1 => k_is); (case v1 => rfl); (case t1 => kernel_rfl); (case n1 => kernel_rfl); (case r1 => decide +kernel); (case a2 => k_is); (case l2 => k_is); (case c2 => k_is); (case k2 => k_is); (case a3 => k_is); (case l3 => k_is); (case c3 => k_is); (case k3 => k_is); (case a4 => k_is); (case l4 => k_is); (case c4 => k_is); (case k4 => k_is); (case a5 => k_is); (case l5 => k_is); (case c5 => k_is); (case k5 => k_is); (case a6 => k_is); (case l6 => k_is); (case c6 => k_is); (case k6 => k_is); (case a7 => k_is); (case l7 => k_is); (case c7 => k_is); (case k7 => k_is); (case a8 => k_is); (case l8 => k_is); (case c8 => k_is); (case k8 => k_is); (case a9 => k_is); (case l9 => k_is); (case c9 => k_is); (case k9 => k_is); (case a10 => k_is); (case l10 => k_is); (case c10 => k_is); (case k10 => k_is); (case a11 => k_is); (case l11 => k_is); (case c11 => k_is); (case k11 => k_is); (case a12 => k_is); (case l12 => k_is); (case c12 => k_is); (case k12 => k_is); (case q12 => k_is); (case v12 => rfl); (case t12 => kernel_rfl); (case n12 => kernel_rfl); (case r12 => decide +kernel); (case a13 => k_is); (case l13 => k_is); (case c13 => k_is); (case k13 => k_is); (case z0 => k_is); (case z1 => k_is); (case z2 => k_is); (case z3 => k_is); (case z4 => k_is); (case z5 => k_is); (case z6 => k_is); (case z7 => k_is); (case z8 => k_is); (case z9 => k_is); (case z10 => k_is); (case z11 => k_is); (case z12 => k_is); (case z13 => k_is); (case z14 => k_is); (case z15 => k_is); (case z16 => k_is); (case z17 => k_is); (case z18 => k_is); (case z19 => k_is); (case z20 => k_is); (case y0 => k_is); (case xk0 => k_is); (case xb0 => k_is); (case xt0 => k_is); (case xi0 => k_is); (case xe0 => kernel_rfl); (case xm0_0 => k_is); (case xm0_1 => k_is); (case xm0_2 => k_is); (case xk1 => k_is); (case xb1 => k_is); (case xt1 => k_is); (case xi1 => k_is); (case xe1 => kernel_rfl); (case xX1 => kernel_rfl); (case xm1_0 => k_is); (case xm1_1 => k_is); (case xm1_2 => k_is); (case xk2 => k_is); (case xb2 => k_is); (case xt2 => k_is); (case xi2 => k_is); (case xe2 => kernel_rfl); (case xm2_0 => k_is); (case xm2_1 => k_is); (case xm2_2 => k_is); (case ne0_12 => decide); (case ne1_12 => decide)

