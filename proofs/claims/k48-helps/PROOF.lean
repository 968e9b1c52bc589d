import PyProof.Rows.All
import Wide.All
import OpenK.AllK
import Wide.FinOn
import HandS.ForMost
import HandS.ForExc
import HandS.Wide
import HandS.IsInst
import HandS.Flow
import HandS.Rev
import HandS.TupAny
import HandS.Deep
import HandS.Defaults
import HandS.AnyAll
import HandS.TupMul
import HandS.TupLe
import HandS.Style
import HandS.SortInts
import KE.GoesMore
import KE.GoesZip
import KE.GoesEnum
import HandS.Exc
import HandS.ExcOwn
import HandS.CallSlots
import HandS.GenList
import HandS.HeadHook4
import HandS.SetKeys
import KE.KDictSum
import HandS.EndTab
import HandS.NestedK
import KE.KNestM
import KE.KStateDown
import HandS.HeadEnd
import HandS.HeadWalk
import KE.BitLaws
import PySem.Challenge.RW_matchedandcleared_k48_whole_helps
import Lean
import HandS.Head0
import HandS.Head1
import HandS.Head2
import HandS.HeadHook1
import HandS.HeadHook2
import HandS.HeadHook3
set_option Elab.async false
set_option linter.all false
set_option maxRecDepth 100000
set_option maxHeartbeats 0
/-! A layer over the hand layer: each def of the program is shown to compute a plain Lean function over data (PyData). -/
namespace DL
open PySem PySem.Spec PyProof.Rows L2

/-! ### data, frozen or own -/
/-- what a slot holds: frozen data; a list or dict of the def's own (or, with true, of a caller's) that may be changed -/
inductive Sl where
  | fr (d : PyData)
  | ol (p : Bool) (xs : List PyData)
  | od (p : Bool) (kvs : List (PyData × PyData))
abbrev Ev := List (Option Sl)
def Sl.isOwn : Sl → Bool
  | .fr _ => false
  | _ => true
def Sl.par : Sl → Bool
  | .fr _ => false
  | .ol p _ => p
  | .od p _ => p

theorem Same.seqT {K : PySem.W.Frag} {H H' : Hp} {a : Addr} {xs : List V} (e : Same H H') (h : SqT K H a xs) : SqT K H' a xs := by
  rcases h with (h | ⟨o, h⟩) | h
  · exact .inl (.inl (e _ _ h))
  · exact .inl (.inr ⟨o, e _ _ h⟩)
  · exact .inr h
mutual
theorem dp_mono {K : PySem.W.Frag} {F F' : Hp} (e : Same F F') : ∀ (d : PyData) (v : V), Dp K F v d → Dp K F' v d
  | .none, _, h => by cases h; exact .non
  | .bool b, _, h => by cases h; exact .bl b
  | .int i, _, h => by cases h; exact .int i
  | .str x, _, h => by cases h; exact .str x
  | .list ds, _, h => by
    cases h with
    | lst hs ha => exact .lst (e.seq hs) (dl_mono e ds _ ha)
  | .tuple ds, _, h => by
    cases h with
    | tup hs ha => exact .tup (Same.seqT e hs) (dl_mono e ds _ ha)
  | .dict _, _, h => by cases h
theorem dl_mono {K : PySem.W.Frag} {F F' : Hp} (e : Same F F') : ∀ (ds : List PyData) (vs : List V), DpAll K F vs ds → DpAll K F' vs ds
  | [], _, h => by cases h; exact .nil
  | d :: ds, _, h => by
    cases h with
    | cons h1 h2 => exact .cons (dp_mono e d _ h1) (dl_mono e ds _ h2)
end
section
variable {K : PySem.W.Frag} {F : Hp}
theorem dl_len : ∀ {ds : List PyData} {vs : List V}, DpAll K F vs ds → vs.length = ds.length
  | [], _, h => by cases h; rfl
  | d :: ds, _, h => by
    cases h with
    | cons h1 h2 => show _ + 1 = _ + 1; rw [dl_len h2]
theorem dl_get : ∀ {ds : List PyData} {vs : List V} {i : Nat} {d : PyData}, DpAll K F vs ds → ds[i]? = some d → ∃ v, vs[i]? = some v ∧ Dp K F v d
  | [], _, i, d, h, e => by simp at e
  | z :: ds, _, 0, d, h, e => by
    cases h with
    | cons h1 h2 =>
      simp at e
      subst e
      exact ⟨_, rfl, h1⟩
  | z :: ds, _, i + 1, d, h, e => by
    cases h with
    | cons h1 h2 =>
      obtain ⟨v, e1, e2⟩ := dl_get (i := i) h2 (by simpa using e)
      exact ⟨v, by simpa using e1, e2⟩
theorem dl_getV : ∀ {ds : List PyData} {vs : List V} {i : Nat} {v : V}, DpAll K F vs ds → vs[i]? = some v → ∃ d, ds[i]? = some d ∧ Dp K F v d
  | [], _, i, d, h, e => by cases h; simp at e
  | z :: ds, _, 0, d, h, e => by
    cases h with
    | cons h1 h2 =>
      simp at e
      subst e
      exact ⟨_, rfl, h1⟩
  | z :: ds, _, i + 1, d, h, e => by
    cases h with
    | cons h1 h2 =>
      obtain ⟨v, e1, e2⟩ := dl_getV (i := i) h2 (by simpa using e)
      exact ⟨v, by simpa using e1, e2⟩
theorem dl_append : ∀ {ds es : List PyData} {vs ws : List V}, DpAll K F vs ds → DpAll K F ws es → DpAll K F (vs ++ ws) (ds ++ es)
  | [], _, _, _, h, h' => by cases h; exact h'
  | d :: ds, _, _, _, h, h' => by
    cases h with
    | cons h1 h2 => exact .cons h1 (dl_append h2 h')
theorem dl_take : ∀ {ds : List PyData} {vs : List V} (n : Nat), DpAll K F vs ds → DpAll K F (vs.take n) (ds.take n)
  | _, _, 0, _ => .nil
  | [], _, n + 1, h => by cases h; exact .nil
  | d :: ds, _, n + 1, h => by
    cases h with
    | cons h1 h2 => exact .cons h1 (dl_take n h2)
theorem dl_drop : ∀ {ds : List PyData} {vs : List V} (n : Nat), DpAll K F vs ds → DpAll K F (vs.drop n) (ds.drop n)
  | _, _, 0, h => h
  | [], _, n + 1, h => by cases h; exact .nil
  | d :: ds, _, n + 1, h => by
    cases h with
    | cons h1 h2 => exact dl_drop n h2
theorem dl_set {d : PyData} {v : V} (r : Dp K F v d) : ∀ {ds : List PyData} {vs : List V} (i : Nat), DpAll K F vs ds → DpAll K F (vs.set i v) (ds.set i d)
  | [], _, _, h => by cases h; exact .nil
  | z :: ds, _, 0, h => by
    cases h with
    | cons h1 h2 => exact .cons r h2
  | z :: ds, _, i + 1, h => by
    cases h with
    | cons h1 h2 => exact .cons h1 (dl_set r i h2)
theorem dl_dropLast {ds : List PyData} {vs : List V} (h : DpAll K F vs ds) : DpAll K F vs.dropLast ds.dropLast := by
  rw [List.dropLast_eq_take, List.dropLast_eq_take, dl_len h]
  exact dl_take _ h
theorem dl_reverse : ∀ {ds : List PyData} {vs : List V}, DpAll K F vs ds → DpAll K F vs.reverse ds.reverse
  | [], _, h => by cases h; exact .nil
  | d :: ds, _, h => by
    cases h with
    | cons h1 h2 =>
      rw [List.reverse_cons, List.reverse_cons]
      exact dl_append (dl_reverse h2) (.cons h1 .nil)
theorem dl_one {d : PyData} {vs : List V} (h : DpAll K F vs [d]) : ∃ v, vs = [v] ∧ Dp K F v d := by
  cases h with
  | cons h1 h2 => cases h2; exact ⟨_, rfl, h1⟩
theorem dl_ints : ∀ {ns : List Int} {vs : List V}, DpAll K F vs (ns.map PyData.int) → vs = ns.map V.int
  | [], _, h => by cases h; rfl
  | n :: ns, _, h => by
    cases h with
    | cons h1 h2 =>
      cases h1
      rw [dl_ints h2]; rfl
theorem dl_of_ints : ∀ ns : List Int, DpAll K F (ns.map V.int) (ns.map PyData.int)
  | [] => .nil
  | n :: ns => .cons (.int n) (dl_of_ints ns)
theorem dp_int_inv {v : V} {i : Int} (h : Dp K F v (.int i)) : v = .int i := by cases h; rfl
theorem dp_bl_inv {v : V} {b : Bool} (h : Dp K F v (.bool b)) : v = .bl b := by cases h; rfl
theorem dp_str_inv {v : V} {x : Str} (h : Dp K F v (.str x)) : v = .str x := by cases h; rfl
theorem dp_non_inv {v : V} (h : Dp K F v .none) : v = .non := by cases h; rfl
theorem dp_lst_inv {v : V} {ds : List PyData} (h : Dp K F v (.list ds)) : ∃ a vs, v = .ref a ∧ SqL K F a vs ∧ DpAll K F vs ds := by
  cases h with
  | lst hs ha => exact ⟨_, _, rfl, hs, ha⟩
theorem dp_tup_inv {v : V} {ds : List PyData} (h : Dp K F v (.tuple ds)) : ∃ a vs, v = .ref a ∧ SqT K F a vs ∧ DpAll K F vs ds := by
  cases h with
  | tup hs ha => exact ⟨_, _, rfl, hs, ha⟩
end

/-! ### keys of dicts -/
def keyOf : PyData → Option Key
  | .int i => some (.inl i)
  | .str x => some (.inr x)
  | _ => none
def keysL : List PyData → Option (List Key)
  | [] => some []
  | d :: ds => match keyOf d, keysL ds with
    | some k, some ks => some (k :: ks)
    | _, _ => none
def keysOf : PyData → Option (List Key)
  | .tuple ds => keysL ds
  | _ => none
def DictR (K : PySem.W.Frag) (F : Hp) (kvs : List (PyData × PyData)) (o : HO) : Prop :=
  (∃ l, o = .dK l ∧ Paired (fun (p : PyData × PyData) (q : Key × V) => keyOf p.1 = some q.1 ∧ Dp K F q.2 p.2) kvs l) ∨
  (∃ l, o = .dT l ∧ kvs ≠ [] ∧ Paired (fun (p : PyData × PyData) (q : List Key × V) => keysOf p.1 = some q.1 ∧ Dp K F q.2 p.2) kvs l)
theorem DictR.mono {K : PySem.W.Frag} {F F' : Hp} (e : Same F F') {kvs : List (PyData × PyData)} {o : HO} (h : DictR K F kvs o) : DictR K F' kvs o := by
  rcases h with ⟨l, e1, h⟩ | ⟨l, e1, h0, h⟩
  · exact .inl ⟨l, e1, Paired.mapP h fun p q z => ⟨z.1, dp_mono e _ _ z.2⟩⟩
  · exact .inr ⟨l, e1, h0, Paired.mapP h fun p q z => ⟨z.1, dp_mono e _ _ z.2⟩⟩
/-- what stands where an own list or dict is -/
def OwnAt (K : PySem.W.Frag) (F : Hp) : Sl → HO → Prop
  | .fr _, _ => False
  | .ol _ xs, o => ∃ vs, o = .lst vs ∧ DpAll K F vs xs
  | .od _ kvs, o => DictR K F kvs o
theorem OwnAt.mono {K : PySem.W.Frag} {F F' : Hp} (e : Same F F') {w : Sl} {o : HO} (h : OwnAt K F w o) : OwnAt K F' w o := by
  cases w with
  | fr d => exact h.elim
  | ol p xs =>
    obtain ⟨vs, e1, h⟩ := h
    exact ⟨vs, e1, dl_mono e _ _ h⟩
  | od p kvs => exact DictR.mono e h
def isTab : HO → Bool
  | .tbl _ => true
  | _ => false
theorem OwnAt.notTab {K : PySem.W.Frag} {F : Hp} {w : Sl} {o : HO} (h : OwnAt K F w o) : isTab o = false := by
  cases w with
  | fr d => exact h.elim
  | ol p xs => obtain ⟨vs, rfl, _⟩ := h; rfl
  | od p kvs => rcases h with ⟨l, rfl, _⟩ | ⟨l, rfl, _⟩ <;> rfl
/-- what may be frozen -/
def isImm : HO → Bool
  | .lst _ => true
  | .tup _ => true
  | .frz _ _ => true
  | _ => false

/-! ### the heap since the entry -/
/-- where the tables of the defs with generator expressions stand -/
structure Tbx where
  tabs : List Addr
def tabsI [Inhabited Tbx] : List Addr := (default : Tbx).tabs
variable [Inhabited Tbx]
structure Aft (own : List Addr) (F0 H0 F H : Hp) : Prop where
  sub : Same F H
  s1 : Same F0 F
  s0 : ∀ b, H0 b ≠ none → H b ≠ none
  s2 : ∀ b, F0 b = none → H0 b ≠ none → F b = none
  s3 : ∀ b o, H0 b = some o → b ∉ own → isTab o = false → H b = some o
  tab : ∀ P ∈ tabsI, GxR.TabG H P
  imm : ∀ b o, F b = some o → isImm o = true
structure C0 where
  F0 : Hp
  H0 : Hp
  own : List Addr
  tm : List (Addr × HO)
  args : List V
structure R (K : PySem.W.Frag) (c : C0) (e : Ev) (σ : L2.St) (H F : Hp) : Prop where
  aft : Aft c.own c.F0 c.H0 F H
  len : σ.length = e.length
  fr : ∀ (i : Nat) d, e[i]? = some (some (Sl.fr d)) → ∃ v, σ[i]? = some (some v) ∧ Dp K F v d
  ow : ∀ (i : Nat) (w : Sl), e[i]? = some (some w) → w.isOwn = true → ∃ a o, σ[i]? = some (some (V.ref a)) ∧ H a = some o ∧ F a = none ∧ OwnAt K F w o ∧ (w.par = true → a ∈ c.own) ∧ (w.par = false → c.H0 a = none) ∧ a ∉ c.tm.map (·.1)
  ne : ∀ (i j : Nat) (a : Addr) (w u : Sl), i ≠ j → e[i]? = some (some w) → w.isOwn = true → e[j]? = some (some u) → u.isOwn = true → σ[i]? = some (some (V.ref a)) → σ[j]? = some (some (V.ref a)) → False
  tm : ∀ p ∈ c.tm, H p.1 = some p.2 ∧ F p.1 = none ∧ isTab p.2 = false
  tmnd : (c.tm.map (·.1)).Nodup
  pr : ∀ (i : Nat) (w : Sl), e[i]? = some (some w) → w.par = true → ∃ v, c.args[i]? = some v ∧ σ[i]? = some (some v)

inductive RV where
  | val (d : PyData)
  | own (i : Nat)
  | new (w : Sl)
inductive Out (α : Type) where
  | ok (a : α) (e : Ev)
  | exc (x : Str) (e : Ev)
  | bad
def RvAt (K : PySem.W.Frag) (c : C0) (e : Ev) (σ : L2.St) (H F : Hp) : RV → V → Prop
  | .val d, v => Dp K F v d
  | .own i, v => σ[i]? = some (some v) ∧ ∃ w : Sl, e[i]? = some (some w) ∧ w.isOwn = true
  | .new w, v => ∃ a o, v = .ref a ∧ H a = some o ∧ F a = none ∧ OwnAt K F w o ∧ w.par = false ∧ c.H0 a = none ∧ a ∉ c.tm.map (·.1) ∧ ∀ (i : Nat) (u : Sl), e[i]? = some (some u) → u.isOwn = true → σ[i]? ≠ some (some (V.ref a))
/-- what is wanted of a value that has come -/
def Post (K : PySem.W.Frag) (c : C0) (e : Ev) (σ : L2.St) (r : RV) (Q : VK) : Prop := ∀ v H' F', R K c e σ H' F' → RvAt K c e σ H' F' r v → Q v H'
/-- an exception's class by its name -/
abbrev XN := Str → Value → Prop
def PostX (K : PySem.W.Frag) (c : C0) (e : Ev) (σ : L2.St) (xn : XN) (Wx : WX) (x : Str) : Prop := ∀ C d H' F', xn x C → R K c e σ H' F' → Wx C d σ H'
abbrev FE := Ev → Out RV
def tE (K : PySem.W.Frag) (xn : XN) (Wx : WX) (f : FE) : TE := fun σ H Q => ∃ c e F, R K c e σ H F ∧ match f e with
  | .ok r e' => Post K c e' σ r Q
  | .exc x e' => PostX K c e' σ xn Wx x
  | .bad => False
def tT (K : PySem.W.Frag) (xn : XN) (Wx : WX) (f : Ev → Out Bool) : TT := fun σ H Q => ∃ c e F, R K c e σ H F ∧ match f e with
  | .ok b e' => ∀ H' F', R K c e' σ H' F' → Q b H'
  | .exc x e' => PostX K c e' σ xn Wx x
  | .bad => False
def RvsAt (K : PySem.W.Frag) (c : C0) (e : Ev) (σ : L2.St) (H F : Hp) : List RV → List V → Prop
  | [], vs => vs = []
  | r :: rs, vs => ∃ v ws, vs = v :: ws ∧ RvAt K c e σ H F r v ∧ RvsAt K c e σ H F rs ws
def tA (K : PySem.W.Frag) (xn : XN) (Wx : WX) (f : Ev → Out (List RV)) : TA := fun σ H Q => ∃ c e F, R K c e σ H F ∧ match f e with
  | .ok rs e' => ∀ vs H' F', R K c e' σ H' F' → RvsAt K c e' σ H' F' rs vs → Q vs H'
  | .exc x e' => PostX K c e' σ xn Wx x
  | .bad => False
/-- what a statement comes to -/
inductive SO where
  | nx (e : Ev)
  | rt (r : RV) (e : Ev)
  | bk (e : Ev)
  | ct (e : Ev)
  | exc (x : Str) (e : Ev)
  | bad
abbrev FS := Ev → SO
def SPost (K : PySem.W.Frag) (c : C0) (xn : XN) (Wx : WX) (D : Ends) : SO → Prop
  | .nx e => ∀ σ H F, R K c e σ H F → D.nx σ H
  | .rt r e => ∀ σ H F v, R K c e σ H F → RvAt K c e σ H F r v → D.rt v H
  | .bk e => ∀ σ H F, R K c e σ H F → D.bk σ H
  | .ct e => ∀ σ H F, R K c e σ H F → D.ct σ H
  | .exc x e => ∀ σ H F C d, xn x C → R K c e σ H F → Wx C d σ H
  | .bad => False
def tS (K : PySem.W.Frag) (xn : XN) (Wx : WX) (f : FS) : TS := fun D σ H => ∃ c e F, R K c e σ H F ∧ SPost K c xn Wx D (f e)
theorem PE_imp {X : Cx} {e : Expr} {t t' : TE} (h : PE X e t) (i : ∀ σ H Q, t' σ H Q → t σ H Q) : PE X e t' := ⟨fun pins s σ H Q I q => h.run pins s σ H Q I (i σ H Q q)⟩
theorem PT_imp {X : Cx} {e : Expr} {t t' : TT} (h : PT X e t) (i : ∀ σ H Q, t' σ H Q → t σ H Q) : PT X e t' := ⟨fun pins s σ H Q I q => h.run pins s σ H Q I (i σ H Q q)⟩
theorem PW_imp {X : Cx} {e : Expr} {t t' : TT} (h : PW X e t) (i : ∀ σ H Q, t' σ H Q → t σ H Q) : PW X e t' := ⟨fun wh pins s σ H Q I q => h.run wh pins s σ H Q I (i σ H Q q)⟩
theorem PA_imp {X : Cx} {e : List Expr} {t t' : TA} (h : PA X e t) (i : ∀ σ H Q, t' σ H Q → t σ H Q) : PA X e t' := ⟨fun pos pins s σ H Q I q => h.run pos pins s σ H Q I (i σ H Q q)⟩
theorem PS_imp {X : Cx} {e : Stmt} {t t' : TS} (h : PS X e t) (i : ∀ D σ H, t' D σ H → t D σ H) : PS X e t' := ⟨fun pins s σ H D I q => h.run pins s σ H D I (i D σ H q)⟩
theorem PSs_imp {X : Cx} {e : List Stmt} {t t' : TS} (h : PSs X e t) (i : ∀ D σ H, t' D σ H → t D σ H) : PSs X e t' := ⟨fun pins s σ H D I q => h.run pins s σ H D I (i D σ H q)⟩
theorem PI_imp {X : Cx} {tg e : Expr} {t t' : TI} (h : PI X tg e t) (i : ∀ σ H Q, t' σ H Q → t σ H Q) : PI X tg e t' := ⟨fun pins s σ H Q I q => h.run pins s σ H Q I (i σ H Q q)⟩

/-! ### how the state goes on -/
section
variable {K : PySem.W.Frag} {c : C0} {e : Ev} {σ : L2.St} {H F : Hp}
theorem upd_some {H : Hp} {p : Addr} {o : HO} (h : H p = none) : Same H (upd H p o) := fun b x q => by
  rw [upd_ne (ne_of_none q h)]
  exact q
theorem upd_nn {H : Hp} {p b : Addr} {o : HO} (h : H b ≠ none) : upd H p o b ≠ none := by
  by_cases q : b = p
  · rw [q, upd_same]; exact fun z => by cases z
  · rw [upd_ne q]; exact h
theorem R.h0 (r : R K c e σ H F) {p : Addr} (h : H p = none) : c.H0 p = none := by
  cases q : c.H0 p with
  | none => rfl
  | some o => exact (r.aft.s0 p (by rw [q]; exact fun z => by cases z) h).elim
theorem R.f0 (r : R K c e σ H F) {p : Addr} (h : H p = none) : F p = none := r.aft.sub.free h
theorem tabG_upd {H : Hp} {P p : Addr} {o : HO} (h : GxR.TabG H P) (np : P ≠ p) : GxR.TabG (upd H p o) P := by
  obtain ⟨ps, e, t⟩ := h
  exact ⟨ps, by rw [upd_ne np]; exact e, t⟩
/-- a new object -/
theorem R.laid (r : R K c e σ H F) {p : Addr} {o : HO} (h : H p = none) : R K c e σ (upd H p o) F where
  aft := ⟨r.aft.sub.trans (upd_some h), r.aft.s1, fun b q => upd_nn (r.aft.s0 b q), r.aft.s2, fun b u q1 q2 q3 => upd_some h b u (r.aft.s3 b u q1 q2 q3), fun P hP => tabG_upd (r.aft.tab P hP) (by
    obtain ⟨ps, q, _⟩ := r.aft.tab P hP
    exact ne_of_none q h), r.aft.imm⟩
  len := r.len
  fr := r.fr
  ow := fun i w q1 q2 => by
    obtain ⟨a, u, h1, h2, h3⟩ := r.ow i w q1 q2
    exact ⟨a, u, h1, upd_some h a u h2, h3⟩
  ne := r.ne
  tm := fun q hq => ⟨upd_some h _ _ (r.tm q hq).1, (r.tm q hq).2⟩
  tmnd := r.tmnd
  pr := r.pr
/-- .. frozen -/
theorem R.frozen (r : R K c e σ H F) {p : Addr} {o : HO} (hH : H p = some o) (hF : F p = none) (h0 : c.H0 p = none) (hi : isImm o = true) (ht : p ∉ c.tm.map (·.1))
    (ho : ∀ (i : Nat) (u : Sl), e[i]? = some (some u) → u.isOwn = true → σ[i]? ≠ some (some (V.ref p))) : R K c e σ H (upd F p o) where
  aft := ⟨fun b u q => by
      by_cases hb : b = p
      · rw [hb, upd_same] at q; cases q; rw [hb]; exact hH
      · rw [upd_ne hb] at q; exact r.aft.sub b u q, r.aft.s1.trans (upd_some hF), r.aft.s0, fun b q1 q2 => by
      have hb : b ≠ p := fun z => q2 (by rw [z]; exact h0)
      rw [upd_ne hb]; exact r.aft.s2 b q1 q2, r.aft.s3, r.aft.tab, fun b u q => by
      by_cases hb : b = p
      · rw [hb, upd_same] at q; cases q; exact hi
      · rw [upd_ne hb] at q; exact r.aft.imm b u q⟩
  len := r.len
  fr := fun i d q => by
    obtain ⟨v, h1, h2⟩ := r.fr i d q
    exact ⟨v, h1, dp_mono (upd_some hF) _ _ h2⟩
  ow := fun i w q1 q2 => by
    obtain ⟨a, u, h1, h2, h3, h4, h5⟩ := r.ow i w q1 q2
    have na : a ≠ p := fun z => ho i w q1 q2 (by rw [h1, z])
    exact ⟨a, u, h1, h2, by rw [upd_ne na]; exact h3, h4.mono (upd_some hF), h5⟩
  ne := r.ne
  tm := fun q hq => by
    obtain ⟨h1, h2, h3⟩ := r.tm q hq
    have na : q.1 ≠ p := fun z => ht (by rw [← z]; exact List.mem_map.mpr ⟨q, hq, rfl⟩)
    exact ⟨h1, by rw [upd_ne na]; exact h2, h3⟩
  tmnd := r.tmnd
  pr := r.pr
theorem R.notOwn (r : R K c e σ H F) {p : Addr} (h : H p = none) : ∀ (i : Nat) (u : Sl), e[i]? = some (some u) → u.isOwn = true → σ[i]? ≠ some (some (V.ref p)) := fun i u q1 q2 q3 => by
  obtain ⟨a, o, h1, h2, _⟩ := r.ow i u q1 q2
  rw [h1] at q3
  have z : a = p := by
    have := Option.some.inj (Option.some.inj q3)
    exact V.ref.inj this
  rw [z, h] at h2; cases h2
theorem R.notTm (r : R K c e σ H F) {p : Addr} (h : H p = none) : p ∉ c.tm.map (·.1) := fun hm => by
  obtain ⟨q, hq, z⟩ := List.mem_map.mp hm
  obtain ⟨h1, _⟩ := r.tm q hq
  rw [z, h] at h1; cases h1
theorem upd_F {H : Hp} {p : Addr} {o : HO} : (upd H p o) p = some o := upd_same
/-- a new tuple -/
theorem R.newT (r : R K c e σ H F) {p : Addr} {vs : List V} {ds : List PyData} (h : H p = none) (hd : DpAll K F vs ds) : R K c e σ (upd H p (.tup vs)) (upd F p (.tup vs)) ∧ Dp K (upd F p (.tup vs)) (.ref p) (.tuple ds) :=
  ⟨(r.laid h).frozen upd_same (r.f0 h) (r.h0 h) rfl (r.notTm h) (r.notOwn h), .tup (SqT.of upd_same) (dl_mono (upd_some (r.f0 h)) _ _ hd)⟩
/-- a new list, not frozen yet -/
theorem R.newL (r : R K c e σ H F) {p : Addr} {vs : List V} {ds : List PyData} (h : H p = none) (hd : DpAll K F vs ds) : R K c e σ (upd H p (.lst vs)) F ∧ RvAt K c e σ (upd H p (.lst vs)) F (.new (.ol false ds)) (.ref p) :=
  ⟨r.laid h, p, .lst vs, rfl, upd_same, r.f0 h, ⟨vs, rfl, hd⟩, rfl, r.h0 h, r.notTm h, r.notOwn h⟩
/-- a new object frozen -/
theorem R.freezeN (r : R K c e σ H F) {xs : List PyData} {p : Bool} {v : V} (h : RvAt K c e σ H F (.new (.ol p xs)) v) : ∃ F', Same F F' ∧ R K c e σ H F' ∧ Dp K F' v (.list xs) := by
  obtain ⟨a, o, rfl, h1, h2, ⟨vs, rfl, h3⟩, h4, h5, h6, h7⟩ := h
  exact ⟨upd F a (.lst vs), upd_some h2, r.frozen h1 h2 h5 rfl h6 h7, .lst (SqL.of upd_same) (dl_mono (upd_some h2) _ _ h3)⟩
theorem get_set {α : Type} {l : List α} {i j : Nat} {x : α} (h : i < l.length) : (l.set i x)[j]? = if j = i then some x else l[j]? := by
  by_cases q : j = i
  · subst q; rw [if_pos rfl, List.getElem?_set_self h]
  · rw [if_neg q, List.getElem?_set_ne (Ne.symm q)]
theorem lt_of_get {α : Type} {l : List α} {i : Nat} {x : α} (h : l[i]? = some x) : i < l.length := (List.getElem?_eq_some_iff.mp h).1
/-- an own list of the slot i frozen where it stands -/
theorem R.freezeO (r : R K c e σ H F) {xs : List PyData} {i : Nat} {v : V} (hv : σ[i]? = some (some v)) (h : e[i]? = some (some (Sl.ol false xs))) : ∃ F', Same F F' ∧ R K c (e.set i (some (Sl.fr (.list xs)))) σ H F' ∧ Dp K F' v (.list xs) := by
  obtain ⟨a, o, h1, h2, h3, ⟨vs, rfl, h4⟩, h5, h6, h7⟩ := r.ow i _ h rfl
  rw [hv] at h1
  cases h1
  have hi : i < e.length := lt_of_get h
  have hd : Dp K (upd F a (.lst vs)) (.ref a) (.list xs) := .lst (SqL.of upd_same) (dl_mono (upd_some h3) _ _ h4)
  have old : ∀ (j : Nat) (w : Sl), (e.set i (some (Sl.fr (.list xs))))[j]? = some (some w) → w.isOwn = true → j ≠ i ∧ e[j]? = some (some w) := fun j w q1 q2 => by
    rw [get_set hi] at q1
    split at q1
    · cases q1; cases q2
    · exact ⟨by assumption, q1⟩
  have na : ∀ (j : Nat) (w : Sl) (b : Addr), j ≠ i → e[j]? = some (some w) → w.isOwn = true → σ[j]? = some (some (V.ref b)) → b ≠ a := fun j w b q0 q1 q2 q3 z => r.ne j i b w _ q0 q1 q2 h rfl q3 (by rw [hv, z])
  refine ⟨upd F a (.lst vs), upd_some h3, ⟨⟨fun b u q => ?_, r.aft.s1.trans (upd_some h3), r.aft.s0, fun b q1 q2 => ?_, r.aft.s3, r.aft.tab, fun b u q => ?_⟩, by rw [List.length_set]; exact r.len, fun j d q => ?_, fun j w q1 q2 => ?_, fun j k b w u hjk q1 q2 q3 q4 => r.ne j k b w u hjk (old j w q1 q2).2 q2 (old k u q3 q4).2 q4, fun q hq => ?_, r.tmnd, fun j w q1 q2 => r.pr j w (old j w q1 (by cases w <;> first | rfl | cases q2)).2 q2⟩, hd⟩
  · by_cases hb : b = a
    · rw [hb, upd_same] at q; cases q; rw [hb]; exact h2
    · rw [upd_ne hb] at q; exact r.aft.sub b u q
  · have hb : b ≠ a := fun z => q2 (by rw [z]; exact h6 rfl)
    rw [upd_ne hb]; exact r.aft.s2 b q1 q2
  · by_cases hb : b = a
    · rw [hb, upd_same] at q; cases q; rfl
    · rw [upd_ne hb] at q; exact r.aft.imm b u q
  · rw [get_set hi] at q
    split at q
    · rename_i hj
      cases q
      rw [hj]
      exact ⟨_, hv, hd⟩
    · obtain ⟨v, q1, q2⟩ := r.fr j d q
      exact ⟨v, q1, dp_mono (upd_some h3) _ _ q2⟩
  · obtain ⟨hj, q3⟩ := old j w q1 q2
    obtain ⟨b, u, k1, k2, k3, k4, k5⟩ := r.ow j w q3 q2
    exact ⟨b, u, k1, k2, by rw [upd_ne (na j w b hj q3 q2 k1)]; exact k3, k4.mono (upd_some h3), k5⟩
  · obtain ⟨k1, k2, k3⟩ := r.tm q hq
    exact ⟨k1, by rw [upd_ne fun z => h7 (by rw [← z]; exact List.mem_map.mpr ⟨q, hq, rfl⟩)]; exact k2, k3⟩
end
end DL

namespace DL
open PySem PySem.Spec PyProof.Rows L2
variable [Inhabited Tbx]

/-! ### outs -/
def ob {α β : Type} (o : Out α) (k : α → Ev → Out β) : Out β := match o with
  | .ok a e => k a e
  | .exc x e => .exc x e
  | .bad => .bad
def RV.data (e : Ev) : RV → Option PyData
  | .val d => some d
  | .own i => match e[i]? with
    | some (some (.ol _ xs)) => some (.list xs)
    | _ => none
  | .new _ => none
/-- what is used as a value: frozen -/
def vvK (r : RV) (e : Ev) : Out RV := match r with
  | .val d => .ok (.val d) e
  | .own i => match e[i]? with
    | some (some (.ol false xs)) => .ok (.val (.list xs)) (e.set i (some (.fr (.list xs))))
    | _ => .bad
  | .new (.ol _ xs) => .ok (.val (.list xs)) e
  | .new _ => .bad
/-- what is read: a new object frozen, an own one left as it is -/
def bbK (r : RV) (e : Ev) : Out RV := match r with
  | .val d => .ok (.val d) e
  | .own i => .ok (.own i) e
  | .new (.ol _ xs) => .ok (.val (.list xs)) e
  | .new _ => .bad
def vv (f : FE) : FE := fun e => ob (f e) vvK
def bb (f : FE) : FE := fun e => ob (f e) bbK

abbrev DE (X : Cx) (xn : XN) (Wx : WX) (ex : Expr) (f : FE) : Prop := PE X ex (tE X.K xn Wx f)
abbrev DT (X : Cx) (xn : XN) (Wx : WX) (ex : Expr) (f : Ev → Out Bool) : Prop := PT X ex (tT X.K xn Wx f)
abbrev DW (X : Cx) (xn : XN) (Wx : WX) (ex : Expr) (f : Ev → Out Bool) : Prop := PW X ex (tT X.K xn Wx f)
abbrev DA (X : Cx) (xn : XN) (Wx : WX) (es : List Expr) (f : Ev → Out (List RV)) : Prop := PA X es (tA X.K xn Wx f)
abbrev DS (X : Cx) (xn : XN) (Wx : WX) (s : Stmt) (f : FS) : Prop := PS X s (tS X.K xn Wx f)
abbrev DSs (X : Cx) (xn : XN) (Wx : WX) (s : List Stmt) (f : FS) : Prop := PSs X s (tS X.K xn Wx f)

/-! ### top data -/
/-- v may be read as d in H; d's items are frozen in F -/
def TopD (K : PySem.W.Frag) (H F : Hp) (v : V) : PyData → Prop
  | .list ds => ∃ a vs, v = .ref a ∧ SqL K H a vs ∧ DpAll K F vs ds
  | d => Dp K F v d
section
variable {K : PySem.W.Frag} {c : C0} {e e1 : Ev} {σ σ1 : L2.St} {H F H1 F1 : Hp}
theorem TopD.of (s : Same F H) {v : V} {d : PyData} (h : Dp K F v d) : TopD K H F v d := by
  cases d with
  | list ds => obtain ⟨a, vs, e1, e2, e3⟩ := dp_lst_inv h; exact ⟨a, vs, e1, s.seq e2, e3⟩
  | _ => exact h
theorem TopD.dp (s : Same F H) {v : V} {d : PyData} (h : TopD K H F v d) : Dp K H v d := by
  cases d with
  | list ds => obtain ⟨a, vs, rfl, e2, e3⟩ := h; exact .lst e2 (dl_mono s _ _ e3)
  | tuple ds => exact dp_mono s _ _ h
  | none => exact dp_mono s _ _ h
  | bool b => exact dp_mono s _ _ h
  | int b => exact dp_mono s _ _ h
  | str b => exact dp_mono s _ _ h
  | dict b => exact dp_mono s _ _ h
theorem TopD.tup (s : Same F H) {v : V} {ds : List PyData} (h : TopD K H F v (.tuple ds)) : ∃ a vs, v = .ref a ∧ SqT K H a vs ∧ DpAll K F vs ds := by
  obtain ⟨a, vs, e1, e2, e3⟩ := dp_tup_inv h
  exact ⟨a, vs, e1, Same.seqT s e2, e3⟩
/-- F0 is F now -/
def C0.reb (c : C0) (F : Hp) : C0 := { c with F0 := F }
theorem R.reb (r : R K c e σ H F) : R K (c.reb F) e σ H F :=
  ⟨⟨r.aft.sub, Same.refl _, r.aft.s0, fun b h _ => h, r.aft.s3, r.aft.tab, r.aft.imm⟩, r.len, r.fr, r.ow, r.ne, r.tm, r.tmnd, r.pr⟩
theorem R.unreb (r : R K c e σ H F) (r1 : R K (c.reb F) e1 σ1 H1 F1) : R K c e1 σ1 H1 F1 ∧ Same F F1 :=
  ⟨⟨⟨r1.aft.sub, r.aft.s1.trans r1.aft.s1, r1.aft.s0, fun b h q => r1.aft.s2 b (r.aft.s2 b h q) q, r1.aft.s3, r1.aft.tab, r1.aft.imm⟩, r1.len, r1.fr, r1.ow, r1.ne, r1.tm, r1.tmnd, r1.pr⟩, r1.aft.s1⟩
theorem rv_reb {rv : RV} {v : V} {G : Hp} : RvAt K (c.reb G) e σ H F rv v ↔ RvAt K c e σ H F rv v := by
  cases rv <;> exact Iff.rfl
/-- what has come is val or own -/
def RV.still : RV → Bool
  | .new _ => false
  | _ => true
theorem RvAt.data (r1 : R K c e1 σ H1 F1) (s : Same F F1) {rv : RV} {v : V} {d : PyData} (st : rv.still = true) (h : RvAt K c e σ H F rv v) (hd : rv.data e1 = some d) : TopD K H1 F1 v d := by
  cases rv with
  | val z =>
    cases hd
    exact TopD.of r1.aft.sub (dp_mono s _ _ h)
  | new w => cases st
  | own i =>
    obtain ⟨h1, _⟩ := h
    have hd' : (match e1[i]? with | some (some (.ol _ xs)) => some (.list xs) | _ => none) = some d := hd
    split at hd'
    · rename_i p xs q
      cases hd'
      obtain ⟨a, o, k1, k2, k3, ⟨vs, rfl, k4⟩, _⟩ := r1.ow i _ q rfl
      rw [h1] at k1
      cases k1
      exact ⟨a, vs, rfl, SqL.of k2, k4⟩
    · cases hd'
end

/-! ### conversions -/
section
variable {X : Cx} {xn : XN} {Wx : WX} {ex : Expr} {f : FE} {pos : Pos}
/-- go on behind an expression -/
theorem tE_then {K : PySem.W.Frag} {g : RV → Ev → Out RV} {σ : L2.St} {H : Hp} {Q : VK} (h : tE K xn Wx (fun e => ob (f e) g) σ H Q)
    (k : ∀ c e r v H' F', R K c e σ H' F' → RvAt K c e σ H' F' r v → (match g r e with
      | .ok r e' => Post K c e' σ r Q
      | .exc x e' => PostX K c e' σ xn Wx x
      | .bad => False) → Q v H') : tE K xn Wx f σ H Q := by
  obtain ⟨c, e, F, r, h⟩ := h
  refine ⟨c, e, F, r, ?_⟩
  cases q : f e with
  | ok rv e1 =>
    simp only [q, ob] at h
    exact fun v H' F' r1 rv1 => k c e1 rv v H' F' r1 rv1 h
  | exc x e1 =>
    simp only [q, ob] at h
    exact h
  | bad => simp only [q, ob] at h
theorem de_v (h : DE X xn Wx ex f) : DE X xn Wx ex (vv f) := PE_imp h fun σ H Q q => tE_then q fun c e r v H' F' r1 rv1 z => by
  cases r with
  | val d => exact z v H' F' r1 rv1
  | own i =>
    simp only [vvK] at z
    obtain ⟨h1, w, h2, h3⟩ := rv1
    rw [h2] at z
    cases w with
    | fr d => cases h3
    | od p kvs => exact z.elim
    | ol p xs =>
      cases p with
      | true => exact z.elim
      | false =>
        obtain ⟨F'', s, r2, hd⟩ := r1.freezeO h1 h2
        exact z v H' F'' r2 hd
  | new w =>
    cases w with
    | fr d => exact z.elim
    | od p kvs => exact z.elim
    | ol p xs =>
      obtain ⟨F'', s, r2, hd⟩ := r1.freezeN rv1
      exact z v H' F'' r2 hd
theorem de_b (h : DE X xn Wx ex f) : DE X xn Wx ex (bb f) := PE_imp h fun σ H Q q => tE_then q fun c e r v H' F' r1 rv1 z => by
  cases r with
  | val d => exact z v H' F' r1 rv1
  | own i => exact z v H' F' r1 rv1
  | new w =>
    cases w with
    | fr d => exact z.elim
    | od p kvs => exact z.elim
    | ol p xs =>
      obtain ⟨F'', s, r2, hd⟩ := r1.freezeN rv1
      exact z v H' F'' r2 hd
theorem vv_val {r r' : RV} {e e' : Ev} (h : vvK r e = .ok r' e') : ∃ d, r' = .val d := by
  cases r with
  | val d => cases h; exact ⟨d, rfl⟩
  | own i =>
    simp only [vvK] at h
    split at h
    · cases h; exact ⟨_, rfl⟩
    · cases h
  | new w =>
    cases w with
    | ol p xs => cases h; exact ⟨_, rfl⟩
    | _ => cases h
theorem bb_still {f : FE} {r : RV} {e e' : Ev} (h : bb f e = .ok r e') : r.still = true := by
  unfold bb at h
  cases q : f e with
  | ok r1 e1 =>
    rw [q] at h
    simp only [ob] at h
    cases r1 with
    | val d => cases h; rfl
    | own i => cases h; rfl
    | new w =>
      cases w with
      | ol p xs => cases h; rfl
      | _ => cases h
  | exc x e1 => rw [q] at h; cases h
  | bad => rw [q] at h; cases h
theorem vv_still {f : FE} {r : RV} {e e' : Ev} (h : vv f e = .ok r e') : ∃ d, r = .val d := by
  unfold vv at h
  cases q : f e with
  | ok r1 e1 =>
    rw [q] at h
    exact vv_val h
  | exc x e1 => rw [q] at h; cases h
  | bad => rw [q] at h; cases h

/-! ### names, constants -/
def fVar (i : Nat) : FE := fun e => match e[i]? with
  | some (some (.fr d)) => .ok (.val d) e
  | some (some (.ol _ _)) => .ok (.own i) e
  | some (some (.od _ _)) => .ok (.own i) e
  | _ => .bad
def fC (d : PyData) : FE := fun e => .ok (.val d) e
theorem de_var (i : Nat) {x : Str} {pos : Pos} (hN : X.N[i]? = some x := by rfl) (hv : Vis X.env.scope x := by first | exact Or.inl rfl | exact Or.inr (Or.inl rfl) | exact Or.inr (Or.inr rfl)) (hd : (x == ("__debug__" : Str)) = false := by decide)
    (hcd : (x == ("__classdict__" : Str)) = false := by decide) : DE X xn Wx (.Name x pos) (fVar i) := PE_imp (pe_var hN hv hd hcd) fun σ H Q q => by
  obtain ⟨c, e, F, r, h⟩ := q
  simp only [fVar] at h
  split at h
  · rename_i e1
    split at e1
    · rename_i d q
      cases e1
      obtain ⟨v, h1, h2⟩ := r.fr i d q
      exact ⟨v, h1, h v H F r h2⟩
    · rename_i p xs q
      cases e1
      obtain ⟨a, o, h1, h2⟩ := r.ow i _ q rfl
      exact ⟨_, h1, h _ H F r ⟨h1, _, q, rfl⟩⟩
    · rename_i p xs q
      cases e1
      obtain ⟨a, o, h1, h2⟩ := r.ow i _ q rfl
      exact ⟨_, h1, h _ H F r ⟨h1, _, q, rfl⟩⟩
    · cases e1
  · rename_i e1
    split at e1 <;> cases e1
  · exact h.elim
theorem de_int {i : Int} {j : Nat} : DE X xn Wx (.Constant (.int i) j pos) (fC (.int i)) := PE_imp pe_int fun σ H Q ⟨c, e, F, r, h⟩ => h _ H F r (.int i)
theorem de_bl {i : Bool} {j : Nat} : DE X xn Wx (.Constant (.bool i) j pos) (fC (.bool i)) := PE_imp pe_bl fun σ H Q ⟨c, e, F, r, h⟩ => h _ H F r (.bl i)
theorem de_non {j : Nat} : DE X xn Wx (.Constant .none j pos) (fC .none) := PE_imp pe_non fun σ H Q ⟨c, e, F, r, h⟩ => h _ H F r .non
theorem de_str {i : Str} {j : Nat} : DE X xn Wx (.Constant (.str i) j pos) (fC (.str i)) := PE_imp pe_str fun σ H Q ⟨c, e, F, r, h⟩ => h _ H F r (.str i)
/-- a constant of the module -/
theorem de_glob {x : Str} {v : V} {u : Value} {d : PyData} (hg : Gl X x) (hm : X.mg x = some u) (rl : RelV v u) (hd : ∀ F, Dp X.K F v d) (hdb : (x == ("__debug__" : Str)) = false := by decide) : DE X xn Wx (.Name x pos) (fC d) :=
  PE_imp (pe_glob hg hm rl hdb) fun σ H Q ⟨c, e, F, r, h⟩ => h _ H F r (hd F)

/-! ### two operands -/
def f2 (g : PyData → PyData → Option RV) (fa fb : FE) : FE := fun e => ob (bb fa e) fun ra e1 => ob (bb fb e1) fun rb e2 => match ra.data e2, rb.data e2 with
  | some dx, some dy => (match g dx dy with
    | some r => .ok r e2
    | none => .bad)
  | _, _ => .bad
/-- what an operation on two values gives -/
def Bin (K : PySem.W.Frag) (r2 : R2) (g : PyData → PyData → Option RV) : Prop := ∀ (c : C0) (e : Ev) (σ : L2.St) (H F : Hp) (x y : V) (dx dy : PyData) (rv : RV) (Q : VK),
  R K c e σ H F → TopD K H F x dx → TopD K H F y dy → g dx dy = some rv → Post K c e σ rv Q → r2 x y H Q
theorem t2_of {K : PySem.W.Frag} {fa fb : FE} {g : PyData → PyData → Option RV} {σ : L2.St} {H : Hp} {Q : VK} {Rk : V → V → Hp → Prop} (h : tE K xn Wx (f2 g fa fb) σ H Q)
    (k : ∀ (c : C0) (e : Ev) (H F : Hp) (x y : V) (dx dy : PyData) (rv : RV), R K c e σ H F → TopD K H F x dx → TopD K H F y dy → g dx dy = some rv → Post K c e σ rv Q → Rk x y H) :
    tE K xn Wx (bb fa) σ H fun x H1 => tE K xn Wx (bb fb) σ H1 fun y H2 => Rk x y H2 := by
  obtain ⟨c, e, F, r, h⟩ := h
  refine ⟨c, e, F, r, ?_⟩
  unfold f2 at h
  cases qa : bb fa e with
  | bad => simp only [qa, ob] at h
  | exc x e1 => simp only [qa, ob] at h; exact h
  | ok ra e1 =>
    simp only [qa, ob] at h
    intro v H1 F1 r1 rv1
    refine ⟨c.reb F1, e1, F1, r1.reb, ?_⟩
    cases qb : bb fb e1 with
    | bad => simp only [qb] at h
    | exc x e2 =>
      simp only [qb] at h
      exact fun C d H2 F2 hx r2 => h C d H2 F2 hx (r1.unreb r2).1
    | ok rb e2 =>
      simp only [qb] at h
      intro v2 H2 F2 r2 rv2
      obtain ⟨r3, s⟩ := r1.unreb r2
      cases qx : ra.data e2 with
      | none => simp only [qx] at h
      | some dx =>
        cases qy : rb.data e2 with
        | none => simp only [qx, qy] at h
        | some dy =>
          simp only [qx, qy] at h
          cases qg : g dx dy with
          | none => simp only [qg] at h
          | some rv =>
            simp only [qg] at h
            exact k c e2 H2 F2 v v2 dx dy rv r3 (RvAt.data r3 s (bb_still qa) rv1 qx) (RvAt.data r3 (Same.refl _) (bb_still qb) (rv_reb.mp rv2) qy) qg h
theorem de_op {op : Operator} {r2 : R2} {g : PyData → PyData → Option RV} {a b : Expr} {fa fb : FE} (ho : OpR X (binaryOp op) r2) (hg : Bin X.K r2 g) (ha : DE X xn Wx a fa) (hb : DE X xn Wx b fb) : DE X xn Wx (.BinOp a op b pos) (f2 g fa fb) :=
  PE_imp (pe_op ho (de_b ha) (de_b hb)) fun σ H Q q => t2_of q fun c e H F x y dx dy rv r hx hy qg h => hg c e σ H F x y dx dy rv Q r hx hy qg h
theorem de_cmp {op : CmpOp} {r2 : R2} {g : PyData → PyData → Option RV} {a b : Expr} {fa fb : FE} (ho : OpR X (compareOp op) r2) (hg : Bin X.K r2 g) (ha : DE X xn Wx a fa) (hb : DE X xn Wx b fb) (hm : behindInMarks op b = false := by first | exact nomark _ | rfl) : DE X xn Wx (.Compare a [op] [b] pos) (f2 g fa fb) :=
  PE_imp (pe_cmpR ho (de_b ha) (de_b hb) hm) fun σ H Q q => t2_of q fun c e H F x y dx dy rv r hx hy qg h => hg c e σ H F x y dx dy rv Q r hx hy qg h
theorem de_ix {r2 : R2} {g : PyData → PyData → Option RV} {a b : Expr} {fa fb : FE} (ho : IxR X r2) (hg : Bin X.K r2 g) (ha : DE X xn Wx a fa) (hb : DE X xn Wx b fb) (hs : PlainIx b := by exact fun _ _ => rfl) : DE X xn Wx (.Subscript a b pos) (f2 g fa fb) :=
  PE_imp (pe_ix ho (de_b ha) (de_b hb) hs) fun σ H Q q => t2_of q fun c e H F x y dx dy rv r hx hy qg h => hg c e σ H F x y dx dy rv Q r hx hy qg h

/-! ### one operand -/
def f1 (g : PyData → Option RV) (fa : FE) : FE := fun e => ob (bb fa e) fun ra e1 => match ra.data e1 with
  | some dx => (match g dx with
    | some r => .ok r e1
    | none => .bad)
  | none => .bad
def Una (K : PySem.W.Frag) (r1 : V → Hp → VK → Prop) (g : PyData → Option RV) : Prop := ∀ (c : C0) (e : Ev) (σ : L2.St) (H F : Hp) (x : V) (dx : PyData) (rv : RV) (Q : VK),
  R K c e σ H F → TopD K H F x dx → g dx = some rv → Post K c e σ rv Q → r1 x H Q
theorem t1_of {K : PySem.W.Frag} {fa : FE} {g : PyData → Option RV} {σ : L2.St} {H : Hp} {Q : VK} {Rk : V → Hp → Prop} (h : tE K xn Wx (f1 g fa) σ H Q)
    (k : ∀ (c : C0) (e : Ev) (H F : Hp) (x : V) (dx : PyData) (rv : RV), R K c e σ H F → TopD K H F x dx → g dx = some rv → Post K c e σ rv Q → Rk x H) :
    tE K xn Wx (bb fa) σ H Rk := by
  obtain ⟨c, e, F, r, h⟩ := h
  refine ⟨c, e, F, r, ?_⟩
  unfold f1 at h
  cases qa : bb fa e with
  | bad => simp only [qa, ob] at h
  | exc x e1 => simp only [qa, ob] at h; exact h
  | ok ra e1 =>
    simp only [qa, ob] at h
    intro v H1 F1 r1 rv1
    cases qx : ra.data e1 with
    | none => simp only [qx] at h
    | some dx =>
      simp only [qx] at h
      cases qg : g dx with
      | none => simp only [qg] at h
      | some rv =>
        simp only [qg] at h
        exact k c e1 H1 F1 v dx rv r1 (RvAt.data r1 (Same.refl _) (bb_still qa) rv1 qx) qg h
theorem de_un {op : UnaryOp} {r1 : V → Hp → VK → Prop} {g : PyData → Option RV} {a : Expr} {fa : FE} (ho : UnR X (unaryOp op) r1) (hg : Una X.K r1 g) (ha : DE X xn Wx a fa) : DE X xn Wx (.UnaryOp op a pos) (f1 g fa) :=
  PE_imp (pe_un ho (de_b ha)) fun σ H Q q => t1_of q fun c e H F x dx rv r hx qg h => hg c e σ H F x dx rv Q r hx qg h

/-! ### truth -/
def tru : PyData → Option Bool
  | .none => some false
  | .bool b => some b
  | .int i => some (i != 0)
  | .str x => if x.length ≤ sizeLine then some ((x.length : Int) != 0) else none
  | .list ds => some (!ds.isEmpty)
  | .tuple ds => some (!ds.isEmpty)
  | .dict _ => none
theorem isEmpty_dl {K : PySem.W.Frag} {F : Hp} {ds : List PyData} {vs : List V} (h : DpAll K F vs ds) : vs.isEmpty = ds.isEmpty := by
  have e := dl_len h
  cases vs <;> cases ds <;> first | rfl | (simp at e)
theorem tru_top {K : PySem.W.Frag} {H F : Hp} {x : V} {d : PyData} {b : Bool} (s : Same F H) (h : TopD K H F x d) (q : tru d = some b) : TruV K x H b := by
  cases d with
  | none => rw [dp_non_inv h]; cases q; rfl
  | bool b => rw [dp_bl_inv h]; cases q; rfl
  | int b => rw [dp_int_inv h]; cases q; rfl
  | str z =>
    rw [dp_str_inv h]
    simp only [tru] at q
    split at q
    · cases q; exact ⟨by assumption, rfl⟩
    · cases q
  | list ds => obtain ⟨a, vs, rfl, h1, h2⟩ := h; cases q; exact .inl ⟨vs, h1, by rw [isEmpty_dl h2]⟩
  | tuple ds => obtain ⟨a, vs, rfl, h1, h2⟩ := TopD.tup s h; cases q; exact .inr (.inl ⟨vs, h1, by rw [isEmpty_dl h2]⟩)
  | dict kvs => cases q
def tT1 (f : FE) : Ev → Out Bool := fun e => ob (bb f e) fun r e1 => match r.data e1 with
  | some d => (match tru d with
    | some b => .ok b e1
    | none => .bad)
  | none => .bad
theorem tt_of {K : PySem.W.Frag} {fa : FE} {σ : L2.St} {H : Hp} {Q : Bool → Hp → Prop} {Rk : V → Hp → Prop} (h : tT K xn Wx (tT1 fa) σ H Q)
    (k : ∀ (c : C0) (e : Ev) (H F : Hp) (x : V) (dx : PyData) (b : Bool), R K c e σ H F → TopD K H F x dx → tru dx = some b → (∀ H' F', R K c e σ H' F' → Q b H') → Rk x H) :
    tE K xn Wx (bb fa) σ H Rk := by
  obtain ⟨c, e, F, r, h⟩ := h
  refine ⟨c, e, F, r, ?_⟩
  unfold tT1 at h
  cases qa : bb fa e with
  | bad => simp only [qa, ob] at h
  | exc x e1 => simp only [qa, ob] at h; exact h
  | ok ra e1 =>
    simp only [qa, ob] at h
    intro v H1 F1 r1 rv1
    cases qx : ra.data e1 with
    | none => simp only [qx] at h
    | some dx =>
      simp only [qx] at h
      cases qg : tru dx with
      | none => simp only [qg] at h
      | some rv =>
        simp only [qg] at h
        exact k c e1 H1 F1 v dx rv r1 (RvAt.data r1 (Same.refl _) (bb_still qa) rv1 qx) qg h
theorem dt_v {a : Expr} {fa : FE} (ha : DE X xn Wx a fa) (he : ∀ whole, isTrue a X.env whole = (do let v ← whole; standAt a.pos; holding [v] (truthy v)) := by intro _; rfl) : DT X xn Wx a (tT1 fa) :=
  PT_imp (pt_truth (de_b ha) he) fun σ H Q q => tt_of q fun c e H F x dx b r hx qg h => ⟨b, tru_top r.aft.sub hx qg, h H F r⟩
/-- a comparison as a test -/
def asB (f : FE) : Ev → Out Bool := fun e => ob (f e) fun r e1 => match r with
  | .val (.bool b) => .ok b e1
  | _ => .bad
theorem asB_of {K : PySem.W.Frag} {fa : FE} {σ : L2.St} {H : Hp} {Q : Bool → Hp → Prop} (h : tT K xn Wx (asB fa) σ H Q) : tE K xn Wx fa σ H fun x H' => ∃ k, x = .bl k ∧ Q k H' := by
  obtain ⟨c, e, F, r, h⟩ := h
  refine ⟨c, e, F, r, ?_⟩
  unfold asB at h
  cases qa : fa e with
  | bad => simp only [qa, ob] at h
  | exc x e1 => simp only [qa, ob] at h; exact h
  | ok ra e1 =>
    simp only [qa, ob] at h
    intro v H1 F1 r1 rv1
    split at h
    · rename_i q
      split at q
      · cases q
        exact ⟨_, dp_bl_inv rv1, h H1 F1 r1⟩
      · cases q
    · rename_i q
      split at q <;> cases q
    · exact h.elim
theorem dt_cmp {op : CmpOp} {r2 : R2} {g : PyData → PyData → Option RV} {a b : Expr} {fa fb : FE} (ho : OpR X (compareOp op) r2) (hg : Bin X.K r2 g) (ha : DE X xn Wx a fa) (hb : DE X xn Wx b fb) (hm : behindInMarks op b = false := by first | exact nomark _ | rfl) : DT X xn Wx (.Compare a [op] [b] pos) (asB (f2 g fa fb)) :=
  PT_imp (pt_cmpR ho (de_b ha) (de_b hb) hm) fun σ H Q q => t2_of (asB_of q) fun c e H F x y dx dy rv r hx hy qg h => hg c e σ H F x y dx dy rv _ r hx hy qg h
/-! ### and, or, not in tests -/
def tAndB (f g : Ev → Out Bool) : Ev → Out Bool := fun e => ob (f e) fun b e1 => if b = true then g e1 else .ok false e1
def tOrB (f g : Ev → Out Bool) : Ev → Out Bool := fun e => ob (f e) fun b e1 => if b = true then .ok true e1 else g e1
def tNotB (f : Ev → Out Bool) : Ev → Out Bool := fun e => ob (f e) fun b e1 => .ok (!b) e1
theorem dw_and1 {a : Expr} {f : Ev → Out Bool} (h : DT X xn Wx a f) : DW X xn Wx (.BoolOp .And [a] pos) f := pw_and1 h
theorem dw_or1 {a : Expr} {f : Ev → Out Bool} (h : DT X xn Wx a f) : DW X xn Wx (.BoolOp .Or [a] pos) f := pw_or1 h
theorem tb_of {K : PySem.W.Frag} {f : Ev → Out Bool} {g : Bool → Ev → Out Bool} {σ : L2.St} {H : Hp} {Q : Bool → Hp → Prop} {Rk : Bool → Hp → Prop} (h : tT K xn Wx (fun e => ob (f e) g) σ H Q)
    (k : ∀ (c : C0) (e : Ev) (b : Bool) (H F : Hp), R K c e σ H F → (match g b e with
      | .ok b e' => ∀ H' F', R K c e' σ H' F' → Q b H'
      | .exc x e' => PostX K c e' σ xn Wx x
      | .bad => False) → Rk b H) : tT K xn Wx f σ H Rk := by
  obtain ⟨c, e, F, r, h⟩ := h
  refine ⟨c, e, F, r, ?_⟩
  cases qa : f e with
  | bad => simp only [qa, ob] at h
  | exc x e1 => simp only [qa, ob] at h; exact h
  | ok b e1 =>
    simp only [qa, ob] at h
    exact fun H' F' r' => k c e1 b H' F' r' h
theorem dw_and {a b : Expr} {rest : List Expr} {f g : Ev → Out Bool} (ha : DT X xn Wx a f) (hb : DW X xn Wx (.BoolOp .And (b :: rest) pos) g) : DW X xn Wx (.BoolOp .And (a :: b :: rest) pos) (tAndB f g) :=
  PW_imp (pw_and ha hb) fun σ H Q q => tb_of q fun c e k H F r h => by
    cases k with
    | true => rw [if_pos rfl] at h ⊢; exact ⟨c, e, F, r, h⟩
    | false => rw [if_neg Bool.false_ne_true] at h ⊢; exact h H F r
theorem dw_or {a b : Expr} {rest : List Expr} {f g : Ev → Out Bool} (ha : DT X xn Wx a f) (hb : DW X xn Wx (.BoolOp .Or (b :: rest) pos) g) : DW X xn Wx (.BoolOp .Or (a :: b :: rest) pos) (tOrB f g) :=
  PW_imp (pw_or ha hb) fun σ H Q q => tb_of q fun c e k H F r h => by
    cases k with
    | true => rw [if_pos rfl] at h ⊢; exact h H F r
    | false => rw [if_neg Bool.false_ne_true] at h ⊢; exact ⟨c, e, F, r, h⟩
theorem dt_w {a : Expr} {f : Ev → Out Bool} (h : DW X xn Wx a f) : DT X xn Wx a f := PW.pt h
theorem dt_not {a : Expr} {f : Ev → Out Bool} (h : DT X xn Wx a f) : DT X xn Wx (.UnaryOp .Not a pos) (tNotB f) :=
  PT_imp (pt_not h) fun σ H Q q => tb_of q fun c e k H F r h => h H F r
/-! ### .. as values -/
def fAnd (fa fb : FE) : FE := fun e => ob (bb fa e) fun r e1 => match r.data e1 with
  | some d => (match tru d with
    | some true => fb e1
    | some false => .ok r e1
    | none => .bad)
  | none => .bad
def fOr (fa fb : FE) : FE := fun e => ob (bb fa e) fun r e1 => match r.data e1 with
  | some d => (match tru d with
    | some true => .ok r e1
    | some false => fb e1
    | none => .bad)
  | none => .bad
def fNot (fa : FE) : FE := fun e => ob (bb fa e) fun r e1 => match r.data e1 with
  | some d => (match tru d with
    | some b => .ok (.val (.bool (!b))) e1
    | none => .bad)
  | none => .bad
theorem te_of {K : PySem.W.Frag} {f : FE} {g : RV → Ev → Out RV} {σ : L2.St} {H : Hp} {Q : VK} {Rk : V → Hp → Prop} (h : tE K xn Wx (fun e => ob (f e) g) σ H Q)
    (k : ∀ (c : C0) (e e0 : Ev) (r : RV) (v : V) (H F : Hp), f e0 = .ok r e → R K c e σ H F → RvAt K c e σ H F r v → (match g r e with
      | .ok r e' => Post K c e' σ r Q
      | .exc x e' => PostX K c e' σ xn Wx x
      | .bad => False) → Rk v H) : tE K xn Wx f σ H Rk := by
  obtain ⟨c, e, F, r, h⟩ := h
  refine ⟨c, e, F, r, ?_⟩
  cases qa : f e with
  | bad => simp only [qa, ob] at h
  | exc x e1 => simp only [qa, ob] at h; exact h
  | ok b e1 =>
    simp only [qa, ob] at h
    exact fun v H' F' r' rv => k c e1 e b v H' F' qa r' rv h
theorem de_one {op : BoolOp} {a : Expr} {f : FE} (h : DE X xn Wx a f) : DE X xn Wx (.BoolOp op [a] pos) f := pe_one h
theorem de_and {a b : Expr} {rest : List Expr} {fa fb : FE} (ha : DE X xn Wx a fa) (hb : DE X xn Wx (.BoolOp .And (b :: rest) pos) fb) : DE X xn Wx (.BoolOp .And (a :: b :: rest) pos) (fAnd fa fb) :=
  PE_imp (pe_andT (de_b ha) hb) fun σ H Q q => te_of q fun c e e0 r v H F qa rr rv h => by
    cases qd : r.data e with
    | none => simp only [qd] at h
    | some d =>
      simp only [qd] at h
      cases qt : tru d with
      | none => simp only [qt] at h
      | some b =>
        simp only [qt] at h
        refine ⟨b, tru_top rr.aft.sub (RvAt.data rr (Same.refl _) (bb_still qa) rv qd) qt, ?_⟩
        cases b with
        | true => rw [if_pos rfl]; exact ⟨c, e, F, rr, h⟩
        | false => rw [if_neg Bool.false_ne_true]; exact h v H F rr rv
theorem de_or {a b : Expr} {rest : List Expr} {fa fb : FE} (ha : DE X xn Wx a fa) (hb : DE X xn Wx (.BoolOp .Or (b :: rest) pos) fb) : DE X xn Wx (.BoolOp .Or (a :: b :: rest) pos) (fOr fa fb) :=
  PE_imp (pe_orT (de_b ha) hb) fun σ H Q q => te_of q fun c e e0 r v H F qa rr rv h => by
    cases qd : r.data e with
    | none => simp only [qd] at h
    | some d =>
      simp only [qd] at h
      cases qt : tru d with
      | none => simp only [qt] at h
      | some b =>
        simp only [qt] at h
        refine ⟨b, tru_top rr.aft.sub (RvAt.data rr (Same.refl _) (bb_still qa) rv qd) qt, ?_⟩
        cases b with
        | true => rw [if_pos rfl]; exact h v H F rr rv
        | false => rw [if_neg Bool.false_ne_true]; exact ⟨c, e, F, rr, h⟩
theorem de_not {a : Expr} {fa : FE} (ha : DE X xn Wx a fa) : DE X xn Wx (.UnaryOp .Not a pos) (fNot fa) :=
  PE_imp (pe_notT (de_b ha)) fun σ H Q q => te_of q fun c e e0 r v H F qa rr rv h => by
    cases qd : r.data e with
    | none => simp only [qd] at h
    | some d =>
      simp only [qd] at h
      cases qt : tru d with
      | none => simp only [qt] at h
      | some b =>
        simp only [qt] at h
        exact ⟨b, tru_top rr.aft.sub (RvAt.data rr (Same.refl _) (bb_still qa) rv qd) qt, h _ H F rr (.bl _)⟩
/-- a if t else b -/
def fIf (ft : Ev → Out Bool) (fa fb : FE) : FE := fun e => ob (ft e) fun b e1 => if b = true then fa e1 else fb e1
theorem de_if {t a b : Expr} {ft : Ev → Out Bool} {fa fb : FE} (ht : DT X xn Wx t ft) (ha : DE X xn Wx a fa) (hb : DE X xn Wx b fb) : DE X xn Wx (.IfExp t a b pos) (fIf ft fa fb) :=
  PE_imp (pe_ifExp ht ha hb) fun σ H Q ⟨c, e, F, r, h⟩ => by
    refine ⟨c, e, F, r, ?_⟩
    unfold fIf at h
    cases q : ft e with
    | bad => simp only [q, ob] at h
    | exc x e1 => simp only [q, ob] at h; exact h
    | ok k e1 =>
      simp only [q, ob] at h
      intro H' F' r'
      cases k with
      | true => rw [if_pos rfl] at h ⊢; exact ⟨c, e1, F', r', h⟩
      | false => rw [if_neg Bool.false_ne_true] at h ⊢; exact ⟨c, e1, F', r', h⟩
/-- a < b < c -/
def f3 (g g' : PyData → PyData → Option RV) (fa fb fc : FE) : FE := fun e => ob (bb fa e) fun ra e1 => ob (bb fb e1) fun rb e2 => match ra.data e2, rb.data e2 with
  | some dx, some dy => (match g dx dy with
    | some (.val (.bool true)) => ob (bb fc e2) fun rc e3 => (match rb.data e3, rc.data e3 with
      | some dy, some dz => (match g' dy dz with
        | some (.val (.bool b)) => .ok (.val (.bool b)) e3
        | _ => .bad)
      | _, _ => .bad)
    | some (.val (.bool false)) => .ok (.val (.bool false)) e2
    | _ => .bad)
  | _, _ => .bad
end
end DL

namespace DL
open PySem PySem.Spec PyProof.Rows L2
variable [Inhabited Tbx]

/-! ### operations on data -/
section
variable {X : Cx}
def lstOf : PyData → Option (List PyData)
  | .list ds => some ds
  | .tuple ds => some ds
  | _ => none
def rvI (i : Int) : RV := .val (.int i)
def rvB (b : Bool) : RV := .val (.bool b)
theorem Post.int {K : PySem.W.Frag} {c : C0} {e : Ev} {σ : L2.St} {H F : Hp} {Q : VK} {i : Int} (r : R K c e σ H F) (h : Post K c e σ (.val (.int i)) Q) : Q (.int i) H := h _ H F r (.int i)
theorem Post.bl {K : PySem.W.Frag} {c : C0} {e : Ev} {σ : L2.St} {H F : Hp} {Q : VK} {i : Bool} (r : R K c e σ H F) (h : Post K c e σ (.val (.bool i)) Q) : Q (.bl i) H := h _ H F r (.bl i)
theorem Post.str {K : PySem.W.Frag} {c : C0} {e : Ev} {σ : L2.St} {H F : Hp} {Q : VK} {i : Str} (r : R K c e σ H F) (h : Post K c e σ (.val (.str i)) Q) : Q (.str i) H := h _ H F r (.str i)
theorem Post.non {K : PySem.W.Frag} {c : C0} {e : Ev} {σ : L2.St} {H F : Hp} {Q : VK} (r : R K c e σ H F) (h : Post K c e σ (.val .none) Q) : Q .non H := h _ H F r .non
theorem Post.tup {K : PySem.W.Frag} {c : C0} {e : Ev} {σ : L2.St} {H F : Hp} {Q : VK} {ds : List PyData} {vs : List V} {p : Addr} (r : R K c e σ H F) (h : Post K c e σ (.val (.tuple ds)) Q) (hp : H p = none) (hd : DpAll K F vs ds) : Q (.ref p) (upd H p (.tup vs)) := by
  obtain ⟨r1, d⟩ := r.newT hp hd
  exact h _ _ _ r1 d
theorem Post.lst {K : PySem.W.Frag} {c : C0} {e : Ev} {σ : L2.St} {H F : Hp} {Q : VK} {ds : List PyData} {vs : List V} {p : Addr} (r : R K c e σ H F) (h : Post K c e σ (.new (.ol false ds)) Q) (hp : H p = none) (hd : DpAll K F vs ds) : Q (.ref p) (upd H p (.lst vs)) := by
  obtain ⟨r1, d⟩ := r.newL hp hd
  exact h _ _ _ r1 d

/-! ints -/
def gI (f : Int → Int → Int) : PyData → PyData → Option RV
  | .int i, .int j => some (.val (.int (f i j)))
  | _, _ => none
def gIc (C : Int → Int → Bool) (f : Int → Int → Int) : PyData → PyData → Option RV
  | .int i, .int j => if C i j = true then some (.val (.int (f i j))) else none
  | _, _ => none
theorem bin_I {K : PySem.W.Frag} {f : Int → Int → Int} : Bin K (rI0 fun i j => .int (f i j)) (gI f) := fun c e σ H F x y dx dy rv Q r hx hy hg h => by
  cases dx <;> try (cases hg; done)
  cases dy <;> try (cases hg; done)
  cases hg
  exact ⟨_, _, dp_int_inv hx, dp_int_inv hy, h.int r⟩
theorem bin_Ic {K : PySem.W.Frag} {P : Int → Int → Prop} {C : Int → Int → Bool} {f : Int → Int → Int} (hc : ∀ i j, C i j = true → P i j) : Bin K (rI P fun i j => .int (f i j)) (gIc C f) := fun c e σ H F x y dx dy rv Q r hx hy hg h => by
  cases dx <;> try (cases hg; done)
  cases dy <;> try (cases hg; done)
  simp only [gIc] at hg
  split at hg
  · rename_i q
    cases hg
    exact ⟨_, _, dp_int_inv hx, dp_int_inv hy, hc _ _ q, h.int r⟩
  · cases hg
def gSub := gI fun i j => i - j
def gXor := gI Builtin.bitXor
def okMul (i j : Int) : Bool := decide (i.natAbs.log2 + j.natAbs.log2 < 1000000)
def okDiv (_ j : Int) : Bool := decide (0 < j ∧ j.natAbs.log2 < 9000)
def okMod (_ j : Int) : Bool := decide (0 < j)
def okPow (i j : Int) : Bool := decide (0 ≤ j ∧ j ≤ 1000000 ∧ i.natAbs < 2 ^ 64)
def okShr (_ j : Int) : Bool := decide (0 ≤ j)
def gFdiv := gIc okDiv fun i j => i / j
def gMod := gIc okMod fun i j => i % j
def gPow := gIc okPow fun i j => i ^ j.toNat
def gShr := gIc okShr fun i j => i / 2 ^ j.toNat
theorem bin_sub {K : PySem.W.Frag} : Bin K (rI0 fun i j => .int (i - j)) gSub := bin_I
theorem bin_xor {K : PySem.W.Frag} : Bin K (rI0 fun i j => .int (Builtin.bitXor i j)) gXor := bin_I
theorem bin_fdiv {K : PySem.W.Frag} : Bin K (rI CDivW fun i j => .int (i / j)) gFdiv := bin_Ic fun i j h => (show 0 < j ∧ j.natAbs.log2 < 9000 from of_decide_eq_true h)
theorem bin_mod {K : PySem.W.Frag} : Bin K (rI (fun _ j => 0 < j) fun i j => .int (i % j)) gMod := bin_Ic fun i j h => (show 0 < j from of_decide_eq_true h)
theorem bin_pow {K : PySem.W.Frag} : Bin K (rI CPow fun i j => .int (i ^ j.toNat)) gPow := bin_Ic fun i j h => (show 0 ≤ j ∧ j ≤ 1000000 ∧ i.natAbs < 2 ^ 64 from of_decide_eq_true h)
theorem bin_shr {K : PySem.W.Frag} : Bin K (rI (fun _ j => 0 ≤ j) fun i j => .int (i / 2 ^ j.toNat)) gShr := bin_Ic fun i j h => (show 0 ≤ j from of_decide_eq_true h)

/-! + -/
def rCatL (K : PySem.W.Frag) : R2 := fun x y H Q => ∃ l b xs zs, x = .ref l ∧ y = .ref b ∧ SqL K H l xs ∧ SqL K H b zs ∧ xs.length + zs.length ≤ sizeLine ∧ ∀ p, H p = none → Q (.ref p) (upd H p (.lst (xs ++ zs)))
theorem op_catL : OpR X (binaryOp .Add) (rCatL X.K) := by
  intro pins s σ H x y v u Q I rx ry h
  obtain ⟨l, b, xs, zs, rfl, rfl, hH, hB, hz, q⟩ := h
  cases rx
  cases ry
  obtain ⟨its, r, p1, z1⟩ := I.list hH
  obtain ⟨its2, r2, p2, z2⟩ := I.list hB
  obtain ⟨⟨cls, dd, data, sl⟩, ho, hc, n, hd⟩ := p1.isList
  obtain ⟨⟨cls2, dd2, data2, sl2⟩, ho2, hc2, n2, hd2⟩ := p2.isList
  simp only at hc hd hc2 hd2
  subst hc hd hc2 hd2
  have e : its.toArray ++ its2.toArray = (its ++ its2).toArray := by simp
  have l1 := r.length
  have l2 := r2.length
  refine concat_meets ⟨_, ho, rfl⟩ ⟨_, ho2, rfl⟩ noFill_list_add seq_list_add PySem.F.slot_list_add PySem.F.entry_list_add (PySem.F.args_list_add_2 _ _) (PyProof.Rows.list_addW l b its.toArray its2.toArray n n2 dd dd2 sl sl2 (by simp only [List.size_toArray]; omega)) ⟨ho, ho2, ?_⟩
  rw [e]
  exact ⟨.ref _, _, I.lnew (t' := s.toks) (r.append r2) (by rw [List.length_append]; omega), rfl, q _ I.fresh⟩
def rAddAll (K : PySem.W.Frag) : R2 := fun x y H Q => rI0 (fun i j => .int (i + j)) x y H Q ∨ rCatL K x y H Q ∨ rCatA K x y H Q ∨ ∃ i j, x = .str i ∧ y = .str j ∧ i.length + j.length ≤ sizeLine ∧ Q (.str (i ++ j)) H
theorem op_addAll : OpR X (binaryOp .Add) (rAddAll X.K) := op_add.or (op_catL.or (op_catA.or op_add_str))
def gAdd : PyData → PyData → Option RV
  | .int i, .int j => some (.val (.int (i + j)))
  | .list xs, .list ys => if xs.length + ys.length ≤ sizeLine then some (.new (.ol false (xs ++ ys))) else none
  | .tuple xs, .tuple ys => if xs.length + ys.length ≤ sizeLine then some (.val (.tuple (xs ++ ys))) else none
  | .str x, .str y => if x.length + y.length ≤ sizeLine then some (.val (.str (x ++ y))) else none
  | _, _ => none
theorem bin_add {K : PySem.W.Frag} : Bin K (rAddAll K) gAdd := fun c e σ H F x y dx dy rv Q r hx hy hg h => by
  cases dx <;> try (cases hg; done)
  · cases dy <;> try (cases hg; done)
    cases hg
    exact .inl ⟨_, _, dp_int_inv hx, dp_int_inv hy, h.int r⟩
  · cases dy <;> try (cases hg; done)
    simp only [gAdd] at hg
    split at hg
    · rename_i q
      cases hg
      have e1 := dp_str_inv hx
      have e2 := dp_str_inv hy
      exact .inr (.inr (.inr ⟨_, _, e1, e2, q, h.str r⟩))
    · cases hg
  · cases dy <;> try (cases hg; done)
    simp only [gAdd] at hg
    split at hg
    · rename_i q
      cases hg
      obtain ⟨a, vs, e1, h1, h2⟩ := hx
      obtain ⟨b, ws, e2, h3, h4⟩ := hy
      exact .inr (.inl ⟨a, b, vs, ws, e1, e2, h1, h3, by rw [dl_len h2, dl_len h4]; exact q, fun p hp => h.lst r hp (dl_append h2 h4)⟩)
    · cases hg
  · cases dy <;> try (cases hg; done)
    simp only [gAdd] at hg
    split at hg
    · rename_i q
      cases hg
      obtain ⟨a, vs, e1, h1, h2⟩ := TopD.tup r.aft.sub hx
      obtain ⟨b, ws, e2, h3, h4⟩ := TopD.tup r.aft.sub hy
      refine .inr (.inr (.inl ⟨a, b, vs, ws, e1, e2, h1, h3, by rw [dl_len h2, dl_len h4]; exact q, fun z => ?_, fun _ z => ?_, fun _ _ p hp => h.tup r hp (dl_append h2 h4)⟩))
      · subst z
        cases h2
        rw [← e2]
        exact h _ H F r hy
      · subst z
        cases h4
        rw [← e1]
        exact h _ H F r (by rw [List.append_nil]; exact hx)
    · cases hg

/-! * -/
def rMulAll (K : PySem.W.Frag) : R2 := fun x y H Q => rI CMulW (fun i j => .int (i * j)) x y H Q ∨ rRepT K x y H Q
theorem op_mulAll : OpR X (binaryOp .Mult) (rMulAll X.K) := op_mulW.or op_repT
def gMul : PyData → PyData → Option RV
  | .int i, .int j => if okMul i j = true then some (.val (.int (i * j))) else none
  | .tuple ds, .int k => if ds.isEmpty = false ∧ 2 ≤ k ∧ k ≤ 1000 ∧ ds.length ≤ 1000 then some (.val (.tuple (List.replicate k.toNat ds).flatten)) else none
  | _, _ => none
theorem dl_rep {K : PySem.W.Frag} {F : Hp} {vs : List V} {ds : List PyData} (h : DpAll K F vs ds) : ∀ k : Nat, DpAll K F (List.replicate k vs).flatten (List.replicate k ds).flatten
  | 0 => .nil
  | k + 1 => by
    rw [List.replicate_succ, List.replicate_succ, List.flatten_cons, List.flatten_cons]
    exact dl_append h (dl_rep h k)
theorem bin_mul {K : PySem.W.Frag} : Bin K (rMulAll K) gMul := fun c e σ H F x y dx dy rv Q r hx hy hg h => by
  cases dx <;> try (cases hg; done)
  · cases dy <;> try (cases hg; done)
    simp only [gMul] at hg
    split at hg
    · rename_i q
      cases hg
      exact .inl ⟨_, _, dp_int_inv hx, dp_int_inv hy, (show _ < 1000000 from of_decide_eq_true q), h.int r⟩
    · cases hg
  · cases dy <;> try (cases hg; done)
    simp only [gMul] at hg
    split at hg
    · rename_i q
      cases hg
      obtain ⟨a, vs, e1, h1, h2⟩ := TopD.tup r.aft.sub hx
      have l := dl_len h2
      refine .inr ⟨a, _, vs, e1, dp_int_inv hy, h1, fun z => ?_, q.2.1, q.2.2.1, by rw [l]; exact q.2.2.2, fun p hp => h.tup r hp (dl_rep h2 _)⟩
      subst z
      cases h2
      exact Bool.noConfusion q.1
    · cases hg

/-! comparisons -/
def intsOf : List PyData → Option (List Int)
  | [] => some []
  | .int i :: ds => (intsOf ds).map (i :: ·)
  | _ :: _ => none
theorem intsOf_eq : ∀ {ds : List PyData} {ns : List Int}, intsOf ds = some ns → ds = ns.map PyData.int
  | [], ns, h => by cases h; rfl
  | .int i :: ds, ns, h => by
    simp only [intsOf, Option.map_eq_some_iff] at h
    obtain ⟨ms, h1, h2⟩ := h
    rw [← h2, intsOf_eq h1]; rfl
  | .none :: ds, ns, h => by cases h
  | .bool _ :: ds, ns, h => by cases h
  | .str _ :: ds, ns, h => by cases h
  | .list _ :: ds, ns, h => by cases h
  | .tuple _ :: ds, ns, h => by cases h
  | .dict _ :: ds, ns, h => by cases h
theorem intsOf_map : ∀ ns : List Int, intsOf (ns.map PyData.int) = some ns
  | [] => rfl
  | n :: ns => by simp only [List.map_cons, intsOf, intsOf_map ns]; rfl
def rStr2 (g : Str → Str → Bool) : R2 := fun x y H Q => ∃ i j, x = .str i ∧ y = .str j ∧ Q (.bl (g i j)) H
def ltS (i j : Str) : Bool := decide (i.cps.toList < j.cps.toList)
def leS (i j : Str) : Bool := !decide (j.cps.toList < i.cps.toList)
def gLt : PyData → PyData → Option RV
  | .int i, .int j => some (.val (.bool (decide (i < j))))
  | .str i, .str j => some (.val (.bool (ltS i j)))
  | .tuple xs, .tuple ys => (match intsOf xs, intsOf ys with
    | some ns, some ms => some (.val (.bool (HT.lexLt ns ms)))
    | _, _ => none)
  | _, _ => none
def gLe : PyData → PyData → Option RV
  | .int i, .int j => some (.val (.bool (decide (i ≤ j))))
  | .str i, .str j => some (.val (.bool (leS i j)))
  | _, _ => none
def gGt : PyData → PyData → Option RV
  | .int i, .int j => some (.val (.bool (decide (j < i))))
  | _, _ => none
def gGe : PyData → PyData → Option RV
  | .int i, .int j => some (.val (.bool (decide (j ≤ i))))
  | _, _ => none
def rLtAll (K : PySem.W.Frag) : R2 := fun x y H Q => rI0 (fun i j => .bl (decide (i < j))) x y H Q ∨ rStr2 ltS x y H Q ∨ rLtT K x y H Q
def rLeAll : R2 := fun x y H Q => rI0 (fun i j => .bl (decide (i ≤ j))) x y H Q ∨ rStr2 leS x y H Q
theorem op_ltAll (hu : X.A.units + 65 < cLine) : OpR X (compareOp .Lt) (rLtAll X.K) := op_lt.or (OpR.or (r := rStr2 ltS) op_lt_str (op_ltT (by omega)))
theorem op_leAll : OpR X (compareOp .LtE) rLeAll := op_le.or (show OpR X (compareOp .LtE) (rStr2 leS) from op_le_str)
theorem bin_lt {K : PySem.W.Frag} : Bin K (rLtAll K) gLt := fun c e σ H F x y dx dy rv Q r hx hy hg h => by
  cases dx <;> try (cases hg; done)
  · cases dy <;> try (cases hg; done)
    cases hg
    exact .inl ⟨_, _, dp_int_inv hx, dp_int_inv hy, h.bl r⟩
  · cases dy <;> try (cases hg; done)
    cases hg
    exact .inr (.inl ⟨_, _, dp_str_inv hx, dp_str_inv hy, h.bl r⟩)
  · cases dy <;> try (cases hg; done)
    simp only [gLt] at hg
    split at hg
    · rename_i q1 q2
      cases hg
      obtain ⟨a, vs, e1, h1, h2⟩ := TopD.tup r.aft.sub hx
      obtain ⟨b, ws, e2, h3, h4⟩ := TopD.tup r.aft.sub hy
      rw [intsOf_eq q1] at h2
      rw [intsOf_eq q2] at h4
      rw [dl_ints h2] at h1
      rw [dl_ints h4] at h3
      exact .inr (.inr ⟨a, b, _, _, e1, e2, h1, h3, h.bl r⟩)
    · cases hg
theorem bin_le {K : PySem.W.Frag} : Bin K rLeAll gLe := fun c e σ H F x y dx dy rv Q r hx hy hg h => by
  cases dx <;> try (cases hg; done)
  · cases dy <;> try (cases hg; done)
    cases hg
    exact .inl ⟨_, _, dp_int_inv hx, dp_int_inv hy, h.bl r⟩
  · cases dy <;> try (cases hg; done)
    cases hg
    exact .inr ⟨_, _, dp_str_inv hx, dp_str_inv hy, h.bl r⟩
theorem bin_gt {K : PySem.W.Frag} : Bin K (rI0 fun i j => .bl (decide (j < i))) gGt := fun c e σ H F x y dx dy rv Q r hx hy hg h => by
  cases dx <;> try (cases hg; done)
  cases dy <;> try (cases hg; done)
  cases hg
  exact ⟨_, _, dp_int_inv hx, dp_int_inv hy, h.bl r⟩
theorem bin_ge {K : PySem.W.Frag} : Bin K (rI0 fun i j => .bl (decide (j ≤ i))) gGe := fun c e σ H F x y dx dy rv Q r hx hy hg h => by
  cases dx <;> try (cases hg; done)
  cases dy <;> try (cases hg; done)
  cases hg
  exact ⟨_, _, dp_int_inv hx, dp_int_inv hy, h.bl r⟩
def gEq (x y : PyData) : Option RV := if SeqAt.shaped x = true ∧ SeqAt.shaped y = true then some (.val (.bool (PyData.eqv x y))) else none
def gNe (x y : PyData) : Option RV := if SeqAt.shaped x = true ∧ SeqAt.shaped y = true then some (.val (.bool (!PyData.eqv x y))) else none
theorem bin_eq {K : PySem.W.Frag} : Bin K (rEqD K) gEq := fun c e σ H F x y dx dy rv Q r hx hy hg h => by
  unfold gEq at hg
  split at hg
  · rename_i q
    cases hg
    exact ⟨dx, dy, hx.dp r.aft.sub, hy.dp r.aft.sub, q.1, q.2, h.bl r⟩
  · cases hg
theorem bin_ne {K : PySem.W.Frag} : Bin K (rNeD K) gNe := fun c e σ H F x y dx dy rv Q r hx hy hg h => by
  unfold gNe at hg
  split at hg
  · rename_i q
    cases hg
    exact ⟨dx, dy, hx.dp r.aft.sub, hy.dp r.aft.sub, q.1, q.2, h.bl r⟩
  · cases hg
theorem op_eqU (hu : X.A.units + 65 < cLine) : OpR X (compareOp .Eq) (rEqD X.K) := op_eqD (by omega)
theorem op_neU (hu : X.A.units + 65 < cLine) : OpR X (compareOp .NotEq) (rNeD X.K) := op_neD (by omega)
/-! in -/
def rInT (K : PySem.W.Frag) : R2 := fun x y H Q => ∃ d ds, Dp K H x d ∧ Dp K H y (.tuple ds) ∧ SeqAt.shaped d = true ∧ SeqAt.shaped (.tuple ds) = true ∧ Q (.bl (ds.any fun z => PyData.eqv z d)) H
def rNotInT (K : PySem.W.Frag) : R2 := fun x y H Q => ∃ d ds, Dp K H x d ∧ Dp K H y (.tuple ds) ∧ SeqAt.shaped d = true ∧ SeqAt.shaped (.tuple ds) = true ∧ Q (.bl (!ds.any fun z => PyData.eqv z d)) H
theorem room_inT {A : Around} {d : PyData} {ds : List PyData} (h : SeqAt.shaped d = true) (hu : A.units + 65 < cLine) : A.units + 1 + min (PyData.depthAll ds) d.depth < cLine := by
  have h1 := SeqAt.depth_of_shaped h
  have h2 : min (PyData.depthAll ds) d.depth ≤ d.depth := Nat.min_le_right _ _
  omega
theorem op_inT (hu : X.A.units + 65 < cLine) : OpR X (compareOp .In) (rInT X.K) := by
  intro pins s σ H x y v u Q I rx ry h
  obtain ⟨d, ds, hd, he, sd, se, q⟩ := h
  obtain ⟨as, r1⟩ := Dp.reads I d x v hd rx
  obtain ⟨bs, r2⟩ := Dp.reads I (.tuple ds) y u he ry
  exact SeqAt.in_tuple_reads r2 r1 (SeqAt.canLay_of_shaped se) (SeqAt.canLay_of_shaped sd) (room_inT sd hu) ⟨.bl _, H, I, rfl, q⟩
theorem op_notInT (hu : X.A.units + 65 < cLine) : OpR X (compareOp .NotIn) (rNotInT X.K) := by
  intro pins s σ H x y v u Q I rx ry h
  obtain ⟨d, ds, hd, he, sd, se, q⟩ := h
  obtain ⟨as, r1⟩ := Dp.reads I d x v hd rx
  obtain ⟨bs, r2⟩ := Dp.reads I (.tuple ds) y u he ry
  exact SeqAt.notIn_tuple_reads r2 r1 (SeqAt.canLay_of_shaped se) (SeqAt.canLay_of_shaped sd) (room_inT sd hu) ⟨.bl _, H, I, rfl, q⟩
def inStr (i j : Str) : Bool := !(Builtin.Str.occurrences j i 0 j.length 1).isEmpty
def rInAll (K : PySem.W.Frag) : R2 := fun x y H Q => rInD K x y H Q ∨ rInT K x y H Q ∨ rStr2 inStr x y H Q
def rNotInAll (K : PySem.W.Frag) : R2 := fun x y H Q => rNotInD K x y H Q ∨ rNotInT K x y H Q ∨ rStr2 (fun i j => !inStr i j) x y H Q
theorem op_inAll (hu : X.A.units + 65 < cLine) : OpR X (compareOp .In) (rInAll X.K) := (op_inD hu).or ((op_inT hu).or (show OpR X (compareOp .In) (rStr2 inStr) from op_in_str))
theorem op_notInAll (hu : X.A.units + 65 < cLine) : OpR X (compareOp .NotIn) (rNotInAll X.K) := (op_notInD hu).or ((op_notInT hu).or (show OpR X (compareOp .NotIn) (rStr2 fun i j => !inStr i j) from op_notIn_str))
def isIn (x : PyData) : PyData → Option Bool
  | .list ds => if SeqAt.shaped x = true ∧ SeqAt.shaped (.list ds) = true then some (ds.any fun z => PyData.eqv z x) else none
  | .tuple ds => if SeqAt.shaped x = true ∧ SeqAt.shaped (.tuple ds) = true then some (ds.any fun z => PyData.eqv z x) else none
  | .str j => (match x with
    | .str i => some (inStr i j)
    | _ => none)
  | _ => none
def gIn (x y : PyData) : Option RV := (isIn x y).map fun b => .val (.bool b)
def gNotIn (x y : PyData) : Option RV := (isIn x y).map fun b => .val (.bool (!b))
theorem bin_in {K : PySem.W.Frag} : Bin K (rInAll K) gIn := fun c e σ H F x y dx dy rv Q r hx hy hg h => by
  simp only [gIn, Option.map_eq_some_iff] at hg
  obtain ⟨b, hb, rfl⟩ := hg
  cases dy <;> try (cases hb; done)
  · cases dx <;> try (cases hb; done)
    cases hb
    exact .inr (.inr ⟨_, _, dp_str_inv hx, dp_str_inv hy, h.bl r⟩)
  · simp only [isIn] at hb
    split at hb
    · rename_i q
      cases hb
      exact .inl ⟨dx, _, hx.dp r.aft.sub, hy.dp r.aft.sub, q.1, q.2, h.bl r⟩
    · cases hb
  · simp only [isIn] at hb
    split at hb
    · rename_i q
      cases hb
      exact .inr (.inl ⟨dx, _, hx.dp r.aft.sub, hy.dp r.aft.sub, q.1, q.2, h.bl r⟩)
    · cases hb
theorem bin_notIn {K : PySem.W.Frag} : Bin K (rNotInAll K) gNotIn := fun c e σ H F x y dx dy rv Q r hx hy hg h => by
  simp only [gNotIn, Option.map_eq_some_iff] at hg
  obtain ⟨b, hb, rfl⟩ := hg
  cases dy <;> try (cases hb; done)
  · cases dx <;> try (cases hb; done)
    cases hb
    exact .inr (.inr ⟨_, _, dp_str_inv hx, dp_str_inv hy, h.bl r⟩)
  · simp only [isIn] at hb
    split at hb
    · rename_i q
      cases hb
      exact .inl ⟨dx, _, hx.dp r.aft.sub, hy.dp r.aft.sub, q.1, q.2, h.bl r⟩
    · cases hb
  · simp only [isIn] at hb
    split at hb
    · rename_i q
      cases hb
      exact .inr (.inl ⟨dx, _, hx.dp r.aft.sub, hy.dp r.aft.sub, q.1, q.2, h.bl r⟩)
    · cases hb
/-! is -/
def isNone : PyData → Bool
  | .none => true
  | _ => false
def isOp : PyData → PyData → Option Bool
  | x, .none => some (isNone x)
  | .bool a, .bool b => some (decide (a = b))
  | _, _ => none
def gIs (x y : PyData) : Option RV := (isOp x y).map fun b => .val (.bool b)
def gIsNot (x y : PyData) : Option RV := (isOp x y).map fun b => .val (.bool (!b))
theorem non_top {K : PySem.W.Frag} {H F : Hp} {x : V} {d : PyData} (h : TopD K H F x d) : decide (x = V.non) = isNone d := by
  cases d with
  | none => rw [dp_non_inv h]; rfl
  | bool b => rw [dp_bl_inv h]; rfl
  | int b => rw [dp_int_inv h]; rfl
  | str b => rw [dp_str_inv h]; rfl
  | list ds => obtain ⟨a, vs, rfl, _⟩ := h; rfl
  | tuple ds => obtain ⟨a, vs, rfl, _⟩ := dp_tup_inv h; rfl
  | dict b => cases h
def rIsAll : R2 := fun x y H Q => (y = .non ∧ Q (.bl (decide (x = .non))) H) ∨ rIsB x y H Q
def rIsNotAll : R2 := fun x y H Q => (y = .non ∧ Q (.bl (!decide (x = .non))) H) ∨ rNotB x y H Q
theorem op_isAll : OpR X (compareOp .Is) rIsAll := op_isN.or op_isBl
theorem op_isNotAll : OpR X (compareOp .IsNot) rIsNotAll := op_notN.or op_notBl
theorem bin_is {K : PySem.W.Frag} : Bin K rIsAll gIs := fun c e σ H F x y dx dy rv Q r hx hy hg h => by
  simp only [gIs, Option.map_eq_some_iff] at hg
  obtain ⟨b, hb, rfl⟩ := hg
  cases dy <;> try (cases dx <;> cases hb; done)
  · cases dx <;> cases hb <;> exact .inl ⟨dp_non_inv hy, by rw [non_top hx]; exact h.bl r⟩
  · cases dx <;> try (cases hb; done)
    cases hb
    exact .inr ⟨_, _, dp_bl_inv hx, dp_bl_inv hy, h.bl r⟩
theorem bin_isNot {K : PySem.W.Frag} : Bin K rIsNotAll gIsNot := fun c e σ H F x y dx dy rv Q r hx hy hg h => by
  simp only [gIsNot, Option.map_eq_some_iff] at hg
  obtain ⟨b, hb, rfl⟩ := hg
  cases dy <;> try (cases dx <;> cases hb; done)
  · cases dx <;> cases hb <;> exact .inl ⟨dp_non_inv hy, by rw [non_top hx]; exact h.bl r⟩
  · cases dx <;> try (cases hb; done)
    cases hb
    exact .inr ⟨_, _, dp_bl_inv hx, dp_bl_inv hy, h.bl r⟩
/-! x[i] -/
def gIx : PyData → PyData → Option RV
  | .list ds, .int i => (atI ds i).map RV.val
  | .tuple ds, .int i => (atI ds i).map RV.val
  | .str z, .int i => if z.length ≤ sizeLine then (atI z.cps.toList i).map fun c => .val (.str ⟨#[c]⟩) else none
  | _, _ => none
theorem atI_dl {K : PySem.W.Frag} {F : Hp} {vs : List V} {ds : List PyData} {i : Int} {d : PyData} (h : DpAll K F vs ds) (e : atI ds i = some d) : ∃ v, atI vs i = some v ∧ Dp K F v d := by
  unfold atI at e ⊢
  rw [← dl_len h] at e
  cases q : ixN vs.length i with
  | none => rw [q] at e; cases e
  | some j =>
    rw [q] at e
    exact dl_get h e
theorem bin_ix {K : PySem.W.Frag} : Bin K (rIx K) gIx := fun c e σ H F x y dx dy rv Q r hx hy hg h => by
  cases dx <;> try (cases hg; done)
  · cases dy <;> try (cases hg; done)
    simp only [gIx] at hg
    split at hg
    · rename_i q
      simp only [Option.map_eq_some_iff] at hg
      obtain ⟨k, hk, rfl⟩ := hg
      exact .inr (.inr ⟨_, _, k, dp_str_inv hx, dp_int_inv hy, q, hk, h.str r⟩)
    · cases hg
  · cases dy <;> try (cases hg; done)
    simp only [gIx, Option.map_eq_some_iff] at hg
    obtain ⟨k, hk, rfl⟩ := hg
    obtain ⟨a, vs, e1, h1, h2⟩ := hx
    obtain ⟨v, h3, h4⟩ := atI_dl h2 hk
    exact .inl ⟨a, vs, _, v, e1, dp_int_inv hy, h1, h3, h v H F r h4⟩
  · cases dy <;> try (cases hg; done)
    simp only [gIx, Option.map_eq_some_iff] at hg
    obtain ⟨k, hk, rfl⟩ := hg
    obtain ⟨a, vs, e1, h1, h2⟩ := TopD.tup r.aft.sub hx
    obtain ⟨v, h3, h4⟩ := atI_dl h2 hk
    exact .inr (.inl ⟨a, vs, _, v, e1, dp_int_inv hy, h1, h3, h v H F r h4⟩)
/-! -x -/
def gNeg : PyData → Option RV
  | .int i => some (.val (.int (-i)))
  | _ => none
theorem una_neg {K : PySem.W.Frag} : Una K (rU fun i => .int (-i)) gNeg := fun c e σ H F x dx rv Q r hx hg h => by
  cases dx <;> try (cases hg; done)
  cases hg
  exact ⟨_, dp_int_inv hx, h.int r⟩
end
end DL

namespace DL
open PySem PySem.Spec PyProof.Rows L2
variable [Inhabited Tbx]

section
variable {X : Cx} {xn : XN} {Wx : WX} {pos : Pos}

/-! ### argument lists -/
def okOwn (e : Ev) : RV → Bool
  | .val _ => true
  | .own i => (match e[i]? with
    | some (some w) => w.isOwn
    | _ => false)
  | .new _ => false
abbrev FA := Ev → Out (List RV)
def fNil : FA := fun e => .ok [] e
def fCons (fa : FE) (fr : FA) : FA := fun e => ob (fa e) fun r e1 => ob (fr e1) fun rs e2 => if okOwn e2 r = true then .ok (r :: rs) e2 else .bad
theorem rv_move {K : PySem.W.Frag} {c c' : C0} {e e1 : Ev} {σ : L2.St} {H H1 F F1 : Hp} {r : RV} {v : V} (s : Same F F1) (o : okOwn e1 r = true) (h : RvAt K c e σ H F r v) : RvAt K c' e1 σ H1 F1 r v := by
  cases r with
  | val d => exact dp_mono s _ _ h
  | new w => cases o
  | own i =>
    obtain ⟨h1, _⟩ := h
    refine ⟨h1, ?_⟩
    simp only [okOwn] at o
    split at o
    · rename_i w q
      exact ⟨w, q, o⟩
    · cases o
theorem rvs_reb {K : PySem.W.Frag} {c : C0} {e : Ev} {σ : L2.St} {H F G : Hp} : ∀ {rs : List RV} {vs : List V}, RvsAt K (c.reb G) e σ H F rs vs → RvsAt K c e σ H F rs vs
  | [], vs, h => h
  | r :: rs, vs, ⟨v, ws, e1, h1, h2⟩ => ⟨v, ws, e1, rv_reb.mp h1, rvs_reb h2⟩
theorem da_nil : DA X xn Wx [] fNil := PA_imp pa_nil fun σ H Q ⟨c, e, F, r, h⟩ => h [] H F r rfl
theorem da_cons {a : Expr} {es : List Expr} {fa : FE} {fr : FA} (ha : DE X xn Wx a fa) (hr : DA X xn Wx es fr) (hs : starEach (a :: es) X.env = (false, eval a X.env) :: starEach es X.env := by rfl) : DA X xn Wx (a :: es) (fCons fa fr) :=
  PA_imp (pa_cons ha hr hs) fun σ H Q ⟨c, e, F, r, h⟩ => by
    refine ⟨c, e, F, r, ?_⟩
    unfold fCons at h
    cases qa : fa e with
    | bad => simp only [qa, ob] at h
    | exc x e1 => simp only [qa, ob] at h; exact h
    | ok ra e1 =>
      simp only [qa, ob] at h
      intro v H1 F1 r1 rv1
      refine ⟨c.reb F1, e1, F1, r1.reb, ?_⟩
      cases qb : fr e1 with
      | bad => simp only [qb] at h
      | exc x e2 =>
        simp only [qb] at h
        exact fun C d H2 F2 hx r2 => h C d H2 F2 hx (r1.unreb r2).1
      | ok rs e2 =>
        simp only [qb] at h
        intro vs H2 F2 r2 rv2
        obtain ⟨r3, s⟩ := r1.unreb r2
        cases qo : okOwn e2 ra with
        | false => rw [if_neg (by rw [qo]; exact Bool.false_ne_true)] at h; exact h.elim
        | true =>
          rw [if_pos qo] at h
          exact h (v :: vs) H2 F2 r3 ⟨v, vs, rfl, rv_move s qo rv1, rvs_reb rv2⟩
/-- an own list or dict handed on as itself -/
def ow (f : FE) : FE := fun e => ob (f e) fun r e1 => match r with
  | .own i => .ok (.own i) e1
  | _ => .bad
theorem de_o {ex : Expr} {f : FE} (h : DE X xn Wx ex f) : DE X xn Wx ex (ow f) := PE_imp h fun σ H Q q => tE_then q fun c e r v H' F' r1 rv1 z => by
  cases r with
  | own i => exact z v H' F' r1 rv1
  | _ => exact z.elim
/-! ### displays -/
def valsOf : List RV → Option (List PyData)
  | [] => some []
  | .val d :: rs => (valsOf rs).map (d :: ·)
  | _ :: _ => none
theorem valsOf_at {K : PySem.W.Frag} {c : C0} {e : Ev} {σ : L2.St} {H F : Hp} : ∀ {rs : List RV} {ds : List PyData} {vs : List V}, RvsAt K c e σ H F rs vs → valsOf rs = some ds → DpAll K F vs ds
  | [], ds, vs, h, q => by cases q; cases h; exact .nil
  | .val d :: rs, ds, vs, ⟨v, ws, e1, h1, h2⟩, q => by
    simp only [valsOf, Option.map_eq_some_iff] at q
    obtain ⟨es, q1, q2⟩ := q
    rw [← q2, e1]
    exact .cons h1 (valsOf_at h2 q1)
  | .own i :: rs, ds, vs, h, q => by cases q
  | .new w :: rs, ds, vs, h, q => by cases q
def fTup (fa : FA) : FE := fun e => ob (fa e) fun rs e1 => match valsOf rs with
  | some ds => if ds.length ≤ sizeLine then .ok (.val (.tuple ds)) e1 else .bad
  | none => .bad
def fLst (fa : FA) : FE := fun e => ob (fa e) fun rs e1 => match valsOf rs with
  | some ds => if ds.length ≤ sizeLine then .ok (.new (.ol false ds)) e1 else .bad
  | none => .bad
theorem ta_of {K : PySem.W.Frag} {fa : FA} {g : List RV → Ev → Out RV} {σ : L2.St} {H : Hp} {Q : VK} {Rk : List V → Hp → Prop} (h : tE K xn Wx (fun e => ob (fa e) g) σ H Q)
    (k : ∀ (c : C0) (e : Ev) (rs : List RV) (vs : List V) (H F : Hp), R K c e σ H F → RvsAt K c e σ H F rs vs → (match g rs e with
      | .ok r e' => Post K c e' σ r Q
      | .exc x e' => PostX K c e' σ xn Wx x
      | .bad => False) → Rk vs H) : tA K xn Wx fa σ H Rk := by
  obtain ⟨c, e, F, r, h⟩ := h
  refine ⟨c, e, F, r, ?_⟩
  cases qa : fa e with
  | bad => simp only [qa, ob] at h
  | exc x e1 => simp only [qa, ob] at h; exact h
  | ok b e1 =>
    simp only [qa, ob] at h
    exact fun v H' F' r' rv => k c e1 b v H' F' r' rv h
theorem de_tup {es : List Expr} {fa : FA} {x1 : Nat} (h : DA X xn Wx es fa) : DE X xn Wx (.Tuple es x1 pos) (fTup fa) :=
  PE_imp (pe_tup h) fun σ H Q q => ta_of q fun c e rs vs H F r rv h => by
    cases qv : valsOf rs with
    | none => simp only [qv] at h
    | some ds =>
      simp only [qv] at h
      have hd := valsOf_at rv qv
      by_cases ql : ds.length ≤ sizeLine
      · rw [if_pos ql] at h
        exact ⟨by rw [dl_len hd]; exact ql, fun p hp => h.tup r hp hd⟩
      · rw [if_neg ql] at h; exact h.elim
theorem de_lst {es : List Expr} {fa : FA} (h : DA X xn Wx es fa) : DE X xn Wx (.List es pos) (fLst fa) :=
  PE_imp (pe_lst h) fun σ H Q q => ta_of q fun c e rs vs H F r rv h => by
    cases qv : valsOf rs with
    | none => simp only [qv] at h
    | some ds =>
      simp only [qv] at h
      have hd := valsOf_at rv qv
      by_cases ql : ds.length ≤ sizeLine
      · rw [if_pos ql] at h
        exact ⟨by rw [dl_len hd]; exact ql, fun p hp => h.lst r hp hd⟩
      · rw [if_neg ql] at h; exact h.elim

/-! ### built-in calls -/
theorem de_b1 {id : String} {x : Str} {p : Pos} {a : Expr} {fa : FE} {r : List V → Hp → VK → Prop} {g : PyData → Option RV} (hc : CallR X (.builtin id) r) (hg : Una X.K (fun x H Q => r [x] H Q) g) (hn : Gl X x) (hm : X.mg x = none) (hv : bootBuiltins x = some (.builtin id))
    (ha : DE X xn Wx a fa) (hnn : x ≠ "__name__" := by decide) (hdb : (x == ("__debug__" : Str)) = false := by decide) (he : starEach [a] X.env = (false, eval a X.env) :: starEach [] X.env := by rfl) : DE X xn Wx (.Call (.Name x p) [a] [] pos) (f1 g fa) :=
  PE_imp (pe_callB hc hn hm hv (pa_cons (de_b ha) pa_nil he) hnn hdb he) fun σ H Q q => t1_of q fun c e H F x dx rv r hx qg h => hg c e σ H F x dx rv Q r hx qg h
theorem de_t1 {T : String} {x : Str} {p : Pos} {a : Expr} {fa : FE} {r : List V → Hp → VK → Prop} {g : PyData → Option RV} (hc : CallR X (.type T) r) (hg : Una X.K (fun x H Q => r [x] H Q) g) (hn : Gl X x) (hm : X.mg x = none) (hv : bootBuiltins x = some (.type T))
    (ha : DE X xn Wx a fa) (hnn : x ≠ "__name__" := by decide) (hdb : (x == ("__debug__" : Str)) = false := by decide) (he : starEach [a] X.env = (false, eval a X.env) :: starEach [] X.env := by rfl) : DE X xn Wx (.Call (.Name x p) [a] [] pos) (f1 g fa) :=
  PE_imp (pe_callTy hc hn hm hv (pa_cons (de_b ha) pa_nil he) hnn hdb he) fun σ H Q q => t1_of q fun c e H F x dx rv r hx qg h => hg c e σ H F x dx rv Q r hx qg h
theorem de_b2 {id : String} {x : Str} {p : Pos} {a b : Expr} {fa fb : FE} {r : List V → Hp → VK → Prop} {g : PyData → PyData → Option RV} (hc : CallR X (.builtin id) r) (hg : Bin X.K (fun x y H Q => r [x, y] H Q) g) (hn : Gl X x) (hm : X.mg x = none) (hv : bootBuiltins x = some (.builtin id))
    (ha : DE X xn Wx a fa) (hb : DE X xn Wx b fb) (hnn : x ≠ "__name__" := by decide) (hdb : (x == ("__debug__" : Str)) = false := by decide) (he : starEach [a, b] X.env = (false, eval a X.env) :: starEach [b] X.env := by rfl) (he2 : starEach [b] X.env = (false, eval b X.env) :: starEach [] X.env := by rfl)
    (hpl : (backTo pos (starEach [b] X.env)).any (·.1) = false := by rfl) : DE X xn Wx (.Call (.Name x p) [a, b] [] pos) (f2 g fa fb) :=
  PE_imp (pe_callB hc hn hm hv (pa_cons (de_b ha) (pa_cons (de_b hb) pa_nil he2) he) hnn hdb he hpl) fun σ H Q q => t2_of q fun c e H F x y dx dy rv r hx hy qg h => hg c e σ H F x y dx dy rv Q r hx hy qg h
/-! len, int, abs, list, tuple -/
def gLen : PyData → Option RV
  | .list ds => some (.val (.int ds.length))
  | .tuple ds => some (.val (.int ds.length))
  | .str z => if z.length ≤ sizeLine then some (.val (.int z.length)) else none
  | _ => none
theorem una_len {K : PySem.W.Frag} : Una K (fun x H Q => ∃ x1 n, [x] = [x1] ∧ LenV K x1 H n ∧ Q (.int n) H) gLen := fun c e σ H F x dx rv Q r hx hg h => by
  cases dx <;> try (cases hg; done)
  · simp only [gLen] at hg
    split at hg
    · rename_i q
      cases hg
      rw [dp_str_inv hx]
      exact ⟨_, _, rfl, ⟨q, rfl⟩, h.int r⟩
    · cases hg
  · cases hg
    obtain ⟨a, vs, rfl, h1, h2⟩ := hx
    exact ⟨_, _, rfl, .inl ⟨vs, h1, (dl_len h2).symm⟩, h.int r⟩
  · cases hg
    obtain ⟨a, vs, rfl, h1, h2⟩ := TopD.tup r.aft.sub hx
    exact ⟨_, _, rfl, .inr ⟨vs, h1, (dl_len h2).symm⟩, h.int r⟩
def gInt : PyData → Option RV
  | .int i => some (.val (.int i))
  | .bool b => some (.val (.int (if b then 1 else 0)))
  | _ => none
theorem una_int {K : PySem.W.Frag} : Una K (fun x H Q => (∃ i, [x] = [V.int i] ∧ Q (.int i) H) ∨ ∃ k, [x] = [V.bl k] ∧ Q (.int (if k then 1 else 0)) H) gInt := fun c e σ H F x dx rv Q r hx hg h => by
  cases dx <;> try (cases hg; done)
  · cases hg
    rw [dp_bl_inv hx]
    exact .inr ⟨_, rfl, h.int r⟩
  · cases hg
    rw [dp_int_inv hx]
    exact .inl ⟨_, rfl, h.int r⟩
def gAbs : PyData → Option RV
  | .int i => some (.val (.int (if i < 0 then -i else i)))
  | _ => none
theorem una_abs {K : PySem.W.Frag} : Una K (fun x H Q => ∃ i, [x] = [V.int i] ∧ Q (.int (if i < 0 then -i else i)) H) gAbs := fun c e σ H F x dx rv Q r hx hg h => by
  cases dx <;> try (cases hg; done)
  cases hg
  rw [dp_int_inv hx]
  exact ⟨_, rfl, h.int r⟩
def gList (d : PyData) : Option RV := (lstOf d).map fun ds => .new (.ol false ds)
theorem una_list {K : PySem.W.Frag} : Una K (fun x H Q => ∃ p ys, [x] = [V.ref p] ∧ (SqL K H p ys ∨ SqT K H p ys) ∧ ∀ l, H l = none → Q (.ref l) (upd H l (.lst ys))) gList := fun c e σ H F x dx rv Q r hx hg h => by
  cases dx <;> try (cases hg; done)
  · cases hg
    obtain ⟨a, vs, rfl, h1, h2⟩ := hx
    exact ⟨a, vs, rfl, .inl h1, fun l hl => h.lst r hl h2⟩
  · cases hg
    obtain ⟨a, vs, rfl, h1, h2⟩ := TopD.tup r.aft.sub hx
    exact ⟨a, vs, rfl, .inr h1, fun l hl => h.lst r hl h2⟩
def gTuple (d : PyData) : Option RV := (lstOf d).map fun ds => .val (.tuple ds)
theorem una_tuple {K : PySem.W.Frag} : Una K (fun x H Q => ∃ p ys, [x] = [V.ref p] ∧ ((SqL K H p ys ∧ ∀ l, H l = none → Q (.ref l) (upd H l (.tup ys))) ∨ (SqT K H p ys ∧ Q (.ref p) H))) gTuple := fun c e σ H F x dx rv Q r hx hg h => by
  cases dx <;> try (cases hg; done)
  · cases hg
    obtain ⟨a, vs, rfl, h1, h2⟩ := hx
    exact ⟨a, vs, rfl, .inl ⟨h1, fun l hl => h.tup r hl h2⟩⟩
  · cases hg
    have hx' := hx
    obtain ⟨a, vs, rfl, h1, h2⟩ := TopD.tup r.aft.sub hx
    exact ⟨a, vs, rfl, .inr ⟨h1, h _ H F r hx'⟩⟩
/-! sum, min, max -/
def gSum : PyData → Option RV
  | .list ds => (intsOf ds).map fun ns => .val (.int ns.sum)
  | _ => none
theorem list_ints {K : PySem.W.Frag} {H F : Hp} {x : V} {ds : List PyData} {ns : List Int} (h : TopD K H F x (.list ds)) (q : intsOf ds = some ns) : ∃ a, x = .ref a ∧ SqL K H a (ns.map V.int) := by
  obtain ⟨a, vs, rfl, h1, h2⟩ := h
  rw [intsOf_eq q] at h2
  rw [dl_ints h2] at h1
  exact ⟨a, rfl, h1⟩
theorem una_sum {K : PySem.W.Frag} : Una K (fun x H Q => rSum K [x] H Q) gSum := fun c e σ H F x dx rv Q r hx hg h => by
  cases dx <;> try (cases hg; done)
  simp only [gSum, Option.map_eq_some_iff] at hg
  obtain ⟨ns, q, rfl⟩ := hg
  obtain ⟨a, rfl, h1⟩ := list_ints hx q
  exact ⟨a, ns, rfl, h1, h.int r⟩
def minL : List Int → Int
  | [] => 0
  | n :: ns => ns.foldl min n
def maxL : List Int → Int
  | [] => 0
  | n :: ns => ns.foldl max n
theorem foldl_min_le : ∀ (ns : List Int) (n : Int), ns.foldl min n ≤ n ∧ (∀ m ∈ ns, ns.foldl min n ≤ m) ∧ (ns.foldl min n = n ∨ ns.foldl min n ∈ ns)
  | [], n => ⟨Int.le_refl _, (fun m h => by cases h), .inl rfl⟩
  | a :: ns, n => by
    obtain ⟨h1, h2, h3⟩ := foldl_min_le ns (min n a)
    refine ⟨?_, fun m hm => ?_, ?_⟩
    · show ns.foldl min (min n a) ≤ n
      omega
    · rcases List.mem_cons.mp hm with rfl | hm
      · show ns.foldl min (min n m) ≤ m
        omega
      · exact h2 m hm
    · show ns.foldl min (min n a) = n ∨ ns.foldl min (min n a) ∈ a :: ns
      rcases h3 with h3 | h3
      · by_cases q : n ≤ a
        · left; omega
        · right; rw [h3, show min n a = a by omega]; exact List.mem_cons_self
      · right; exact List.mem_cons_of_mem _ h3
theorem foldl_max_le : ∀ (ns : List Int) (n : Int), n ≤ ns.foldl max n ∧ (∀ m ∈ ns, m ≤ ns.foldl max n) ∧ (ns.foldl max n = n ∨ ns.foldl max n ∈ ns)
  | [], n => ⟨Int.le_refl _, (fun m h => by cases h), .inl rfl⟩
  | a :: ns, n => by
    obtain ⟨h1, h2, h3⟩ := foldl_max_le ns (max n a)
    refine ⟨?_, fun m hm => ?_, ?_⟩
    · show n ≤ ns.foldl max (max n a)
      omega
    · rcases List.mem_cons.mp hm with rfl | hm
      · show m ≤ ns.foldl max (max n m)
        omega
      · exact h2 m hm
    · show ns.foldl max (max n a) = n ∨ ns.foldl max (max n a) ∈ a :: ns
      rcases h3 with h3 | h3
      · by_cases q : a ≤ n
        · left; omega
        · right; rw [h3, show max n a = a by omega]; exact List.mem_cons_self
      · right; exact List.mem_cons_of_mem _ h3
theorem minL_spec {ns : List Int} (h : 0 < ns.length) : minL ns ∈ ns ∧ ∀ m ∈ ns, minL ns ≤ m := by
  cases ns with
  | nil => cases h
  | cons n ns =>
    obtain ⟨h1, h2, h3⟩ := foldl_min_le ns n
    refine ⟨?_, fun m hm => ?_⟩
    · rcases h3 with h3 | h3
      · show ns.foldl min n ∈ _
        rw [h3]; exact List.mem_cons_self
      · exact List.mem_cons_of_mem _ h3
    · rcases List.mem_cons.mp hm with rfl | hm
      · exact h1
      · exact h2 m hm
theorem maxL_spec {ns : List Int} (h : 0 < ns.length) : maxL ns ∈ ns ∧ ∀ m ∈ ns, m ≤ maxL ns := by
  cases ns with
  | nil => cases h
  | cons n ns =>
    obtain ⟨h1, h2, h3⟩ := foldl_max_le ns n
    refine ⟨?_, fun m hm => ?_⟩
    · rcases h3 with h3 | h3
      · show ns.foldl max n ∈ _
        rw [h3]; exact List.mem_cons_self
      · exact List.mem_cons_of_mem _ h3
    · rcases List.mem_cons.mp hm with rfl | hm
      · exact h1
      · exact h2 m hm
def gMin1 : PyData → Option RV
  | .list ds => (match intsOf ds with
    | some ns => if 0 < ns.length then some (.val (.int (minL ns))) else none
    | none => none)
  | _ => none
def gMax1 : PyData → Option RV
  | .list ds => (match intsOf ds with
    | some ns => if 0 < ns.length then some (.val (.int (maxL ns))) else none
    | none => none)
  | _ => none
theorem una_min {K : PySem.W.Frag} : Una K (fun x H Q => rMin K [x] H Q) gMin1 := fun c e σ H F x dx rv Q r hx hg h => by
  cases dx <;> try (cases hg; done)
  simp only [gMin1] at hg
  split at hg
  · rename_i ns q
    split at hg
    · rename_i hl
      cases hg
      obtain ⟨a, rfl, h1⟩ := list_ints hx q
      obtain ⟨k1, k2⟩ := minL_spec hl
      exact ⟨a, ns, rfl, h1, hl, fun m hm hall => by
        have e1 : m = minL ns := Int.le_antisymm (hall _ k1) (k2 m hm)
        rw [e1]
        exact h.int r⟩
    · cases hg
  · cases hg
theorem una_max {K : PySem.W.Frag} : Una K (fun x H Q => rMax K [x] H Q) gMax1 := fun c e σ H F x dx rv Q r hx hg h => by
  cases dx <;> try (cases hg; done)
  simp only [gMax1] at hg
  split at hg
  · rename_i ns q
    split at hg
    · rename_i hl
      cases hg
      obtain ⟨a, rfl, h1⟩ := list_ints hx q
      obtain ⟨k1, k2⟩ := maxL_spec hl
      exact ⟨a, ns, rfl, h1, hl, fun m hm hall => by
        have e1 : m = maxL ns := Int.le_antisymm (k2 m hm) (hall _ k1)
        rw [e1]
        exact h.int r⟩
    · cases hg
  · cases hg
def gMin2 := gI fun i j => if j < i then j else i
def gMax2 := gI fun i j => if j > i then j else i
theorem bin_min {K : PySem.W.Frag} : Bin K (fun x y H Q => ∃ i j, [x, y] = [V.int i, V.int j] ∧ Q (.int (if j < i then j else i)) H) gMin2 := fun c e σ H F x y dx dy rv Q r hx hy hg h => by
  cases dx <;> try (cases hg; done)
  cases dy <;> try (cases hg; done)
  cases hg
  exact ⟨_, _, by rw [dp_int_inv hx, dp_int_inv hy], h.int r⟩
theorem bin_max {K : PySem.W.Frag} : Bin K (fun x y H Q => ∃ i j, [x, y] = [V.int i, V.int j] ∧ Q (.int (if j > i then j else i)) H) gMax2 := fun c e σ H F x y dx dy rv Q r hx hy hg h => by
  cases dx <;> try (cases hg; done)
  cases dy <;> try (cases hg; done)
  cases hg
  exact ⟨_, _, by rw [dp_int_inv hx, dp_int_inv hy], h.int r⟩
/-! sorted, of ints -/
def sortI (ns : List Int) : List Int := ns.mergeSort fun a b => decide (a ≤ b)
theorem sortI_perm (ns : List Int) : (sortI ns).Perm ns := List.mergeSort_perm _ _
theorem sortI_ord (ns : List Int) : (sortI ns).Pairwise (· ≤ ·) := by
  have h := List.pairwise_mergeSort (le := fun a b : Int => decide (a ≤ b)) (fun a b c h1 h2 => by simp only [decide_eq_true_eq] at *; omega) (fun a b => by simp only [Bool.or_eq_true, decide_eq_true_eq]; omega) ns
  exact h.imp fun q => of_decide_eq_true q
theorem ord_unique : ∀ {as bs : List Int}, as.Perm bs → as.Pairwise (· ≤ ·) → bs.Pairwise (· ≤ ·) → as = bs
  | [], bs, p, _, _ => (List.nil_perm.mp p).symm
  | a :: as, [], p, _, _ => by simpa using p.length_eq
  | a :: as, b :: bs, p, ha, hb => by
    have h1 : b ≤ a := by
      rcases List.mem_cons.mp (p.mem_iff.mp List.mem_cons_self) with h | h
      · omega
      · exact (List.pairwise_cons.mp hb).1 a h
    have h2 : a ≤ b := by
      rcases List.mem_cons.mp (p.mem_iff.mpr List.mem_cons_self) with h | h
      · omega
      · exact (List.pairwise_cons.mp ha).1 b h
    have e : a = b := by omega
    subst e
    rw [ord_unique (List.Perm.cons_inv p) (List.pairwise_cons.mp ha).2 (List.pairwise_cons.mp hb).2]
def gSorted : PyData → Option RV
  | .list ds => (intsOf ds).map fun ns => .new (.ol false ((sortI ns).map .int))
  | _ => none
theorem una_sorted {K : PySem.W.Frag} : Una K (fun x H Q => rSortedI K [x] H Q) gSorted := fun c e σ H F x dx rv Q r hx hg h => by
  cases dx <;> try (cases hg; done)
  simp only [gSorted, Option.map_eq_some_iff] at hg
  obtain ⟨ns, q, rfl⟩ := hg
  obtain ⟨a, rfl, h1⟩ := list_ints hx q
  refine ⟨a, ns, rfl, h1, fun ns' p hp ho hn => ?_⟩
  have e1 : ns' = sortI ns := ord_unique (hp.trans (sortI_perm ns).symm) ho (sortI_ord ns)
  rw [e1]
  exact h.lst r hn (dl_of_ints _)
/-! isinstance -/
def tyOf : PyData → String
  | .none => "NoneType"
  | .bool _ => "bool"
  | .int _ => "int"
  | .str _ => "str"
  | .list _ => "list"
  | .tuple _ => "tuple"
  | .dict _ => "dict"
def gIsi (T : String) (d : PyData) : Option RV := (kitB (tyOf d) T).map fun b => .val (.bool b)
theorem ty_top {K : PySem.W.Frag} {H F : Hp} {x : V} {d : PyData} (s : Same F H) (h : TopD K H F x d) : TyX K H x (.type (tyOf d)) := by
  cases d with
  | none => rw [dp_non_inv h]; exact .base .non
  | bool b => rw [dp_bl_inv h]; exact .base (.bl b)
  | int b => rw [dp_int_inv h]; exact .base (.int b)
  | str b => rw [dp_str_inv h]; exact .base (.str b)
  | list ds =>
    obtain ⟨a, vs, rfl, h1, _⟩ := h
    rcases h1 with (h1 | ⟨o, h1⟩) | ⟨o, its, n, h1, h2, _⟩
    · exact .base (.lst h1)
    · exact .base (.frz h1)
    · exact .kList h1 h2
  | tuple ds =>
    obtain ⟨a, vs, rfl, h1, _⟩ := TopD.tup s h
    rcases h1 with (h1 | ⟨o, h1⟩) | ⟨o, its, n, h1, h2, _⟩
    · exact .base (.tup h1)
    · exact .fTuple h1
    · exact .kTuple h1 h2
  | dict b => cases h
theorem de_isi {T : String} {x tx : Str} {p p2 : Pos} {a : Expr} {fa : FE} (hn : Gl X x) (hm : X.mg x = none) (hv : bootBuiltins x = some (.builtin "isinstance")) (tn : Gl X tx) (tm : X.mg tx = none) (tv : bootBuiltins tx = some (.type T))
    (ha : DE X xn Wx a fa) (hnn : x ≠ "__name__" := by decide) (hdb : (x == ("__debug__" : Str)) = false := by decide) (hnt : tx ≠ "__name__" := by decide) (hdt : (tx == ("__debug__" : Str)) = false := by decide) (he : starEach [a, .Name tx p2] X.env = (false, eval a X.env) :: starEach [.Name tx p2] X.env := by rfl)
    (he2 : starEach [.Name tx p2] X.env = (false, eval (.Name tx p2) X.env) :: starEach [] X.env := by rfl) (hpl : (backTo pos (starEach [.Name tx p2] X.env)).any (·.1) = false := by rfl) : DE X xn Wx (.Call (.Name x p) [a, .Name tx p2] [] pos) (f1 (gIsi T) fa) :=
  PE_imp (pe_callB call_isi hn hm hv (pa_cons (de_b ha) (pa_cons (pe_bltn (v := .ty T) tn tm tv rfl hnt hdt) pa_nil he2) he) hnn hdb he hpl) fun σ H Q q => t1_of q fun c e H F x dx rv r hx qg h => by
    simp only [gIsi, Option.map_eq_some_iff] at qg
    obtain ⟨b, hb, rfl⟩ := qg
    exact ⟨x, .ty T, _, _, b, rfl, .ty T, ty_top r.aft.sub hx, kit_ty hb, h.bl r⟩
/-! ### slices -/
abbrev FO? := Ev → Out (Option Int)
def tO (K : PySem.W.Frag) (xn : XN) (Wx : WX) (f : FO?) : TO := fun σ H Q => ∃ c e F, R K c e σ H F ∧ match f e with
  | .ok o e' => ∀ H' F', R K c e' σ H' F' → Q o H'
  | .exc x e' => PostX K c e' σ xn Wx x
  | .bad => False
theorem PO_imp {X : Cx} {e : Option Expr} {t t' : TO} (h : PO X e t) (i : ∀ σ H Q, t' σ H Q → t σ H Q) : PO X e t' := ⟨fun pins s σ H Q I q => h.run pins s σ H Q I (i σ H Q q)⟩
def fNo : FO? := fun e => .ok none e
def fSome (f : FE) : FO? := fun e => ob (f e) fun r e1 => match r with
  | .val (.int i) => .ok (some i) e1
  | _ => .bad
theorem do_none : PO X none (tO X.K xn Wx fNo) := PO_imp po_none fun σ H Q ⟨c, e, F, r, h⟩ => h H F r
theorem do_some {a : Expr} {f : FE} (h : DE X xn Wx a f) : PO X (some a) (tO X.K xn Wx (fSome f)) := PO_imp (po_some h) fun σ H Q ⟨c, e, F, r, h⟩ => by
  refine ⟨c, e, F, r, ?_⟩
  unfold fSome at h
  cases qa : f e with
  | bad => simp only [qa, ob] at h
  | exc x e1 => simp only [qa, ob] at h; exact h
  | ok ra e1 =>
    simp only [qa, ob] at h
    intro v H1 F1 r1 rv1
    split at h
    · rename_i q
      split at q
      · cases q
        exact ⟨_, dp_int_inv rv1, h H1 F1 r1⟩
      · cases q
    · rename_i q
      split at q <;> cases q
    · exact h.elim
def cutD {α : Type} (xs : List α) (lo hi : Option Int) : List α := (xs.drop (HT.sIx xs.length 0 lo)).take (HT.sIx xs.length xs.length hi - HT.sIx xs.length 0 lo)
theorem dl_cut {K : PySem.W.Frag} {F : Hp} {vs : List V} {ds : List PyData} (h : DpAll K F vs ds) (lo hi : Option Int) : DpAll K F (cutV vs lo hi) (cutD ds lo hi) := by
  unfold cutV cutD
  rw [dl_len h]
  exact dl_take _ (dl_drop _ h)
def gSl (lo hi : Option Int) : PyData → Option RV
  | .list ds => some (.new (.ol false (cutD ds lo hi)))
  | .tuple ds => some (.val (.tuple (cutD ds lo hi)))
  | _ => none
def rSlAll (K : PySem.W.Frag) : V → Option Int → Option Int → Hp → VK → Prop := fun x lo hi H Q => rSlL K x lo hi H Q ∨ rSlA K x lo hi H Q
theorem sl_all : SlR X (rSlAll X.K) := sl_list.or sl_tupA
theorem una_sl {K : PySem.W.Frag} (lo hi : Option Int) : Una K (fun x H Q => rSlAll K x lo hi H Q) (gSl lo hi) := fun c e σ H F x dx rv Q r hx hg h => by
  cases dx <;> try (cases hg; done)
  · cases hg
    obtain ⟨a, vs, rfl, h1, h2⟩ := hx
    exact .inl ⟨a, vs, rfl, h1, fun p hp => h.lst r hp (dl_cut h2 lo hi)⟩
  · cases hg
    have hx' := hx
    obtain ⟨a, vs, rfl, h1, h2⟩ := TopD.tup r.aft.sub hx
    refine .inr ⟨a, vs, rfl, h1, fun q => ?_, fun _ p hp => h.tup r hp (dl_cut h2 lo hi)⟩
    rename_i ds
    have e1 : cutD ds lo hi = ds := by
      unfold cutD
      rw [← dl_len h2, q.1, q.2, List.drop_zero, Nat.sub_zero, dl_len h2]
      exact List.take_length
    rw [e1] at h
    exact h _ H F r hx'
def fSl (fa : FE) (fl fh : FO?) : FE := fun e => ob (bb fa e) fun ra e1 => ob (fl e1) fun lo e2 => ob (fh e2) fun hi e3 => match ra.data e3 with
  | some d => (match gSl lo hi d with
    | some r => .ok r e3
    | none => .bad)
  | none => .bad
theorem de_sl {a : Expr} {lo hi : Option Expr} {p2 : Pos} {fa : FE} {fl fh : FO?} (ha : DE X xn Wx a fa) (hl : PO X lo (tO X.K xn Wx fl)) (hh : PO X hi (tO X.K xn Wx fh)) : DE X xn Wx (.Subscript a (.Slice lo hi none p2) pos) (fSl fa fl fh) :=
  PE_imp (pe_slice sl_all (de_b ha) hl hh) fun σ H Q ⟨c, e, F, r, h⟩ => by
    refine ⟨c, e, F, r, ?_⟩
    unfold fSl at h
    cases qa : bb fa e with
    | bad => simp only [qa, ob] at h
    | exc x e1 => simp only [qa, ob] at h; exact h
    | ok ra e1 =>
      simp only [qa, ob] at h
      intro v H1 F1 r1 rv1
      refine ⟨c.reb F1, e1, F1, r1.reb, ?_⟩
      cases ql : fl e1 with
      | bad => simp only [ql] at h
      | exc x e2 =>
        simp only [ql] at h
        exact fun C d H2 F2 hx r2 => h C d H2 F2 hx (r1.unreb r2).1
      | ok l e2 =>
        simp only [ql] at h
        intro H2 F2 r2
        refine ⟨c.reb F1, e2, F2, r2, ?_⟩
        cases qh : fh e2 with
        | bad => simp only [qh] at h
        | exc x e3 =>
          simp only [qh] at h
          exact fun C d H3 F3 hx r3 => h C d H3 F3 hx (r1.unreb r3).1
        | ok u e3 =>
          simp only [qh] at h
          intro H3 F3 r3
          obtain ⟨r4, s⟩ := r1.unreb r3
          cases qd : ra.data e3 with
          | none => simp only [qd] at h
          | some d =>
            simp only [qd] at h
            cases qg : gSl l u d with
            | none => simp only [qg] at h
            | some rv =>
              simp only [qg] at h
              exact una_sl l u c e3 σ H3 F3 v d rv Q r4 (RvAt.data r4 s (bb_still qa) rv1 qd) qg h
/-! ### chains -/
theorem t3_of {K : PySem.W.Frag} {fa fb fc : FE} {g g' : PyData → PyData → Option RV} {r r' : R2} {σ : L2.St} {H : Hp} {Q : VK} (hg : Bin K r g) (hg' : Bin K r' g') (h : tE K xn Wx (f3 g g' fa fb fc) σ H Q) : tChain r r' (tE K xn Wx (bb fa)) (tE K xn Wx (bb fb)) (tE K xn Wx (bb fc)) σ H Q := by
  obtain ⟨c, e, F, r0, h⟩ := h
  refine ⟨c, e, F, r0, ?_⟩
  unfold f3 at h
  cases qa : bb fa e with
  | bad => simp only [qa, ob] at h
  | exc x e1 => simp only [qa, ob] at h; exact h
  | ok ra e1 =>
    simp only [qa, ob] at h
    intro v H1 F1 r1 rv1
    refine ⟨c.reb F1, e1, F1, r1.reb, ?_⟩
    cases qb : bb fb e1 with
    | bad => simp only [qb] at h
    | exc x e2 =>
      simp only [qb] at h
      exact fun C d H2 F2 hx r2 => h C d H2 F2 hx (r1.unreb r2).1
    | ok rb e2 =>
      simp only [qb] at h
      intro v2 H2 F2 r2 rv2
      obtain ⟨r3, s⟩ := r1.unreb r2
      cases qx : ra.data e2 with
      | none => simp only [qx] at h
      | some dx =>
        cases qy : rb.data e2 with
        | none => simp only [qx, qy] at h
        | some dy =>
          simp only [qx, qy] at h
          have tx := RvAt.data r3 s (bb_still qa) rv1 qx
          have ty := RvAt.data r3 (Same.refl _) (bb_still qb) (rv_reb.mp rv2) qy
          cases qg : g dx dy with
          | none => simp only [qg] at h
          | some rv =>
            cases rv with
            | own i => simp only [qg] at h
            | new w => simp only [qg] at h
            | val d =>
              cases d with
              | bool b =>
                refine hg (c.reb F2) e2 σ H2 F2 v v2 dx dy _ _ r3.reb tx ty qg fun z H3 F3 r5 rz => ⟨b, dp_bl_inv rz, ?_⟩
                obtain ⟨r6, s6⟩ := r3.unreb r5
                cases b with
                | false =>
                  rw [if_neg Bool.false_ne_true]
                  simp only [qg] at h
                  exact h _ H3 F3 r6 (.bl false)
                | true =>
                  rw [if_pos rfl]
                  simp only [qg] at h
                  refine ⟨c.reb F2, e2, F3, r5, ?_⟩
                  cases qc : bb fc e2 with
                  | bad => simp only [qc] at h
                  | exc x e3 =>
                    simp only [qc] at h
                    exact fun C d H4 F4 hx r7 => h C d H4 F4 hx (r3.unreb r7).1
                  | ok rc e3 =>
                    simp only [qc] at h
                    intro v3 H4 F4 r7 rv3
                    obtain ⟨r8, s8⟩ := r3.unreb r7
                    cases qy2 : rb.data e3 with
                    | none => simp only [qy2] at h
                    | some dy2 =>
                      cases qz : rc.data e3 with
                      | none => simp only [qy2, qz] at h
                      | some dz =>
                        simp only [qy2, qz] at h
                        have ty2 := RvAt.data r8 s8 (bb_still qb) (rv_reb.mp rv2) qy2
                        have tz := RvAt.data r8 (Same.refl _) (bb_still qc) (rv_reb.mp rv3) qz
                        cases qg2 : g' dy2 dz with
                        | none => simp only [qg2] at h
                        | some rv' =>
                          cases rv' with
                          | own i => simp only [qg2] at h
                          | new w => simp only [qg2] at h
                          | val d' =>
                            cases d' with
                            | bool b' =>
                              simp only [qg2] at h
                              exact hg' c e3 σ H4 F4 v2 v3 dy2 dz _ Q r8 ty2 tz qg2 h
                            | _ => simp only [qg2] at h
              | _ => simp only [qg] at h
theorem de_chain {op op' : CmpOp} {r r' : R2} {g g' : PyData → PyData → Option RV} {a b c : Expr} {fa fb fc : FE} (ho : OpR X (compareOp op) r) (hg : Bin X.K r g) (ho' : OpR X (compareOp op') r') (hg' : Bin X.K r' g') (ha : DE X xn Wx a fa) (hb : DE X xn Wx b fb) (hc : DE X xn Wx c fc)
    (hm : lastMarks [op, op'] [b, c] = false := by with_unfolding_all rfl) : DE X xn Wx (.Compare a [op, op'] [b, c] pos) (f3 g g' fa fb fc) :=
  PE_imp (pe_chain ho ho' (de_b ha) (de_b hb) (de_b hc) hm) fun σ H Q q => t3_of hg hg' q
theorem dt_chain {op op' : CmpOp} {r r' : R2} {g g' : PyData → PyData → Option RV} {a b c : Expr} {fa fb fc : FE} (ho : OpR X (compareOp op) r) (hg : Bin X.K r g) (ho' : OpR X (compareOp op') r') (hg' : Bin X.K r' g') (ha : DE X xn Wx a fa) (hb : DE X xn Wx b fb) (hc : DE X xn Wx c fc)
    (hm : lastMarks [op, op'] [b, c] = false := by with_unfolding_all rfl) : DT X xn Wx (.Compare a [op, op'] [b, c] pos) (asB (f3 g g' fa fb fc)) :=
  PT_imp (pt_chain ho ho' (de_b ha) (de_b hb) (de_b hc) hm) fun σ H Q q => t3_of hg hg' (asB_of q)
end
end DL

namespace DL
open PySem PySem.Spec PyProof.Rows L2
variable [Inhabited Tbx]

/-! ### the slots change -/
section
variable {K : PySem.W.Frag} {c : C0} {e : Ev} {σ : L2.St} {H F : Hp}
theorem R.setFr (r : R K c e σ H F) (i : Nat) {v : V} {d : PyData} (h : Dp K F v d) : R K c (e.set i (some (Sl.fr d))) (σ.set i (some v)) H F := by
  by_cases hi : i < e.length
  · have hi' : i < σ.length := by rw [r.len]; exact hi
    have old : ∀ (j : Nat) (w : Sl), (e.set i (some (Sl.fr d)))[j]? = some (some w) → w.isOwn = true → j ≠ i ∧ e[j]? = some (some w) := fun j w q1 q2 => by
      rw [get_set hi] at q1
      split at q1
      · cases q1; cases q2
      · exact ⟨by assumption, q1⟩
    have same : ∀ j, j ≠ i → (σ.set i (some v))[j]? = σ[j]? := fun j hj => by rw [get_set hi', if_neg hj]
    refine ⟨r.aft, by rw [List.length_set, List.length_set]; exact r.len, fun j z q => ?_, fun j w q1 q2 => ?_, fun j k b w u hjk q1 q2 q3 q4 q5 q6 => ?_, r.tm, r.tmnd, fun j w q1 q2 => ?_⟩
    · rw [get_set hi] at q
      split at q
      · rename_i hj
        cases q
        rw [hj]
        exact ⟨v, by rw [get_set hi', if_pos rfl], h⟩
      · rename_i hj
        rw [same j hj]
        exact r.fr j z q
    · obtain ⟨hj, q3⟩ := old j w q1 q2
      rw [same j hj]
      exact r.ow j w q3 q2
    · obtain ⟨hj, k1⟩ := old j w q1 q2
      obtain ⟨hk, k2⟩ := old k u q3 q4
      rw [same j hj] at q5
      rw [same k hk] at q6
      exact r.ne j k b w u hjk k1 q2 k2 q4 q5 q6
    · obtain ⟨hj, q3⟩ := old j w q1 (by cases w <;> first | rfl | cases q2)
      rw [same j hj]
      exact r.pr j w q3 q2
  · have h1 : e.set i (some (Sl.fr d)) = e := List.set_eq_of_length_le (by omega)
    have h2 : σ.set i (some v) = σ := List.set_eq_of_length_le (by rw [r.len]; omega)
    rw [h1, h2]
    exact r
theorem R.setNew (r : R K c e σ H F) (i : Nat) {v : V} {w : Sl} (h : RvAt K c e σ H F (.new w) v) : R K c (e.set i (some w)) (σ.set i (some v)) H F := by
  obtain ⟨a, o, rfl, h1, h2, h3, h4, h5, h6, h7⟩ := h
  by_cases hi : i < e.length
  · have hi' : i < σ.length := by rw [r.len]; exact hi
    have same : ∀ j, j ≠ i → (σ.set i (some (V.ref a)))[j]? = σ[j]? := fun j hj => by rw [get_set hi', if_neg hj]
    have olde : ∀ j, j ≠ i → (e.set i (some w))[j]? = e[j]? := fun j hj => by rw [get_set hi, if_neg hj]
    have at1 : (σ.set i (some (V.ref a)))[i]? = some (some (V.ref a)) := by rw [get_set hi', if_pos rfl]
    have at2 : (e.set i (some w))[i]? = some (some w) := by rw [get_set hi, if_pos rfl]
    have isO : w.isOwn = true := by
      cases w with
      | fr d => exact h3.elim
      | ol p xs => rfl
      | od p xs => rfl
    refine ⟨r.aft, by rw [List.length_set, List.length_set]; exact r.len, fun j z q => ?_, fun j u q1 q2 => ?_, fun j k b u u' hjk q1 q2 q3 q4 q5 q6 => ?_, r.tm, r.tmnd, fun j u q1 q2 => ?_⟩
    · by_cases hj : j = i
      · rw [hj, at2] at q
        cases q
        cases isO
      · rw [olde j hj] at q
        rw [same j hj]
        exact r.fr j z q
    · by_cases hj : j = i
      · rw [hj] at q1 ⊢
        rw [at2] at q1
        cases q1
        exact ⟨a, o, at1, h1, h2, h3, (fun z => by rw [h4] at z; cases z), fun _ => h5, h6⟩
      · rw [olde j hj] at q1
        rw [same j hj]
        exact r.ow j u q1 q2
    · by_cases hj : j = i
      · have hk : k ≠ i := fun z => hjk (by rw [hj, z])
        rw [hj, at1] at q5
        cases q5
        rw [olde k hk] at q3
        rw [same k hk] at q6
        exact h7 k u' q3 q4 q6
      · by_cases hk : k = i
        · rw [hk, at1] at q6
          cases q6
          rw [olde j hj] at q1
          rw [same j hj] at q5
          exact h7 j u q1 q2 q5
        · rw [olde j hj] at q1
          rw [same j hj] at q5
          rw [olde k hk] at q3
          rw [same k hk] at q6
          exact r.ne j k b u u' hjk q1 q2 q3 q4 q5 q6
    · by_cases hj : j = i
      · rw [hj, at2] at q1
        cases q1
        rw [h4] at q2
        cases q2
      · rw [olde j hj] at q1
        rw [same j hj]
        exact r.pr j u q1 q2
  · have e1 : e.set i (some w) = e := List.set_eq_of_length_le (by omega)
    have e2 : σ.set i (some (V.ref a)) = σ := List.set_eq_of_length_le (by rw [r.len]; omega)
    rw [e1, e2]
    exact r
/-- a slot forgotten -/
theorem R.drop (r : R K c e σ H F) (i : Nat) : R K c (e.set i none) σ H F := by
  by_cases hi : i < e.length
  · have old : ∀ (j : Nat) (w : Sl), (e.set i none)[j]? = some (some w) → e[j]? = some (some w) := fun j w q1 => by
      rw [get_set hi] at q1
      split at q1
      · cases q1
      · exact q1
    exact ⟨r.aft, by rw [List.length_set]; exact r.len, fun j z q => r.fr j z (old j _ q), fun j w q1 q2 => r.ow j w (old j w q1) q2, fun j k b w u hjk q1 q2 q3 q4 => r.ne j k b w u hjk (old j w q1) q2 (old k u q3) q4, r.tm, r.tmnd, fun j w q1 q2 => r.pr j w (old j w q1) q2⟩
  · rw [List.set_eq_of_length_le (by omega)]
    exact r
/-- the object of an own slot changes -/
theorem R.change (r : R K c e σ H F) {i : Nat} {a : Addr} {w w' : Sl} {o' : HO} (h : e[i]? = some (some w)) (hw : w.isOwn = true) (ha : σ[i]? = some (some (V.ref a))) (ho : OwnAt K F w' o') (hp : w'.par = w.par) (hw' : w'.isOwn = true) : R K c (e.set i (some w')) σ (upd H a o') F := by
  have hi : i < e.length := lt_of_get h
  obtain ⟨b, o, k1, k2, k3, k4, k5, k6, k7⟩ := r.ow i w h hw
  rw [ha] at k1
  cases k1
  have olde : ∀ j, j ≠ i → (e.set i (some w'))[j]? = e[j]? := fun j hj => by rw [get_set hi, if_neg hj]
  have at2 : (e.set i (some w'))[i]? = some (some w') := by rw [get_set hi, if_pos rfl]
  have keep : ∀ b u, b ≠ a → H b = some u → upd H a o' b = some u := fun b u hb q => by rw [upd_ne hb]; exact q
  have notTab : isTab o = false := k4.notTab
  refine ⟨⟨fun b u q => ?_, r.aft.s1, fun b q => upd_nn (r.aft.s0 b q), r.aft.s2, fun b u q1 q2 q3 => ?_, fun P hP => tabG_upd (r.aft.tab P hP) fun z => ?_, r.aft.imm⟩, by rw [List.length_set]; exact r.len, fun j z q => ?_, fun j u q1 q2 => ?_, fun j k b u u' hjk q1 q2 q3 q4 q5 q6 => ?_, fun q hq => ?_, r.tmnd, fun j u q1 q2 => ?_⟩
  · exact keep b u (fun z => by rw [z, k3] at q; cases q) (r.aft.sub b u q)
  · refine keep b u (fun z => ?_) (r.aft.s3 b u q1 q2 q3)
    cases hpar : w.par with
    | true => exact q2 (by rw [z]; exact k5 hpar)
    | false => rw [z, k6 hpar] at q1; cases q1
  · obtain ⟨ps, q, _⟩ := r.aft.tab P hP
    rw [z, k2] at q
    cases q
    cases notTab
  · by_cases hj : j = i
    · rw [hj, at2] at q
      cases q
      cases hw'
    · rw [olde j hj] at q
      exact r.fr j z q
  · by_cases hj : j = i
    · rw [hj] at q1 ⊢
      rw [at2] at q1
      cases q1
      exact ⟨a, o', ha, upd_same, k3, ho, fun z => k5 (by rw [← hp]; exact z), fun z => k6 (by rw [← hp]; exact z), k7⟩
    · rw [olde j hj] at q1
      obtain ⟨b, u1, m1, m2, m3, m4, m5⟩ := r.ow j u q1 q2
      exact ⟨b, u1, m1, keep b u1 (fun z => r.ne j i b u w hj q1 q2 h hw m1 (by rw [ha, z])) m2, m3, m4, m5⟩
  · have back : ∀ j (u : Sl), (e.set i (some w'))[j]? = some (some u) → ∃ u2 : Sl, e[j]? = some (some u2) ∧ (u.isOwn = true → u2.isOwn = true) := fun j u q => by
      by_cases hj : j = i
      · rw [hj]; exact ⟨w, h, fun _ => hw⟩
      · rw [olde j hj] at q; exact ⟨u, q, fun z => z⟩
    obtain ⟨u2, m1, m2⟩ := back j u q1
    obtain ⟨u3, m3, m4⟩ := back k u' q3
    exact r.ne j k b u2 u3 hjk m1 (m2 q2) m3 (m4 q4) q5 q6
  · obtain ⟨m1, m2, m3⟩ := r.tm q hq
    exact ⟨keep _ _ (fun z => k7 (by rw [← z]; exact List.mem_map.mpr ⟨q, hq, rfl⟩)) m1, m2, m3⟩
  · by_cases hj : j = i
    · rw [hj, at2] at q1
      cases q1
      rw [hj]
      exact r.pr i w h (by rw [← hp]; exact q2)
    · rw [olde j hj] at q1
      exact r.pr j u q1 q2
end

section
variable {X : Cx} {xn : XN} {Wx : WX} {pos : Pos}
/-! ### small statements -/
def ofE (o : Out RV) (k : RV → Ev → SO) : SO := match o with
  | .ok r e => k r e
  | .exc x e => .exc x e
  | .bad => .bad
def sNx : FS := fun e => .nx e
def sBk : FS := fun e => .bk e
def sCt : FS := fun e => .ct e
def sSeq (f g : FS) : FS := fun e => match f e with
  | .nx e1 => g e1
  | o => o
theorem ds_pass : DS X xn Wx (.Pass pos) sNx := PS_imp ps_pass fun D σ H ⟨c, e, F, r, h⟩ => h σ H F r
theorem ds_break : DS X xn Wx (.Break pos) sBk := PS_imp ps_break fun D σ H ⟨c, e, F, r, h⟩ => h σ H F r
theorem ds_continue : DS X xn Wx (.Continue pos) sCt := PS_imp ps_continue fun D σ H ⟨c, e, F, r, h⟩ => h σ H F r
theorem dss_nil : DSs X xn Wx [] sNx := PSs_imp pss_nil fun D σ H ⟨c, e, F, r, h⟩ => h σ H F r
theorem dss_one {s : Stmt} {f : FS} (h : DS X xn Wx s f) : DSs X xn Wx [s] f := pss_one h
theorem dss_cons {s : Stmt} {ss : List Stmt} {f g : FS} (h : DS X xn Wx s f) (hs : DSs X xn Wx ss g) : DSs X xn Wx (s :: ss) (sSeq f g) :=
  PSs_imp (pss_cons h hs) fun D σ H ⟨c, e, F, r, q⟩ => by
    refine ⟨c, e, F, r, ?_⟩
    unfold sSeq at q
    cases qf : f e with
    | nx e1 => rw [qf] at q; exact fun σ1 H1 F1 r1 => ⟨c, e1, F1, r1, q⟩
    | rt rv e1 => rw [qf] at q; exact q
    | bk e1 => rw [qf] at q; exact q
    | ct e1 => rw [qf] at q; exact q
    | exc x e1 => rw [qf] at q; exact q
    | bad => rw [qf] at q; exact q
/-- an expression's end within a statement -/
theorem ts_e {K : PySem.W.Frag} {f : FE} {k : RV → Ev → SO} {D : Ends} {σ : L2.St} {H : Hp} {Rk : V → Hp → Prop} (h : tS K xn Wx (fun e => ofE (f e) k) D σ H)
    (g : ∀ (c : C0) (e e0 : Ev) (rv : RV) (v : V) (H F : Hp), f e0 = .ok rv e → R K c e σ H F → RvAt K c e σ H F rv v → SPost K c xn Wx D (k rv e) → Rk v H) : tE K xn Wx f σ H Rk := by
  obtain ⟨c, e, F, r, h⟩ := h
  refine ⟨c, e, F, r, ?_⟩
  cases qa : f e with
  | bad => simp only [qa, ofE] at h; exact h.elim
  | exc x e1 =>
    simp only [qa, ofE] at h
    exact fun C d H' F' hx r' => h σ H' F' C d hx r'
  | ok rv e1 =>
    simp only [qa, ofE] at h
    exact fun v H' F' r' rr => g c e1 e rv v H' F' qa r' rr h
/-- own lists are frozen, new objects stay -/
def nnK (r : RV) (e : Ev) : Out RV := match r with
  | .own i => vvK (.own i) e
  | r => .ok r e
def nn (f : FE) : FE := fun e => ob (f e) nnK
theorem de_n {ex : Expr} {f : FE} (h : DE X xn Wx ex f) : DE X xn Wx ex (nn f) := PE_imp h fun σ H Q q => tE_then q fun c e r v H' F' r1 rv1 z => by
  cases r with
  | val d => exact z v H' F' r1 rv1
  | new w => exact z v H' F' r1 rv1
  | own i =>
    simp only [nnK, vvK] at z
    obtain ⟨h1, w, h2, h3⟩ := rv1
    rw [h2] at z
    cases w with
    | fr d => cases h3
    | od p kvs => exact z.elim
    | ol p xs =>
      cases p with
      | true => exact z.elim
      | false =>
        obtain ⟨F'', s, r2, hd⟩ := r1.freezeO h1 h2
        exact z v H' F'' r2 hd
def setK (i : Nat) (r : RV) (e : Ev) : SO := match r with
  | .val d => .nx (e.set i (some (.fr d)))
  | .new w => .nx (e.set i (some w))
  | .own _ => .bad
def sSet (i : Nat) (f : FE) : FS := fun e => ofE (nn f e) (setK i)
theorem set_ok {K : PySem.W.Frag} {c : C0} {e : Ev} {σ : L2.St} {H F : Hp} {i : Nat} {rv : RV} {v : V} {D : Ends} (r : R K c e σ H F) (rr : RvAt K c e σ H F rv v) (h : SPost K c xn Wx D (setK i rv e)) : D.nx (σ.set i (some v)) H := by
  cases rv with
  | val d => exact h _ H F (r.setFr i rr)
  | new w => exact h _ H F (r.setNew i rr)
  | own j => exact h.elim
theorem ds_set {i : Nat} {x : Str} {a : Expr} {fa : FE} {pos' : Pos} (hN : X.N.Nodup) (hi : X.N[i]? = some x) (hx : Loc X.env.scope x) (ha : DE X xn Wx a fa) (hs : swapsWith a (some (.Name x pos')) pos.line X.env = pure false := by rfl) (hf : X.fn x = true ∨ X.env.scope.names.lookup x = some .local := by first | exact .inl rfl | exact .inr rfl | assumption) :
    DS X xn Wx (.Assign [.Name x pos'] a pos) (sSet i fa) :=
  PS_imp (ps_set hN hi hx (de_n ha) hs hf) fun D σ H q => ts_e q fun c e e0 rv v H F qa r rr h => set_ok r rr h
def sDrop (f : FE) : FS := fun e => ofE (f e) fun _ e1 => .nx e1
theorem ds_expr {a : Expr} {fa : FE} (ha : DE X xn Wx a fa) (hs : swapsWith a none pos.line X.env = pure false := by rfl) : DS X xn Wx (.Expr a pos) (sDrop fa) :=
  PS_imp (ps_expr ha hs) fun D σ H q => ts_e q fun c e e0 rv v H F qa r rr h => h σ H F r
def retK (r : RV) (e : Ev) : SO := match r with
  | .val d => .rt (.val d) e
  | .new w => .rt (.new w) e
  | .own i => (match e[i]? with
    | some (some (.ol false xs)) => .rt (.new (.ol false xs)) (e.set i none)
    | some (some (.od false kvs)) => .rt (.new (.od false kvs)) (e.set i none)
    | _ => .bad)
def sRet (f : FE) : FS := fun e => ofE (f e) retK
theorem R.ownNew {K : PySem.W.Frag} {c : C0} {e : Ev} {σ : L2.St} {H F : Hp} (r : R K c e σ H F) {i : Nat} {w : Sl} {v : V} (h : e[i]? = some (some w)) (ho : w.isOwn = true) (hp : w.par = false) (hv : σ[i]? = some (some v)) : R K c (e.set i none) σ H F ∧ RvAt K c (e.set i none) σ H F (.new w) v := by
  obtain ⟨a, o, k1, k2, k3, k4, k5, k6, k7⟩ := r.ow i w h ho
  rw [hv] at k1
  cases k1
  refine ⟨r.drop i, a, o, rfl, k2, k3, k4, hp, k6 hp, k7, fun j u q1 q2 q3 => ?_⟩
  rw [get_set (lt_of_get h)] at q1
  split at q1
  · cases q1
  · rename_i hj
    exact r.ne j i a u w hj q1 q2 h ho q3 hv
theorem ret_ok {K : PySem.W.Frag} {c : C0} {e : Ev} {σ : L2.St} {H F : Hp} {rv : RV} {v : V} {D : Ends} (r : R K c e σ H F) (rr : RvAt K c e σ H F rv v) (h : SPost K c xn Wx D (retK rv e)) : D.rt v H := by
  cases rv with
  | val d => exact h σ H F v r rr
  | new w => exact h σ H F v r rr
  | own i =>
    obtain ⟨hv, w, hw, ho⟩ := rr
    simp only [retK, hw] at h
    cases w with
    | fr d => cases ho
    | ol p xs =>
      cases p with
      | true => exact h.elim
      | false =>
        obtain ⟨r2, rr2⟩ := r.ownNew hw rfl rfl hv
        exact h σ H F v r2 rr2
    | od p xs =>
      cases p with
      | true => exact h.elim
      | false =>
        obtain ⟨r2, rr2⟩ := r.ownNew hw rfl rfl hv
        exact h σ H F v r2 rr2
theorem ds_ret {a : Expr} {fa : FE} (ha : DE X xn Wx a fa) : DS X xn Wx (.Return (some a) pos) (sRet fa) :=
  PS_imp (ps_ret ha) fun D σ H q => ts_e q fun c e e0 rv v H F qa r rr h => ret_ok r rr h
def sRetN : FS := fun e => .rt (.val .none) e
theorem ds_retN : DS X xn Wx (.Return none pos) sRetN := PS_imp ps_retN fun D σ H ⟨c, e, F, r, h⟩ => h σ H F _ r .non
def sIf (t : Ev → Out Bool) (f g : FS) : FS := fun e => match t e with
  | .ok b e1 => if b = true then f e1 else g e1
  | .exc x e1 => .exc x e1
  | .bad => .bad
theorem ds_if {a : Expr} {ss ss' : List Stmt} {t : Ev → Out Bool} {f g : FS} (ht : DT X xn Wx a t) (hf : DSs X xn Wx ss f) (hg : DSs X xn Wx ss' g) : DS X xn Wx (.If a ss ss' pos) (sIf t f g) :=
  PS_imp (ps_if ht hf hg) fun D σ H ⟨c, e, F, r, h⟩ => by
    refine ⟨c, e, F, r, ?_⟩
    unfold sIf at h
    cases q : t e with
    | bad => rw [q] at h; exact h.elim
    | exc x e1 => rw [q] at h; exact fun C d H' F' hx r' => h σ H' F' C d hx r'
    | ok k e1 =>
      rw [q] at h
      intro H' F' r'
      cases k with
      | true => exact ⟨c, e1, F', r', h⟩
      | false => exact ⟨c, e1, F', r', h⟩
/-! ### targets -/
inductive Tg where
  | nm (i : Nat)
  | tp (l : List Tg)
mutual
def setT : Tg → PyData → Ev → Option Ev
  | .nm i, d, e => some (e.set i (some (.fr d)))
  | .tp l, .tuple ds, e => setTs l ds e
  | .tp l, .list ds, e => setTs l ds e
  | .tp _, _, _ => none
def setTs : List Tg → List PyData → Ev → Option Ev
  | [], [], e => some e
  | t :: ts, d :: ds, e => match setT t d e with
    | some e1 => setTs ts ds e1
    | none => none
  | _, _, _ => none
end
mutual
/-- the slots of a target -/
def Tg.ix : Tg → List Nat
  | .nm i => [i]
  | .tp l => ixs l
def ixs : List Tg → List Nat
  | [] => []
  | t :: ts => t.ix ++ ixs ts
end
/-- σ' is σ but for the slots vs -/
def Dif (vs : List Nat) (σ σ' : L2.St) : Prop := σ'.length = σ.length ∧ ∀ j, j ∉ vs → σ'[j]? = σ[j]?
theorem Dif.refl {vs : List Nat} {σ : L2.St} : Dif vs σ σ := ⟨rfl, fun _ _ => rfl⟩
theorem Dif.trans {vs ws : List Nat} {σ σ' σ2 : L2.St} (h : Dif vs σ σ') (h' : Dif ws σ' σ2) : Dif (vs ++ ws) σ σ2 :=
  ⟨h'.1.trans h.1, fun j hj => (h'.2 j fun q => hj (List.mem_append_right _ q)).trans (h.2 j fun q => hj (List.mem_append_left _ q))⟩
theorem Dif.set {i : Nat} {σ : L2.St} {v : Option V} : Dif [i] σ (σ.set i v) := ⟨List.length_set, fun j hj => by
  rw [List.getElem?_set_ne]
  intro q
  exact hj (by rw [q]; exact List.mem_singleton.mpr rfl)⟩
def tG (K : PySem.W.Frag) (T : Tg) : TG := fun v σ H Q => ∃ c e F d, R K c e σ H F ∧ TopD K H F v d ∧ match setT T d e with
  | some e' => ∀ σ' H' F', Dif T.ix σ σ' → R K c e' σ' H' F' → Q σ' H'
  | none => False
def tGs (K : PySem.W.Frag) (Ts : List Tg) : TGs := fun vs σ H Q => ∃ c e F ds, R K c e σ H F ∧ DpAll K F vs ds ∧ match setTs Ts ds e with
  | some e' => ∀ σ' H' F', Dif (ixs Ts) σ σ' → R K c e' σ' H' F' → Q σ' H'
  | none => False
theorem PG_imp {tg : Expr} {t t' : TG} (h : PG X tg t) (i : ∀ v σ H Q, t' v σ H Q → t v σ H Q) : PG X tg t' := ⟨fun pins s σ H v u Q I r q => h.run pins s σ H v u Q I r (i v σ H Q q)⟩
theorem PGs_imp {tg : List Expr} {t t' : TGs} (h : PGs X tg t) (i : ∀ v σ H Q, t' v σ H Q → t v σ H Q) : PGs X tg t' := ⟨fun pins s σ H v u Q I r q => h.run pins s σ H v u Q I r (i v σ H Q q)⟩
abbrev DG (X : Cx) (tg : Expr) (T : Tg) : Prop := PG X tg (tG X.K T)
abbrev DGs (X : Cx) (tg : List Expr) (Ts : List Tg) : Prop := PGs X tg (tGs X.K Ts)
/-- top data of an item that is frozen -/
theorem dg_name {i : Nat} {x : Str} (hN : X.N.Nodup) (hi : X.N[i]? = some x) (hx : Loc X.env.scope x) (hf : X.fn x = true ∨ X.env.scope.names.lookup x = some .local := by first | exact .inl rfl | exact .inr rfl | assumption) : PG X (.Name x pos) (fun v σ H Q => ∃ c e F d, R X.K c e σ H F ∧ Dp X.K F v d ∧ match setT (.nm i) d e with
  | some e' => ∀ σ' H' F', Dif [i] σ σ' → R X.K c e' σ' H' F' → Q σ' H'
  | none => False) :=
  PG_imp (pg_name hN hi hx hf) fun v σ H Q ⟨c, e, F, d, r, hd, h⟩ => h _ H F Dif.set (r.setFr i hd)
/-- items -/
def tGf (K : PySem.W.Frag) (T : Tg) : TG := fun v σ H Q => ∃ c e F d, R K c e σ H F ∧ Dp K F v d ∧ match setT T d e with
  | some e' => ∀ σ' H' F', Dif T.ix σ σ' → R K c e' σ' H' F' → Q σ' H'
  | none => False
abbrev DGf (X : Cx) (tg : Expr) (T : Tg) : Prop := PG X tg (tGf X.K T)
theorem dgs_nil : DGs X [] [] := PGs_imp pgs_nil fun v σ H Q ⟨c, e, F, ds, r, hd, h⟩ => by
  cases ds with
  | nil => cases hd; exact ⟨rfl, h σ H F Dif.refl r⟩
  | cons d ds => exact h.elim
theorem dgs_cons {a : Expr} {as : List Expr} {T : Tg} {Ts : List Tg} (h1 : DGf X a T) (h2 : DGs X as Ts) (hs : (assignEach (a :: as) X.env).map (·.2) = assign a X.env :: (assignEach as X.env).map (·.2) := by rfl) : DGs X (a :: as) (T :: Ts) :=
  PGs_imp (pgs_cons h1 h2 hs) fun vs σ H Q ⟨c, e, F, ds, r, hd, h⟩ => by
    cases ds with
    | nil => exact h.elim
    | cons d ds =>
      cases hd with
      | cons k1 k2 =>
        refine ⟨_, _, rfl, c.reb F, e, F, d, r.reb, k1, ?_⟩
        have h' : (match (match setT T d e with | some e1 => setTs Ts ds e1 | none => none) with
          | some e' => ∀ σ' H' F', Dif (T.ix ++ ixs Ts) σ σ' → R X.K c e' σ' H' F' → Q σ' H'
          | none => False) := h
        cases q : setT T d e with
        | none => rw [q] at h'; exact h'.elim
        | some e1 =>
          rw [q] at h'
          intro σ1 H1 F1 d1 r1
          obtain ⟨r2, s⟩ := r.unreb r1
          refine ⟨c, e1, F1, ds, r2, dl_mono s _ _ k2, ?_⟩
          cases q2 : setTs Ts ds e1 with
          | none => simp only [q2] at h'
          | some e2 =>
            simp only [q2] at h'
            exact fun σ2 H2 F2 d2 r2 => h' σ2 H2 F2 (d1.trans d2) r2
theorem pg_or {tg : Expr} {t t' : TG} (h : PG X tg t) (h' : PG X tg t') : PG X tg (fun v σ H Q => t v σ H Q ∨ t' v σ H Q) := ⟨fun pins s σ H v u Q I r q => by
  rcases q with q | q
  · exact h.run pins s σ H v u Q I r q
  · exact h'.run pins s σ H v u Q I r q⟩
theorem setTs_len : ∀ {Ts : List Tg} {ds : List PyData} {e e' : Ev}, setTs Ts ds e = some e' → ds.length = Ts.length
  | [], [], _, _, _ => rfl
  | [], _ :: _, _, _, h => by cases h
  | _ :: _, [], _, _, h => by cases h
  | T :: Ts, d :: ds, e, e', h => by
    have h' : (match setT T d e with | some e1 => setTs Ts ds e1 | none => none) = some e' := h
    cases q : setT T d e with
    | none => rw [q] at h'; cases h'
    | some e1 =>
      rw [q] at h'
      show ds.length + 1 = Ts.length + 1
      rw [setTs_len h']
theorem dg_tup {es : List Expr} {k : Nat} {Ts : List Tg} (hc : X.calm = true) (h : DGs X es Ts) (hn : (assignEach es X.env).length = Ts.length := by rfl) (hst : (assignEach es X.env).findIdx? (·.1) = none := by rfl) : DG X (.Tuple es k pos) (.tp Ts) :=
  PG_imp (pg_or (pg_tup hc h hn hst) (L2.pg_lst (pos := pos) hc h hn hst)) fun v σ H Q ⟨c, e, F, d, r, hd, q⟩ => by
    cases d <;> try (exact q.elim)
    · rename_i ds
      obtain ⟨a, vs, rfl, h1, h2⟩ := hd
      refine .inr ⟨a, vs, rfl, h1, ?_, c, e, F, ds, r, h2, q⟩
      cases qs : setTs Ts ds e with
      | none =>
        have q' : (match setTs Ts ds e with
          | some e' => ∀ σ' H' F', Dif (ixs Ts) σ σ' → R X.K c e' σ' H' F' → Q σ' H'
          | none => False) := q
        rw [qs] at q'
        exact q'.elim
      | some e' => rw [dl_len h2]; exact setTs_len qs
    · rename_i ds
      obtain ⟨a, vs, rfl, h1, h2⟩ := TopD.tup r.aft.sub hd
      refine .inl ⟨a, vs, rfl, h1, ?_, c, e, F, ds, r, h2, q⟩
      cases qs : setTs Ts ds e with
      | none =>
        have q' : (match setTs Ts ds e with
          | some e' => ∀ σ' H' F', Dif (ixs Ts) σ σ' → R X.K c e' σ' H' F' → Q σ' H'
          | none => False) := q
        rw [qs] at q'
        exact q'.elim
      | some e' => rw [dl_len h2]; exact setTs_len qs
theorem dgf_of {tg : Expr} {T : Tg} (h : DG X tg T) : DGf X tg T := PG_imp h fun v σ H Q ⟨c, e, F, d, r, hd, q⟩ => ⟨c, e, F, d, r, TopD.of r.aft.sub hd, q⟩
theorem dgf_name {i : Nat} {x : Str} (hN : X.N.Nodup) (hi : X.N[i]? = some x) (hx : Loc X.env.scope x) (hf : X.fn x = true ∨ X.env.scope.names.lookup x = some .local := by first | exact .inl rfl | exact .inr rfl | assumption) : DGf X (.Name x pos) (.nm i) := dg_name hN hi hx hf
theorem dgf_tup {es : List Expr} {k : Nat} {Ts : List Tg} (hc : X.calm = true) (h : DGs X es Ts) (hn : (assignEach es X.env).length = Ts.length := by rfl) (hst : (assignEach es X.env).findIdx? (·.1) = none := by rfl) : DGf X (.Tuple es k pos) (.tp Ts) := dgf_of (dg_tup hc h hn hst)
/-- a, b = e -/
def sUnp (T : Tg) (f : FE) : FS := fun e => ofE (bb f e) fun r e1 => match r.data e1 with
  | some d => (match setT T d e1 with
    | some e2 => .nx e2
    | none => .bad)
  | none => .bad
theorem ds_unp {tg a : Expr} {T : Tg} {fa : FE} (ha : DE X xn Wx a fa) (hg : DG X tg T) (hs : swapsWithSole [tg] a pos.line X.env = pure false := by rfl) (hw : swappedStores [tg] a X.env = pure none := by rfl)
    (h1 : (assignEach [tg] X.env).map (·.2) = [assign tg X.env] := by rfl) : DS X xn Wx (.Assign [tg] a pos) (sUnp T fa) :=
  PS_imp (ps_asg (de_b ha) hg hs hw h1) fun D σ H q => ts_e q fun c e e0 rv v H F qa r rr h => by
    cases qd : rv.data e with
    | none => simp only [qd] at h; exact h.elim
    | some d =>
      simp only [qd] at h
      refine ⟨c, e, F, d, r, RvAt.data r (Same.refl _) (bb_still qa) rr qd, ?_⟩
      cases qs : setT T d e with
      | none => simp only [qs] at h; exact h.elim
      | some e2 => simp only [qs] at h ⊢; exact fun σ2 H2 F2 _ r2 => h σ2 H2 F2 r2
/-- a, b = x, y with local names: no tuple stands -/
def sPar (i j : Nat) (fa fb : FE) : FS := fun e => ofE (vv fa e) fun ra e1 => ofE (vv fb e1) fun rb e2 => match ra, rb with
  | .val d, .val d' => .nx ((e2.set i (some (.fr d))).set j (some (.fr d')))
  | _, _ => .bad
theorem ds_par {i j : Nat} {x y : Str} {a b : Expr} {fa fb : FE} {px py pt : Pos} {kt k2 pt2} (hc : X.calm = true) (hN : X.N.Nodup) (hi : X.N[i]? = some x) (hj : X.N[j]? = some y) (hij : i ≠ j)
    (hx : X.env.scope.names.lookup x = some .local) (hy : X.env.scope.names.lookup y = some .local) (ha : DE X xn Wx a fa) (hb : DE X xn Wx b fb)
    (hw : swappedStores [.Tuple [.Name x px, .Name y py] kt pt] (.Tuple [a, b] k2 pt2) X.env = pure (some [x, y]) := by rfl)
    (hs : swapsWithSole [.Tuple [.Name x px, .Name y py] kt pt] (.Tuple [a, b] k2 pt2) pos.line X.env = pure false := by rfl) (he : starEach [a, b] X.env = (false, eval a X.env) :: starEach [b] X.env := by rfl) (he2 : starEach [b] X.env = (false, eval b X.env) :: starEach [] X.env := by rfl) :
    DS X xn Wx (.Assign [.Tuple [.Name x px, .Name y py] kt pt] (.Tuple [a, b] k2 pt2) pos) (sPar i j fa fb) :=
  PS_imp (ps_par hc hN hi hj hij hx hy (pa_cons (de_v ha) (pa_cons (de_v hb) pa_nil he2) he) hw hs) fun D σ H q => ts_e q fun c e e0 ra v H1 F1 qa r1 rr h => by
    obtain ⟨d, rfl⟩ := vv_still qa
    refine ⟨c.reb F1, e, F1, r1.reb, ?_⟩
    cases qb : vv fb e with
    | bad => simp only [qb, ofE] at h; exact h.elim
    | exc x e1 =>
      simp only [qb, ofE] at h
      exact fun C d H' F' hx r' => h σ H' F' C d hx (r1.unreb r').1
    | ok rb e1 =>
      simp only [qb, ofE] at h
      intro v2 H2 F2 r2 rr2
      obtain ⟨r3, s⟩ := r1.unreb r2
      obtain ⟨d', rfl⟩ := vv_still qb
      exact ⟨v, v2, rfl, h _ H2 F2 ((r3.setFr i (dp_mono s _ _ rr)).setFr j rr2)⟩
/-! ### x op= e at a name -/
def sAug (i : Nat) (g : Int → Int → Int) (f : FE) : FS := fun e => match e[i]? with
  | some (some (.fr (.int a))) => ofE (f e) fun r e1 => (match r with
    | .val (.int b) => .nx (e1.set i (some (.fr (.int (g a b)))))
    | _ => .bad)
  | _ => .bad
theorem ds_aug {i : Nat} {x : Str} {a : Expr} {fa : FE} {op : Operator} {g : Int → Int → Int} {pos' : Pos} (hN : X.N.Nodup) (hi : X.N[i]? = some x) (hx : Loc X.env.scope x) (ho : PIp X op (ipI g)) (ha : DE X xn Wx a fa) (hf : X.fn x = true ∨ X.env.scope.names.lookup x = some .local := by first | exact .inl rfl | exact .inr rfl | assumption) :
    DS X xn Wx (.AugAssign (.Name x pos') op a pos) (sAug i g fa) :=
  PS_imp (ps_aug hN hi hx ha ho hf) fun D σ H ⟨c, e, F, r, h⟩ => by
    unfold sAug at h
    split at h
    · rename_i z q
      obtain ⟨v, h1, h2⟩ := r.fr i _ q
      refine ⟨v, h1, c, e, F, r, ?_⟩
      cases qa : fa e with
      | bad => simp only [qa, ofE] at h; exact h.elim
      | exc x e1 =>
        simp only [qa, ofE] at h
        exact fun C d H' F' hx r' => h σ H' F' C d hx r'
      | ok ra e1 =>
        simp only [qa, ofE] at h
        intro v2 H2 F2 r2 rr2
        cases ra with
        | own j => exact h.elim
        | new w => exact h.elim
        | val d =>
          cases d <;> try (exact h.elim)
          exact ⟨_, _, dp_int_inv h2, dp_int_inv rr2, h _ H2 F2 (r2.setFr i (.int _))⟩
    · exact h.elim
/-! ### xs[i] = e, xs[i] op= e, an own list -/
def sSetIx (fo fi fv : FE) : FS := fun e => ofE (vv fv e) fun rv e1 => ofE (ow fo e1) fun ro e2 => ofE (fi e2) fun ri e3 => match rv, ro, ri with
  | .val d, .own t, .val (.int k) => (match e3[t]? with
    | some (some (.ol p xs)) => (match ixN xs.length k with
      | some j => .nx (e3.set t (some (.ol p (xs.set j d))))
      | none => .bad)
    | _ => .bad)
  | _, _, _ => .bad
theorem ow_own {f : FE} {r : RV} {e e' : Ev} (h : ow f e = .ok r e') : ∃ i, r = .own i := by
  unfold ow at h
  cases q : f e with
  | ok r1 e1 =>
    rw [q] at h
    cases r1 with
    | own i => cases h; exact ⟨i, rfl⟩
    | _ => cases h
  | exc x e1 => rw [q] at h; cases h
  | bad => rw [q] at h; cases h
theorem ds_setIx {o i a : Expr} {fo fi fv : FE} {spos : Pos} (ho : DE X xn Wx o fo) (hi : DE X xn Wx i fi) (hv : DE X xn Wx a fv)
    (ha : ∀ v, assign (.Subscript o i spos) X.env v = (do
      let ov ← holding [v] (eval o X.env)
      let iv ← holding [v, ov] (eval i X.env)
      standAt spos
      holding [v, ov, iv] (setItem ov iv v)
      release [v, ov, iv] []) := by intro _; rfl) (hs : swapsWithSole [.Subscript o i spos] a pos.line X.env = pure false := by rfl) (hw : swappedStores [.Subscript o i spos] a X.env = pure none := by rfl)
    (h1 : (assignEach [.Subscript o i spos] X.env).map (·.2) = [assign (.Subscript o i spos) X.env] := by rfl) : DS X xn Wx (.Assign [.Subscript o i spos] a pos) (sSetIx fo fi fv) :=
  PS_imp (ps_asg (de_v hv) (pg_sub (de_o ho) hi set_list ha) hs hw h1) fun D σ H q => ts_e q fun c e e0 rv v H1 F1 qa r1 rr h => by
    obtain ⟨d, rfl⟩ := vv_still qa
    refine ⟨c.reb F1, e, F1, r1.reb, ?_⟩
    cases qo : ow fo e with
    | bad => simp only [qo, ofE] at h; exact h.elim
    | exc x e1 =>
      simp only [qo, ofE] at h
      exact fun C d H' F' hx r' => h σ H' F' C d hx (r1.unreb r').1
    | ok ro e1 =>
      simp only [qo, ofE] at h
      obtain ⟨t, rfl⟩ := ow_own qo
      intro v2 H2 F2 r2 rr2
      refine ⟨c.reb F1, e1, F2, r2, ?_⟩
      cases qi : fi e1 with
      | bad => simp only [qi] at h; exact h.elim
      | exc x e2 =>
        simp only [qi] at h
        exact fun C d H' F' hx r' => h σ H' F' C d hx (r1.unreb r').1
      | ok ri e2 =>
        simp only [qi] at h
        intro v3 H3 F3 r3 rr3
        obtain ⟨r4, s⟩ := r1.unreb r3
        cases ri with
        | own _ => exact h.elim
        | new _ => exact h.elim
        | val di =>
          cases di <;> try (exact h.elim)
          rename_i k
          simp only at h
          cases qt : e2[t]? with
          | none => simp only [qt] at h; exact h.elim
          | some w0 =>
            cases w0 with
            | none => simp only [qt] at h; exact h.elim
            | some w =>
              cases w with
              | fr _ => simp only [qt] at h; exact h.elim
              | od _ _ => simp only [qt] at h; exact h.elim
              | ol p xs =>
                simp only [qt] at h
                cases qx : ixN xs.length k with
                | none => simp only [qx] at h; exact h.elim
                | some j =>
                  simp only [qx] at h
                  obtain ⟨a, o1, k1, k2, k3, ⟨vs, rfl, k4⟩, k5⟩ := r4.ow t _ qt rfl
                  have e2 : v2 = .ref a := by
                    have := rr2.1
                    rw [k1] at this
                    exact (Option.some.inj (Option.some.inj this)).symm
                  refine ⟨a, vs, k, j, e2, dp_int_inv rr3, k2, by rw [dl_len k4]; exact qx, ?_⟩
                  exact h σ _ F3 (r4.change qt rfl k1 ⟨_, rfl, dl_set (dp_mono s _ _ rr) j k4⟩ rfl rfl)
theorem pget_list : PGet X (fun x y H Q => rIxL X.K x y H Q) := by
  intro pins s σ H x y v u Q I rx ry h
  obtain ⟨p, xs, i, z, rfl, rfl, hq, he, q⟩ := h
  cases rx
  obtain ⟨t, rfl⟩ := ry
  obtain ⟨its, r, pl, hz⟩ := I.list hq
  obtain ⟨j, h1, h2, h3, h4, h5⟩ := atI_get he
  obtain ⟨w, ew, rw'⟩ := r.get h2
  have hl := r.length
  have hn := line63
  have fin : EP X pins σ Q w s := ⟨z, H, I, rw', q⟩
  by_cases h0 : 0 ≤ i
  · have hj : i.toNat = j := by
      rw [seqIndex_of h0 h5] at h1
      exact Option.some.inj h1
    exact wpAny_getItem_list pl.isList h0 (by omega) (by rw [hj]; simpa using ew) fin
  · have hj : (i + (its.toArray.size : Int)).toNat = j := by
      rw [seqIndex_neg (by omega) h4] at h1
      rw [List.size_toArray, ← hl]
      exact Option.some.inj h1
    exact wpAny_getItem_list_neg pl.isList (by omega) (by rw [List.size_toArray]; omega) (by omega) (by rw [hj]; simpa using ew) fin
def sAugIx (g : Int → Int → Int) (fo fi fv : FE) : FS := fun e => ofE (ow fo e) fun ro e1 => ofE (fi e1) fun ri e2 => match ro, ri with
  | .own t, .val (.int k) => (match e2[t]? with
    | some (some (.ol _ xs)) => (match atI xs k with
      | some (.int a) => ofE (fv e2) fun rv e3 => (match rv with
        | .val (.int b) => (match e3[t]? with
          | some (some (.ol p ys)) => (match ixN ys.length k with
            | some j => .nx (e3.set t (some (.ol p (ys.set j (.int (g a b))))))
            | none => .bad)
          | _ => .bad)
        | _ => .bad)
      | _ => .bad)
    | _ => .bad)
  | _, _ => .bad
theorem ds_augIx {op : Operator} {g : Int → Int → Int} {o i a : Expr} {fo fi fv : FE} {tpos : Pos} (hp : PIp X op (ipI g)) (ho : DE X xn Wx o fo) (hi : DE X xn Wx i fi) (hv : DE X xn Wx a fv)
    (ha : ∀ ov iv new, augStore i ov iv new = (do holding [new, ov, iv] (setItem ov iv new); release [new, ov, iv] []; pure .next) := by intros; rfl) : DS X xn Wx (.AugAssign (.Subscript o i tpos) op a pos) (sAugIx g fo fi fv) :=
  PS_imp (ps_augS (de_o ho) hi pget_list hv hp set_list ha) fun D σ H q => ts_e q fun c e e0 ro v H1 F1 qo r1 rr h => by
    obtain ⟨t, rfl⟩ := ow_own qo
    refine ⟨c, e, F1, r1, ?_⟩
    cases qi : fi e with
    | bad => simp only [qi, ofE] at h; exact h.elim
    | exc x e2 =>
      simp only [qi, ofE] at h
      exact fun C d H' F' hx r' => h σ H' F' C d hx r'
    | ok ri e2 =>
      simp only [qi, ofE] at h
      intro v2 H2 F2 r2 rr2
      cases ri with
      | own _ => exact h.elim
      | new _ => exact h.elim
      | val di =>
        cases di <;> try (exact h.elim)
        rename_i k
        simp only at h
        cases qt : e2[t]? with
        | none => simp only [qt] at h; exact h.elim
        | some w0 =>
          cases w0 with
          | none => simp only [qt] at h; exact h.elim
          | some w =>
            cases w with
            | fr _ => simp only [qt] at h; exact h.elim
            | od _ _ => simp only [qt] at h; exact h.elim
            | ol p xs =>
              simp only [qt] at h
              cases qx : atI xs k with
              | none => simp only [qx] at h; exact h.elim
              | some old =>
                cases old <;> try (simp only [qx] at h; exact h.elim)
                rename_i a
                simp only [qx] at h
                obtain ⟨l, o1, k1, k2, k3, ⟨vs, rfl, k4⟩, k5⟩ := r2.ow t _ qt rfl
                have e2' : v = .ref l := by
                  have := rr.1
                  rw [k1] at this
                  exact (Option.some.inj (Option.some.inj this)).symm
                obtain ⟨z, z1, z2⟩ := atI_dl k4 qx
                refine ⟨l, vs, k, z, e2', dp_int_inv rr2, SqL.of k2, z1, c, e2, F2, r2, ?_⟩
                cases qv : fv e2 with
                | bad => simp only [qv] at h; exact h.elim
                | exc x e3 =>
                  simp only [qv] at h
                  exact fun C d H' F' hx r' => h σ H' F' C d hx r'
                | ok rv e3 =>
                  simp only [qv] at h
                  intro v3 H3 F3 r3 rr3
                  cases rv with
                  | own _ => exact h.elim
                  | new _ => exact h.elim
                  | val dv =>
                    cases dv <;> try (exact h.elim)
                    rename_i b
                    simp only at h
                    refine ⟨a, b, dp_int_inv z2, dp_int_inv rr3, ?_⟩
                    cases qt3 : e3[t]? with
                    | none => simp only [qt3] at h; exact h.elim
                    | some w0 =>
                      cases w0 with
                      | none => simp only [qt3] at h; exact h.elim
                      | some w =>
                        cases w with
                        | fr _ => simp only [qt3] at h; exact h.elim
                        | od _ _ => simp only [qt3] at h; exact h.elim
                        | ol p ys =>
                          simp only [qt3] at h
                          cases qj : ixN ys.length k with
                          | none => simp only [qj] at h; exact h.elim
                          | some j =>
                            simp only [qj] at h
                            obtain ⟨l2, o2, m1, m2, m3, ⟨ws, rfl, m4⟩, m5⟩ := r3.ow t _ qt3 rfl
                            rw [k1] at m1
                            cases m1
                            exact ⟨l, ws, k, j, e2', dp_int_inv rr2, m2, by rw [dl_len m4]; exact qj, h σ _ F3 (r3.change qt3 rfl k1 ⟨_, rfl, dl_set (.int (g a b)) j m4⟩ rfl rfl)⟩
/-! ### xs.append(e), xs.pop() -/
def fAppend (fo fv : FE) : FE := fun e => ob (ow fo e) fun ro e1 => ob (vv fv e1) fun rv e2 => match ro, rv with
  | .own t, .val d => (match e2[t]? with
    | some (some (.ol p xs)) => if xs.length < sizeLine then .ok (.val .none) (e2.set t (some (.ol p (xs ++ [d])))) else .bad
    | _ => .bad)
  | _, _ => .bad
end
end DL

namespace DL
open PySem PySem.Spec PyProof.Rows L2
variable [Inhabited Tbx]
section
variable {X : Cx} {xn : XN} {Wx : WX} {pos : Pos}
/-- go on behind an expression, the value's state kept -/
theorem te_of2 {K : PySem.W.Frag} {f : FE} {g : RV → Ev → Out RV} {σ : L2.St} {H : Hp} {Q : VK} {Rk : V → Hp → Prop} (h : tE K xn Wx (fun e => ob (f e) g) σ H Q)
    (k : ∀ (c : C0) (e e0 : Ev) (r : RV) (v : V) (H F : Hp), f e0 = .ok r e → R K c e σ H F → RvAt K c e σ H F r v → tE K xn Wx (fun e => g r e) σ H Q → Rk v H) : tE K xn Wx f σ H Rk := by
  refine te_of h fun c e e0 r v H F q rr rv z => k c e e0 r v H F q rr rv ⟨c, e, F, rr, z⟩
theorem tyV_own {K : PySem.W.Frag} {c : C0} {e : Ev} {σ : L2.St} {H F : Hp} (r : R K c e σ H F) {t : Nat} {p : Bool} {xs : List PyData} {v : V} (h : e[t]? = some (some (Sl.ol p xs))) (hv : σ[t]? = some (some v)) : tyV K "list" v H ∧ ∃ a vs, v = .ref a ∧ H a = some (.lst vs) ∧ DpAll K F vs xs := by
  obtain ⟨a, o, k1, k2, k3, ⟨vs, rfl, k4⟩, k5⟩ := r.ow t _ h rfl
  rw [hv] at k1
  cases k1
  exact ⟨.inl ⟨rfl, vs, SqL.of k2⟩, a, vs, rfl, k2, k4⟩
def listAt (e : Ev) (t : Nat) : Bool := match e[t]? with
  | some (some (.ol _ _)) => true
  | _ => false
def fAppend' (fo fv : FE) : FE := fun e => ob (ow fo e) fun ro e1 => match ro with
  | .own t => if listAt e1 t = true then ob (vv fv e1) fun rv e2 => (match rv with
    | .val d => (match e2[t]? with
      | some (some (.ol p xs)) => if xs.length < sizeLine then .ok (.val .none) (e2.set t (some (.ol p (xs ++ [d])))) else .bad
      | _ => .bad)
    | _ => .bad) else .bad
  | _ => .bad
theorem listAt_get {e : Ev} {t : Nat} (h : listAt e t = true) : ∃ p xs, e[t]? = some (some (Sl.ol p xs)) := by
  unfold listAt at h
  split at h
  · rename_i p xs q; exact ⟨p, xs, q⟩
  · cases h
theorem de_append {o a : Expr} {fo fv : FE} {apos : Pos} (ho : DE X xn Wx o fo) (hv : DE X xn Wx a fv) (hbase : attributeBase o "append" X.env (eval o X.env) = eval o X.env := by rfl)
    (hfew : ((backTo pos (starEach [a] X.env)).all (fun x => !x.1) && (backToKw pos (keywordEach [] X.env)).all (fun x => x.1.isSome)
      && decide ([a].length + ([] : List Keyword).length + (if ([] : List Keyword).isEmpty then 0 else 1) < 30)) = true := by rfl)
    (hline : (apos.endLine == pos.line) = true := by rfl) (hs : starEach [a] X.env = (false, eval a X.env) :: starEach [] X.env := by rfl) (hplain : (backTo pos (starEach [] X.env)).any (·.1) = false := by rfl) : DE X xn Wx (.Call (.Attribute o "append" apos) [a] [] pos) (fAppend' fo fv) :=
  PE_imp (pe_bm PySem.F.plainAttrs_list PySem.F.slot_list_append PySem.F.type_list_append mt_append (de_o ho) (pa_cons (de_v hv) pa_nil hs) hbase hfew hline hs hplain) fun σ H Q q => te_of q fun c e e0 ro v H1 F1 qo r1 rr h => by
    obtain ⟨t, rfl⟩ := ow_own qo
    simp only at h
    by_cases hl : listAt e t = true
    · rw [if_pos hl] at h
      obtain ⟨p0, xs0, hl0⟩ := listAt_get hl
      refine ⟨(tyV_own r1 hl0 rr.1).1, c, e, F1, r1, ?_⟩
      cases qv : vv fv e with
      | bad => simp only [qv, ob] at h
      | exc x e1 => simp only [qv, ob] at h; exact h
      | ok rv e1 =>
        simp only [qv, ob] at h
        intro y H2 F2 r2 rr2
        obtain ⟨d, rfl⟩ := vv_still qv
        simp only at h
        cases qt : e1[t]? with
        | none => simp only [qt] at h
        | some w0 =>
          cases w0 with
          | none => simp only [qt] at h
          | some w =>
            cases w with
            | fr _ => simp only [qt] at h
            | od _ _ => simp only [qt] at h
            | ol p xs =>
              simp only [qt] at h
              by_cases hz : xs.length < sizeLine
              · rw [if_pos hz] at h
                obtain ⟨_, l, vs, e2, k2, k4⟩ := tyV_own r2 qt rr.1
                refine ⟨l, vs, y, e2, rfl, k2, by rw [dl_len k4]; exact hz, ?_⟩
                have ha : σ[t]? = some (some (V.ref l)) := by rw [rr.1, e2]
                exact h _ _ F2 (r2.change qt rfl ha ⟨_, rfl, dl_append k4 (.cons rr2 .nil)⟩ rfl rfl) .non
              · rw [if_neg hz] at h; exact h.elim
    · rw [if_neg hl] at h; exact h.elim
def fPop (fo : FE) : FE := fun e => ob (ow fo e) fun ro e1 => match ro with
  | .own t => (match e1[t]? with
    | some (some (.ol p xs)) => (match xs.getLast? with
      | some d => .ok (.val d) (e1.set t (some (.ol p xs.dropLast)))
      | none => .bad)
    | _ => .bad)
  | _ => .bad
theorem de_pop {o : Expr} {fo : FE} {apos : Pos} (ho : DE X xn Wx o fo) (hbase : attributeBase o "pop" X.env (eval o X.env) = eval o X.env := by rfl) (hline : (apos.endLine == pos.line) = true := by rfl) : DE X xn Wx (.Call (.Attribute o "pop" apos) [] [] pos) (fPop fo) :=
  PE_imp (pe_bm0 PySem.F.plainAttrs_list PySem.F.slot_list_pop PySem.F.type_list_pop mt_pop (de_o ho) hbase hline) fun σ H Q q => te_of q fun c e e0 ro v H1 F1 qo r1 rr h => by
    obtain ⟨t, rfl⟩ := ow_own qo
    simp only at h
    cases qt : e[t]? with
    | none => simp only [qt] at h
    | some w0 =>
      cases w0 with
      | none => simp only [qt] at h
      | some w =>
        cases w with
        | fr _ => simp only [qt] at h
        | od _ _ => simp only [qt] at h
        | ol p xs =>
          simp only [qt] at h
          cases ql : xs.getLast? with
          | none => simp only [ql] at h
          | some d =>
            simp only [ql] at h
            obtain ⟨ty, l, vs, e2, k2, k4⟩ := tyV_own r1 qt rr.1
            rw [List.getLast?_eq_getElem?] at ql
            obtain ⟨y, y1, y2⟩ := dl_get k4 ql
            refine ⟨ty, l, vs, y, e2, rfl, k2, by rw [dl_len k4]; exact y1, ?_⟩
            have ha : σ[t]? = some (some (V.ref l)) := by rw [rr.1, e2]
            exact h _ _ F1 (r1.change qt rfl ha ⟨_, rfl, dl_dropLast k4⟩ rfl rfl) y2

/-! ### what a loop walks -/
/-- J hands out xs, one item a turn, wherever F is kept -/
structure ItOk (K : PySem.W.Frag) (J : It) (xs : List PyData) (F : Hp) : Prop where
  go : ∀ (c : C0) (e : Ev) (σ : L2.St) (H F1 : Hp) (i : Nat) (d : PyData), R K c e σ H F1 → Same F F1 → xs[i]? = some d → J.go i H ∧ ∀ x H2, J.yld i H x H2 → ∃ F2, R K c e σ H2 F2 ∧ Same F1 F2 ∧ Dp K F2 x d
  stop : ∀ (c : C0) (e : Ev) (σ : L2.St) (H F1 : Hp), R K c e σ H F1 → Same F F1 → J.stop xs.length H
abbrev FI := Ev → Out (List PyData)
def tI (K : PySem.W.Frag) (xn : XN) (Wx : WX) (f : FI) : TI := fun σ H Rk => ∃ c e F, R K c e σ H F ∧ match f e with
  | .ok xs e' => ∀ J H' F', R K c e' σ H' F' → ItOk K J xs F' → Rk J H'
  | .exc x e' => PostX K c e' σ xn Wx x
  | .bad => False
abbrev DI (X : Cx) (xn : XN) (Wx : WX) (tg ex : Expr) (f : FI) : Prop := PI X tg ex (tI X.K xn Wx f)
theorem PI_or {tg ex : Expr} {t t' : TI} (h : PI X tg ex t) (h' : PI X tg ex t') : PI X tg ex (fun σ H Rk => t σ H Rk ∨ t' σ H Rk) := ⟨fun pins s σ H Rk I q => by
  rcases q with q | q
  · exact h.run pins s σ H Rk I q
  · exact h'.run pins s σ H Rk I q⟩
/-- a list or a tuple that has come, walked -/
def tySeq (K : PySem.W.Frag) (tl : TE) : TI := fun σ H Rk => tl σ H fun x H1 => (∃ a, x = .ref a ∧ (∃ xs, SqL K H1 a xs) ∧ Rk (Itl K a) H1) ∨ (∃ a, x = .ref a ∧ (∃ xs, SqT K H1 a xs) ∧ Rk (Itt K a) H1) ∨ ∃ z, x = .str z ∧ Rk (Its z) H1
theorem pi_seq {tg l : Expr} {tl : TE} (hl : PE X l tl) : PI X tg l (tySeq X.K tl) := by
  refine ⟨fun pins s σ H R I h => ?_⟩
  have mk : ∀ {tl' : TE}, (∀ pins s σ H Q, Inv X pins σ H s → tl' σ H Q → wpAny (model X.prog X.w) X.A (eval l X.env) (EP X pins σ Q) X.xe s) → PE X l tl' := fun h => ⟨h⟩
  refine thn (hl.run pins s σ H _ I h) fun v s1 ⟨x, H1, I1, r1, q1⟩ => ?_
  rcases q1 with ⟨a, e, ⟨xs, hq⟩, q⟩ | ⟨a, e, ⟨xs, hq⟩, q⟩ | ⟨z, e, q⟩
  · subst e
    cases r1
    obtain ⟨its, rv, p, hz⟩ := I1.list hq
    refine wpAny_pyIter_list p.isList ?_
    refine ⟨s1.heap.objs.size, [s1.heap.objs.size], _, _, H1, rfl, I1.kept (t' := s1.toks) fun b o e => Heap.get?_push_of_some _ e, turn_list a _, ⟨_, Heap.get?_push_size _ rfl, rfl, rfl⟩, fun b hb => ?_, q⟩
    have e : b = s1.heap.objs.size := by simpa using hb
    subst e
    exact I1.fpOk (Nat.le_refl _) (I1.hok.fresh (Nat.le_refl _))
  · subst e
    cases r1
    obtain ⟨its, rv, p, hz⟩ := I1.tuple hq
    refine wpAny_pyIter_tuple (show s1.heap.IsTuple a its.toArray from p) ?_
    refine ⟨s1.heap.objs.size, [s1.heap.objs.size], _, _, H1, rfl, I1.kept (t' := s1.toks) fun b o e => Heap.get?_push_of_some _ e, turn_tuple a _, ⟨_, Heap.get?_push_size _ rfl, rfl, rfl⟩, fun b hb => ?_, q⟩
    have e : b = s1.heap.objs.size := by simpa using hb
    subst e
    exact I1.fpOk (Nat.le_refl _) (I1.hok.fresh (Nat.le_refl _))
  · subst e
    obtain ⟨t, rfl⟩ := r1
    cases ha : z.cps.all (· < 128)
    · exact wpAny_pyIter_wide ha (pi_one (tk := s1.toks) I1 _ (turn_str _ z t "str_iterator" (.inr rfl)) ⟨_, Heap.get?_push_size _ rfl, rfl, rfl⟩ q)
    · exact wpAny_pyIter_ascii ha (pi_one (tk := s1.toks) I1 _ (turn_str _ z t "str_ascii_iterator" (.inl rfl)) ⟨_, Heap.get?_push_size _ rfl, rfl, rfl⟩ q)
end
end DL

namespace DL
open PySem PySem.Spec PyProof.Rows L2
variable [Inhabited Tbx]
/-! ### enumerate and zip over lists and tuples -/
inductive Kd where
  | l | t
def Kd.at (k : Kd) (h : Heap) (it a : Addr) (i : Nat) : Prop := match k with
  | .l => h.IsListIter it a i
  | .t => h.IsTupleIter it a i
def Kd.ob (k : Kd) (h : Heap) (a : Addr) (its : Array Value) : Prop := match k with
  | .l => h.IsList a its
  | .t => h.IsTuple a its
def Kd.sq (k : Kd) (K : PySem.W.Frag) (H : Hp) (a : Addr) (xs : List V) : Prop := match k with
  | .l => SqL K H a xs
  | .t => SqT K H a xs
def Kd.obj (k : Kd) (a : Addr) : Obj := match k with
  | .l => { cls := .type "list_iterator", data := .fields #[.ref a, .int 0 0] }
  | .t => { cls := .type "tuple_iterator", data := .fields #[.ref a, .int 0 0] }
theorem kd_draws {prog : Program} {w : World} {A : Around} (k : Kd) (hh : A.handled = none) (it a : Addr) (hne : a ≠ it) (its : Array Value) : Draws prog w A it [it, a] its.size (fun i v => its[i]? = some v) (fun i h => k.at h it a i ∧ k.ob h a its) := by
  cases k
  · exact Draws.list hh it a hne its
  · exact Draws.tuple hh it a hne its
theorem kd_begins (k : Kd) (a : Addr) (its : Array Value) : Begins (.ref a) (k.obj a) (fun h => k.ob h a its) := by
  cases k
  · exact begins_list a its
  · exact begins_tuple a its
theorem Kd.started (k : Kd) {h : Heap} {it a : Addr} (e : h.get? it = some (k.obj a)) : k.at h it a 0 := by
  cases k
  · exact ⟨_, e, rfl, rfl⟩
  · exact ⟨_, e, rfl, rfl⟩
theorem Kd.rec_ (k : Kd) {h : Heap} {it a : Addr} {i : Nat} (st : k.at h it a i) : ∃ o, h.get? it = some o ∧ ∀ v, o.data ≠ .cell v := by
  cases k
  · obtain ⟨o, ho, hc, hd⟩ := st; exact ⟨o, ho, fun v q => by rw [hd] at q; cases q⟩
  · obtain ⟨o, ho, hc, hd⟩ := st; exact ⟨o, ho, fun v q => by rw [hd] at q; cases q⟩
theorem Kd.move (k : Kd) {h h' : Heap} {it a : Addr} {i : Nat} (st : k.at h it a i) (e : ∀ o, h.get? it = some o → h'.get? it = some o) : k.at h' it a i := by
  cases k
  · obtain ⟨o, ho, r⟩ := st; exact ⟨o, e o ho, r⟩
  · obtain ⟨o, ho, r⟩ := st; exact ⟨o, e o ho, r⟩
theorem Kd.read (k : Kd) {X : Cx} {pins : List (Addr × Obj)} {σ : L2.St} {H : Hp} {s : Shared} {a : Addr} {xs : List V} (I : Inv X pins σ H s) (h : k.sq X.K H a xs) : ∃ its : List Value, Vals xs its ∧ k.ob s.heap a its.toArray ∧ a < s.heap.objs.size := by
  cases k
  · obtain ⟨its, rv, p, hz⟩ := I.list h; exact ⟨its, rv, p.isList, p.lt⟩
  · obtain ⟨its, rv, p, hz⟩ := I.tuple h
    exact ⟨its, rv, p, let ⟨o, ho, _⟩ := p; Heap.lt_size ho⟩
theorem Kd.inj (k : Kd) {X : Cx} {pins : List (Addr × Obj)} {σ : L2.St} {H : Hp} {s : Shared} {a : Addr} {xs ys : List V} (I : Inv X pins σ H s) (h : k.sq X.K H a xs) (h' : k.sq X.K H a ys) : xs = ys := by
  cases k
  · exact I.list_inj h h'
  · exact I.tuple_inj h h'
/-- what stands at turn i, told as the items of a new tuple -/
def ItP (G : Nat → Hp → List V → Prop) (S : Nat → Hp → Prop) : It := ⟨fun i H => ∃ vs, G i H vs, fun i H v H' => ∃ T vs, v = .ref T ∧ H T = none ∧ H' = upd H T (.tup vs) ∧ G i H vs ∧ ∀ ws, G i H ws → vs = ws, S⟩
def GEn (K : PySem.W.Frag) (k : Kd) (a : Addr) : Nat → Hp → List V → Prop := fun i H vs => ∃ xs x, k.sq K H a xs ∧ xs[i]? = some x ∧ vs = [.int (i : Nat), x]
def SEn (K : PySem.W.Frag) (k : Kd) (a : Addr) : Nat → Hp → Prop := fun i H => ∃ xs, k.sq K H a xs ∧ xs.length = i
theorem turn_enumK {P : Program} {w : World} {K : PySem.W.Frag} {elts : List Expr} {kk : Nat} {tpos : Pos} (k : Kd) (a e it : Addr) :
    Turn P w K (.Tuple elts kk tpos) (ItP (GEn K k a) (SEn K k a)) [e, it] e (fun i h => (∃ old, IsEnum h e it ((i : Nat) : Int) old) ∧ k.at h it a i ∧ e ≠ it ∧ a ≠ it ∧ a ≠ e) where
  mem := by simp
  obj := fun i h st b hb => by
    obtain ⟨⟨old, he⟩, hi, _⟩ := st
    have e' : b = e ∨ b = it := by simpa using hb
    rcases e' with z | z
    · rw [z]; exact ⟨_, he, fun v q => nomatch q⟩
    · rw [z]; exact k.rec_ hi
  keep := fun i h h' st kp => let ⟨⟨old, he⟩, hi, hne, r⟩ := st; ⟨⟨old, kp e (by simp) _ he⟩, k.move hi fun o q => kp it (by simp) o q, hne, r⟩
  item := by
    intro X hP hw hK hc i pins s σ H E I hf st hg
    subst hP hw hK
    obtain ⟨⟨old, he⟩, hit, hne, na, nae⟩ := st
    obtain ⟨vs0, xs, x, hq, hx, rfl⟩ := hg
    obtain ⟨its, rv, p, hz⟩ := k.read I hq
    obtain ⟨u, hu, ru⟩ := rv.get hx
    have hel : e < s.heap.objs.size := Heap.lt_size he
    have hil : it < s.heap.objs.size := by obtain ⟨_, q, _⟩ := k.rec_ hit; exact Heap.lt_size q
    have hef : e ∉ [it, a] := by
      intro hm
      rcases List.mem_cons.mp hm with z | z
      · exact hne z
      · rcases List.mem_cons.mp z with z | z
        · exact nae z.symm
        · cases z
    have hlt : i < its.toArray.size := by
      have := (List.getElem?_eq_some_iff.mp hu).1
      simpa using this
    refine wpAny_pyNext_enum_itemD (kd_draws (A := X.A.in1) k (I.ok.hd hc) it a na its.toArray) he ⟨hit, p⟩ hlt hne hef fun u' h' tk hu' ho st' hT hsz hk => ?_
    have e1 : u' = u := by
      have q : its[i]? = some u' := by simpa using hu'
      rw [hu] at q; exact (Option.some.inj q).symm
    subst e1
    refine ⟨_, rfl, wpAny_letOwnedTupleGo_enum (s := { s with heap := h', toks := tk + 1 }) ho fun h'' he' sb => ?_⟩
    have hT2 : h''.get? s.heap.objs.size = some { cls := .type "tuple", data := .seq #[.int i tk, u'] } := (sb.2 _ (Nat.ne_of_gt hel)).trans hT
    have new : ObjOk X.prog X.w (upd H s.heap.objs.size (.tup [.int (i : Nat), x])) h'' s.heap.objs.size (.tup [.int (i : Nat), x]) :=
      ⟨by show 2 ≤ sizeLine; decide, [.int i tk, u'], .cons ⟨_, rfl⟩ (.cons ru .nil), ⟨_, hT2, rfl, _, rfl⟩⟩
    have I1 : Inv X pins σ (upd H s.heap.objs.size (.tup [.int (i : Nat), x])) { s with heap := h'', toks := tk + 1 } :=
      I.turnedNew (ch := [e, it]) (fun b ob hb q => (sb.2 b (fun z => hb (by simp [z]))).trans (hk b ob (fun z => hb (by simp [z])) (fun z => hb (by simp [z])) q)) hf (Nat.le_refl _) new
    refine ⟨.ref s.heap.objs.size, _, I1, rfl, ⟨_, _, rfl, I.hok.fresh (Nat.le_refl _), rfl, ⟨xs, x, hq, hx, rfl⟩, fun ws hw => ?_⟩, ⟨⟨u', ?_⟩, k.move st'.1 fun o q => (sb.2 it (Ne.symm hne)).trans q, hne, na, nae⟩, fun b hb => ?_⟩
    · obtain ⟨ys, y, hy, hy2, rfl⟩ := hw
      rw [k.inj I hy hq, hx] at hy2
      cases hy2
      rfl
    · have e1 : ((i + 1 : Nat) : Int) = (i : Int) + 1 := by omega
      rw [e1]; exact he'
    · have hb' : b < s.heap.objs.size := by
        have e' : b = e ∨ b = it := by simpa using hb
        rcases e' with z | z
        · rw [z]; exact hel
        · rw [z]; exact hil
      rw [upd_ne (Nat.ne_of_lt hb')]
      exact (hf b hb).1
  done := by
    intro X hP hw hK hc i pins s σ H E I hf st hg
    subst hP hw hK
    obtain ⟨⟨old, he⟩, hit, hne, na, nae⟩ := st
    obtain ⟨xs, hq, hx⟩ := hg
    obtain ⟨its, rv, p, hz⟩ := k.read I hq
    obtain ⟨f0, f1, f2, f3, f4, f5⟩ := hf it (by simp)
    have hl := rv.length
    have hst : k.at s.heap it a its.toArray.size := by
      have e1 : its.toArray.size = i := by simp; omega
      rw [e1]; exact hit
    exact wpAny_pyNext_enum_endD (kd_draws (A := X.A.in1) k (I.ok.hd hc) it a na its.toArray) he ⟨hst, p⟩ fun h' eb => ⟨rfl, I.turned (t' := s.toks) (fun b o hb e => eb b o hb e) f0 f1 f3 f4 f5⟩
  self := fun A i s Q E st h => let ⟨⟨_, he⟩, _⟩ := st; wpAny_pyIter_enum he h
def GZip (K : PySem.W.Frag) (k1 k2 : Kd) (a b : Addr) : Nat → Hp → List V → Prop := fun i H vs => ∃ xs ys x y, k1.sq K H a xs ∧ k2.sq K H b ys ∧ xs[i]? = some x ∧ ys[i]? = some y ∧ vs = [x, y]
def SZip (K : PySem.W.Frag) (k1 k2 : Kd) (a b : Addr) : Nat → Hp → Prop := fun i H => ∃ xs ys, k1.sq K H a xs ∧ k2.sq K H b ys ∧ i ≤ xs.length ∧ i ≤ ys.length ∧ (i = xs.length ∨ i = ys.length)
theorem turn_zipK {P : Program} {w : World} {K : PySem.W.Frag} {elts : List Expr} {kk : Nat} {tpos : Pos} (k1 k2 : Kd) {a b z TI TO i1 i2 : Addr} (S : ZipSep2 z TI TO i1 i2 [i1, a] [i2, b]) :
    Turn P w K (.Tuple elts kk tpos) (ItP (GZip K k1 k2 a b) (SZip K k1 k2 a b)) [z, TI, TO, i1, i2] z (fun i h => IsZip h z TI TO .none ∧ IsTupOf2 h TI (.ref i1) (.ref i2) ∧ (∃ x y, IsTupOf2 h TO x y) ∧ k1.at h i1 a i ∧ k2.at h i2 b i ∧ a ≠ i1 ∧ b ≠ i2) where
  mem := by simp
  obj := fun i h st c hc => by
    obtain ⟨hz, hTI, ⟨x, y, hTO⟩, s1, s2, _⟩ := st
    have e' : c = z ∨ c = TI ∨ c = TO ∨ c = i1 ∨ c = i2 := by simpa using hc
    rcases e' with q | q | q | q | q
    · rw [q]; exact ⟨_, hz, fun v q => nomatch q⟩
    · rw [q]; exact ⟨_, hTI, fun v q => nomatch q⟩
    · rw [q]; exact ⟨_, hTO, fun v q => nomatch q⟩
    · rw [q]; exact k1.rec_ s1
    · rw [q]; exact k2.rec_ s2
  keep := fun i h h' st kp => by
    obtain ⟨hz, hTI, ⟨x, y, hTO⟩, s1, s2, r⟩ := st
    exact ⟨kp z (by simp) _ hz, kp TI (by simp) _ hTI, ⟨x, y, kp TO (by simp) _ hTO⟩, k1.move s1 fun o q => kp i1 (by simp) o q, k2.move s2 fun o q => kp i2 (by simp) o q, r⟩
  item := by
    intro X hP hw hK hc i pins s σ H E I hf st hg
    subst hP hw hK
    obtain ⟨hz, hTI, ⟨x0, y0, hTO⟩, s1, s2, n1, n2⟩ := st
    obtain ⟨vs0, xs, ys, x, y, hqx, hqy, hx, hy, rfl⟩ := hg
    obtain ⟨its, rv, p, _⟩ := k1.read I hqx
    obtain ⟨its2, rv2, p2, _⟩ := k2.read I hqy
    obtain ⟨u, hu, ru⟩ := rv.get hx
    obtain ⟨u2, hu2, ru2⟩ := rv2.get hy
    have hzl : z < s.heap.objs.size := Heap.lt_size hz
    have l1 : i < its.toArray.size := by
      have := (List.getElem?_eq_some_iff.mp hu).1
      simpa using this
    have l2 : i < its2.toArray.size := by
      have := (List.getElem?_eq_some_iff.mp hu2).1
      simpa using this
    refine wpAny_pyNext_zipD2_item S (kd_draws (A := X.A.in1) k1 (I.ok.hd hc) i1 a n1 its.toArray) (kd_draws (A := X.A.in1) k2 (I.ok.hd hc) i2 b n2 its2.toArray) hz hTI hTO ⟨s1, p⟩ ⟨s2, p2⟩ l1 l2
      fun v1 v2 h' tk hv1 hv2 z' TO' h1' h2' hT hsz hk => ?_
    have e1 : v1 = u := by
      have q : its[i]? = some v1 := by simpa using hv1
      rw [hu] at q; exact (Option.some.inj q).symm
    have e2 : v2 = u2 := by
      have q : its2[i]? = some v2 := by simpa using hv2
      rw [hu2] at q; exact (Option.some.inj q).symm
    subst e1 e2
    refine ⟨_, rfl, wpAny_letOwnedTupleGo_zip (s := { s with heap := h', toks := tk }) z' fun h'' z'' sb => ?_⟩
    have hT2 : h''.get? s.heap.objs.size = some { cls := .type "tuple", data := .seq #[v1, v2] } := (sb.2 _ (Nat.ne_of_gt hzl)).trans hT
    have new : ObjOk X.prog X.w (upd H s.heap.objs.size (.tup [x, y])) h'' s.heap.objs.size (.tup [x, y]) :=
      ⟨by show 2 ≤ sizeLine; decide, [v1, v2], .cons ru (.cons ru2 .nil), ⟨_, hT2, rfl, _, rfl⟩⟩
    have I1 : Inv X pins σ (upd H s.heap.objs.size (.tup [x, y])) { s with heap := h'', toks := tk } :=
      I.turnedNew (t' := tk) (ch := [z, TI, TO, i1, i2]) (fun c o hb q => (sb.2 c (fun q' => hb (by simp [q']))).trans (hk c o (fun q' => hb (by simp [q'])) (fun q' => hb (by simp [q'])) (fun q' => hb (by simp [q'])) (fun q' => hb (by simp [q'])) q)) hf (Nat.le_refl _) new
    have ne1 : i1 ≠ z := S.zi1.symm
    have ne2 : i2 ≠ z := S.zi2.symm
    refine ⟨.ref s.heap.objs.size, _, I1, rfl, ⟨_, _, rfl, I.hok.fresh (Nat.le_refl _), rfl, ⟨xs, ys, x, y, hqx, hqy, hx, hy, rfl⟩, fun ws hw => ?_⟩, ⟨z'', ?_, ⟨v1, v2, ?_⟩, ?_, ?_, n1, n2⟩, fun c hcm => ?_⟩
    · obtain ⟨xs', ys', x', y', q1, q2, q3, q4, rfl⟩ := hw
      rw [k1.inj I q1 hqx, hx] at q3
      rw [k2.inj I q2 hqy, hy] at q4
      cases q3
      cases q4
      rfl
    · exact (sb.2 _ S.TIz).trans (hk _ _ S.TIz S.TITO S.TIi1 S.TIi2 hTI)
    · exact (sb.2 _ S.TOz).trans TO'
    · exact k1.move h1'.1 fun o q => (sb.2 _ ne1).trans q
    · exact k2.move h2'.1 fun o q => (sb.2 _ ne2).trans q
    · have hlt : c < s.heap.objs.size := by
        have e' : c = z ∨ c = TI ∨ c = TO ∨ c = i1 ∨ c = i2 := by simpa using hcm
        rcases e' with q | q | q | q | q
        · rw [q]; exact hzl
        · rw [q]; exact Heap.lt_size hTI
        · rw [q]; exact Heap.lt_size hTO
        · rw [q]; obtain ⟨_, e1, _⟩ := k1.rec_ s1; exact Heap.lt_size e1
        · rw [q]; obtain ⟨_, e2, _⟩ := k2.rec_ s2; exact Heap.lt_size e2
      rw [upd_ne (Nat.ne_of_lt hlt)]
      exact (hf c hcm).1
  done := by
    intro X hP hw hK hc i pins s σ H E I hf st hg
    subst hP hw hK
    obtain ⟨hz, hTI, ⟨x0, y0, hTO⟩, s1, s2, n1, n2⟩ := st
    obtain ⟨xs, ys, hqx, hqy, le1, le2, hend⟩ := hg
    obtain ⟨its, rv, p, _⟩ := k1.read I hqx
    obtain ⟨its2, rv2, p2, _⟩ := k2.read I hqy
    have l1 := rv.length
    have l2 := rv2.length
    have z1 : its.toArray.size = xs.length := by simp; omega
    have z2 : its2.toArray.size = ys.length := by simp; omega
    exact wpAny_pyNext_zipD2_end S (kd_draws (A := X.A.in1) k1 (I.ok.hd hc) i1 a n1 its.toArray) (kd_draws (A := X.A.in1) k2 (I.ok.hd hc) i2 b n2 its2.toArray) hz hTI hTO ⟨s1, p⟩ ⟨s2, p2⟩ (by omega) (by omega) (by omega) fun h' tk hk => ⟨rfl, I.turnedL (t' := tk) (ch := [z, TI, TO, i1, i2]) (fun c o hb q =>
      hk c o (fun q' => hb (by simp [q'])) (fun q' => hb (by simp [q'])) (fun q' => hb (by simp [q'])) (fun q' => hb (by simp [q'])) q) hf⟩
  self := fun A i s Q E st h => wpAny_pyIter_zip st.1 h
theorem meets_enumB1 {v : Value} {o : Obj} {H : Heap → Prop} (B : Begins v o H) :
    Meets (Builtin.«enumerate.__new__» ⟨[.type "enumerate", v], []⟩) (fun _ R s => H s.heap ∧
      R (.ok (.ret (.ref (s.heap.push o).objs.size))) { s with heap := (s.heap.push o).push { cls := .type "enumerate", data := .fields #[.none, .bool false, .ref s.heap.objs.size, rawInt 0, .none, .none] } }) :=
  .of_wp fun prog w A R s h => by
    obtain ⟨hp, g, d, tk, os⟩ := s; obtain ⟨h1, h⟩ := h
    have hsub := sub_enumerate
    have q1 : ∀ {A' : Around} {E : Value → Shared → Prop} {Q : Value → Shared → Prop}, Q (.ref hp.objs.size) ⟨hp.push o, g, d, tk, os⟩ → wpAny (model prog w) A' (pyIter v) Q E ⟨hp, g, d, tk, os⟩ :=
      fun q => B.iter prog w _ _ ⟨hp, g, d, tk, os⟩ _ h1 q
    wp_walk
    refine wpAny_stack_any fun st => wpAny_pure ?_
    split
    · rename_i c _ _ _ _ _
      cases (c == Value.type "enumerate")
      · wp_walk using q1
        exact ⟨_, rfl, h⟩
      · wp_walk using q1
        exact ⟨_, rfl, h⟩
    · wp_walk using q1
      exact ⟨_, rfl, h⟩
section
variable {prog : Program} {w : World} {A : Around} {E : Value → Shared → Prop} {s : Shared}
theorem enum_begins1 {v : Value} {o : Obj} {H : Heap → Prop} {Q : Value → Shared → Prop} (B : Begins v o H) (h1 : H s.heap)
    (h : ∀ h', IsEnum h' (s.heap.objs.size + 1) s.heap.objs.size 0 .none → h'.get? s.heap.objs.size = some o → h'.objs.size = s.heap.objs.size + 2 →
      (∀ b o, s.heap.get? b = some o → h'.get? b = some o) → Q (.ref (s.heap.objs.size + 1)) { s with heap := h' }) :
    wpAny (model prog w) A (call (.type "enumerate") [v]) Q E s := by
  refine callType_new F.called_enumerate (by decide) (F.typeCall_enumerate_1 _) (F.newCall_enumerate_1 _) (fun obj => F.args_object_init_2 obj _) F.entry_enumerate_new
    (meets_enumB1 B) ⟨h1, ?_⟩
  have hz : (s.heap.push o).objs.size = s.heap.objs.size + 1 := Heap.size_push ..
  show _ ∧ _
  rw [hz]
  have he : IsEnum ((s.heap.push o).push { cls := .type "enumerate", data := .fields #[.none, .bool false, .ref s.heap.objs.size, rawInt 0, .none, .none] }) (s.heap.objs.size + 1) s.heap.objs.size 0 .none := by
    have := Heap.get?_push_size (s.heap.push o) (o := { cls := .type "enumerate", data := .fields #[.none, .bool false, .ref s.heap.objs.size, rawInt 0, .none, .none] }) rfl
    rw [hz] at this; exact this
  refine ⟨⟨_, he, rfl⟩, h _ he (Heap.get?_push_of_some _ (Heap.get?_push_size _ B.free)) (by rw [Heap.size_push, hz]) fun b o x => Heap.get?_push_of_some _ (Heap.get?_push_of_some _ x)⟩
end
theorem Kd.readIt (k : Kd) {X : Cx} {pins : List (Addr × Obj)} {σ : L2.St} {H : Hp} {s : Shared} {a : Addr} {xs : List V} (I : Inv X pins σ H s) (h : k.sq X.K H a xs) : ∃ its : Array Value, k.ob s.heap a its ∧ a < s.heap.objs.size :=
  let ⟨its, _, p, hl⟩ := k.read I h; ⟨its.toArray, p, hl⟩
section
variable {X : Cx} {tpos : Pos} {elts : List Expr} {kk : Nat}
/-- enumerate(xs) -/
def iEnK (K : PySem.W.Frag) (ta : TA) : TI := fun σ H R => ta σ H fun vs H1 => ∃ (k : Kd) (a : Addr) (xs : List V), vs = [.ref a] ∧ k.sq K H1 a xs ∧ R (ItP (GEn K k a) (SEn K k a)) H1
theorem pi_enK {e : Expr} {ta : TA} {p pos : Pos} (hg : Gl X "enumerate") (hm : X.mg "enumerate" = none) (ha : PA X [e] ta) (hs : starEach [e] X.env = [(false, eval e X.env)] := by rfl) :
    PI X (.Tuple elts kk tpos) (.Call (.Name "enumerate" p) [e] [] pos) (iEnK X.K ta) := by
  refine ⟨fun pins s σ H R I h => ?_⟩
  refine Call_ (ld_blt I hg hm boot_enumerate (PyProof.Rows.callWith_type1 (thn (ha.run pos pins s σ H _ I h) fun us s1 ⟨vs, H1, I1, r1, q1⟩ => ?_) hs rfl))
  obtain ⟨k, a, xs, rfl, hq, q⟩ := q1
  cases r1 with
  | cons r rr =>
    cases rr
    cases r
    obtain ⟨its, p, hl⟩ := k.readIt I1 hq
    refine enum_begins1 (kd_begins k a its) p fun h' he h1 hsz hk => wpAny_pyIter_enum he ?_
    have I2 : Inv X pins σ H1 { s1 with heap := h' } := I1.kept (t' := s1.toks) hk
    refine ⟨s1.heap.objs.size + 1, [s1.heap.objs.size + 1, s1.heap.objs.size], _, _, H1, rfl, I2, turn_enumK k a (s1.heap.objs.size + 1) s1.heap.objs.size, ⟨⟨_, he⟩, k.started h1, Nat.succ_ne_self _, Nat.ne_of_lt hl, Nat.ne_of_lt (Nat.lt_succ_of_lt hl)⟩, fun b hb => ?_, q⟩
    have hle : s1.heap.objs.size ≤ b := by
      have e' : b = s1.heap.objs.size + 1 ∨ b = s1.heap.objs.size := by simpa using hb
      rcases e' with z | z
      · rw [z]; exact Nat.le_succ _
      · rw [z]; exact Nat.le_refl _
    exact I1.fpOk hle (I1.hok.fresh hle)
/-- zip(xs, ys) -/
def iZipK (K : PySem.W.Frag) (ta : TA) : TI := fun σ H R => ta σ H fun vs H1 => ∃ (k1 k2 : Kd) (a b : Addr) (xs ys : List V), vs = [.ref a, .ref b] ∧ k1.sq K H1 a xs ∧ k2.sq K H1 b ys ∧ R (ItP (GZip K k1 k2 a b) (SZip K k1 k2 a b)) H1
theorem pi_zipK {e e2 : Expr} {ta : TA} {p pos : Pos} (hg : Gl X "zip") (hm : X.mg "zip" = none) (ha : PA X [e, e2] ta)
    (hs : starEach [e, e2] X.env = (false, eval e X.env) :: starEach [e2] X.env := by rfl) (hpl : (backTo pos (starEach [e2] X.env)).any (·.1) = false := by rfl) :
    PI X (.Tuple elts kk tpos) (.Call (.Name "zip" p) [e, e2] [] pos) (iZipK X.K ta) := by
  refine ⟨fun pins s σ H R I h => ?_⟩
  refine Call_ (ld_blt I hg hm PyProof.Rows.boot_zip (PyProof.Rows.callWith_type1 (thn (ha.run pos pins s σ H _ I h) fun us s1 ⟨vs, H1, I1, r1, q1⟩ => ?_) hs hpl))
  obtain ⟨k1, k2, a, b, xs, ys, rfl, hqx, hqy, q⟩ := q1
  cases r1 with
  | cons r rr =>
    cases rr with
    | cons r' rr =>
      cases rr
      cases r
      cases r'
      have fresh5 : ∀ c, c ∈ [s1.heap.objs.size + 4, s1.heap.objs.size + 2, s1.heap.objs.size + 3, s1.heap.objs.size, s1.heap.objs.size + 1] → FpOk X pins H1 c := fun c hcm => by
        have e' : c = s1.heap.objs.size + 4 ∨ c = s1.heap.objs.size + 2 ∨ c = s1.heap.objs.size + 3 ∨ c = s1.heap.objs.size ∨ c = s1.heap.objs.size + 1 := by simpa using hcm
        have hle : s1.heap.objs.size ≤ c := by
          rcases e' with z | z | z | z | z
          · rw [z]; exact Nat.le_add_right _ _
          · rw [z]; exact Nat.le_add_right _ _
          · rw [z]; exact Nat.le_add_right _ _
          · rw [z]; exact Nat.le_refl _
          · rw [z]; exact Nat.le_add_right _ _
        exact I1.fpOk hle (I1.hok.fresh hle)
      obtain ⟨its, p1, l1⟩ := k1.readIt I1 hqx
      obtain ⟨its2, p2, l2⟩ := k2.readIt I1 hqy
      refine zip_begins2 (kd_begins k1 a its) (kd_begins k2 b its2) p1 p2 fun h' hz hTI hTO h1 h2 hsz hk => wpAny_pyIter_zip hz ?_
      have I2 : Inv X pins σ H1 { s1 with heap := h' } := I1.kept (t' := s1.toks) hk
      have S : ZipSep2 (s1.heap.objs.size + 4) (s1.heap.objs.size + 2) (s1.heap.objs.size + 3) s1.heap.objs.size (s1.heap.objs.size + 1) [s1.heap.objs.size, a] [s1.heap.objs.size + 1, b] :=
        zip_sep2 (fun c hc => by rw [List.mem_singleton.mp hc]; exact l1) (fun c hc => by rw [List.mem_singleton.mp hc]; exact l2)
      exact ⟨s1.heap.objs.size + 4, [s1.heap.objs.size + 4, s1.heap.objs.size + 2, s1.heap.objs.size + 3, s1.heap.objs.size, s1.heap.objs.size + 1], _, _, H1, rfl, I2, turn_zipK k1 k2 S,
        ⟨hz, hTI, ⟨_, _, hTO⟩, k1.started h1, k2.started h2, Nat.ne_of_lt l1, Nat.ne_of_lt (Nat.lt_succ_of_lt l2)⟩, fresh5, q⟩
end
end DL

namespace DL
open PySem PySem.Spec PyProof.Rows L2
variable [Inhabited Tbx]
section
variable {X : Cx} {xn : XN} {Wx : WX} {pos : Pos} {tg : Expr}
/-! ### what is walked -/
theorem ti_of {K : PySem.W.Frag} {f : FE} {g : RV → Ev → Out (List PyData)} {σ : L2.St} {H : Hp} {Q : It → Hp → Prop} {Rk : V → Hp → Prop} (h : tI K xn Wx (fun e => ob (f e) g) σ H Q)
    (k : ∀ (c : C0) (e e0 : Ev) (r : RV) (v : V) (H F : Hp), f e0 = .ok r e → R K c e σ H F → RvAt K c e σ H F r v → (match g r e with
      | .ok xs e' => ∀ J H' F', R K c e' σ H' F' → ItOk K J xs F' → Q J H'
      | .exc x e' => PostX K c e' σ xn Wx x
      | .bad => False) → Rk v H) : tE K xn Wx f σ H Rk := by
  obtain ⟨c, e, F, r, h⟩ := h
  refine ⟨c, e, F, r, ?_⟩
  cases qa : f e with
  | bad => simp only [qa, ob] at h
  | exc x e1 => simp only [qa, ob] at h; exact h
  | ok b e1 =>
    simp only [qa, ob] at h
    exact fun v H' F' r' rv => k c e1 e b v H' F' qa r' rv h
theorem ti_ofA {K : PySem.W.Frag} {f : FA} {g : List RV → Ev → Out (List PyData)} {σ : L2.St} {H : Hp} {Q : It → Hp → Prop} {Rk : List V → Hp → Prop} (h : tI K xn Wx (fun e => ob (f e) g) σ H Q)
    (k : ∀ (c : C0) (e e0 : Ev) (rs : List RV) (vs : List V) (H F : Hp), f e0 = .ok rs e → R K c e σ H F → RvsAt K c e σ H F rs vs → (match g rs e with
      | .ok xs e' => ∀ J H' F', R K c e' σ H' F' → ItOk K J xs F' → Q J H'
      | .exc x e' => PostX K c e' σ xn Wx x
      | .bad => False) → Rk vs H) : tA K xn Wx f σ H Rk := by
  obtain ⟨c, e, F, r, h⟩ := h
  refine ⟨c, e, F, r, ?_⟩
  cases qa : f e with
  | bad => simp only [qa, ob] at h
  | exc x e1 => simp only [qa, ob] at h; exact h
  | ok b e1 =>
    simp only [qa, ob] at h
    exact fun v H' F' r' rv => k c e1 e b v H' F' qa r' rv h
def itemsOf : PyData → Option (List PyData)
  | .list xs => some xs
  | .tuple xs => some xs
  | .str z => some (z.cps.toList.map fun ch => .str ⟨#[ch]⟩)
  | _ => none
def iSeq (f : FE) : FI := fun e => ob (vv f e) fun r e1 => match r with
  | .val d => (match itemsOf d with
    | some xs => .ok xs e1
    | none => .bad)
  | _ => .bad
theorem same_sq {K : PySem.W.Frag} {F H : Hp} (s : Same F H) {k : Kd} {a : Addr} {vs : List V} (h : k.sq K F a vs) : k.sq K H a vs := by
  cases k
  · exact s.seq h
  · exact Same.seqT s h
theorem itOk_l {K : PySem.W.Frag} {F : Hp} {a : Addr} {vs : List V} {xs : List PyData} (h : SqL K F a vs) (hd : DpAll K F vs xs) : ItOk K (Itl K a) xs F where
  go := fun c e σ H F1 i d r s hx => by
    obtain ⟨v, h1, h2⟩ := dl_get hd hx
    have q : SqL K H a vs := (s.trans r.aft.sub).seq h
    refine ⟨⟨vs, v, q, h1⟩, fun x H2 hy => ?_⟩
    obtain ⟨rfl, hy⟩ := hy
    have := hy vs q
    rw [h1] at this
    cases this
    exact ⟨F1, r, Same.refl _, dp_mono s _ _ h2⟩
  stop := fun c e σ H F1 r s => ⟨vs, (s.trans r.aft.sub).seq h, by rw [dl_len hd]; exact Nat.le_refl _⟩
theorem itOk_t {K : PySem.W.Frag} {F : Hp} {a : Addr} {vs : List V} {xs : List PyData} (h : SqT K F a vs) (hd : DpAll K F vs xs) : ItOk K (Itt K a) xs F where
  go := fun c e σ H F1 i d r s hx => by
    obtain ⟨v, h1, h2⟩ := dl_get hd hx
    have q : SqT K H a vs := Same.seqT (s.trans r.aft.sub) h
    refine ⟨⟨vs, v, q, h1⟩, fun x H2 hy => ?_⟩
    obtain ⟨rfl, hy⟩ := hy
    have := hy vs q
    rw [h1] at this
    cases this
    exact ⟨F1, r, Same.refl _, dp_mono s _ _ h2⟩
  stop := fun c e σ H F1 r s => ⟨vs, Same.seqT (s.trans r.aft.sub) h, by rw [dl_len hd]; exact Nat.le_refl _⟩
theorem itOk_s {K : PySem.W.Frag} {F : Hp} {z : Str} : ItOk K (Its z) (z.cps.toList.map fun ch => .str ⟨#[ch]⟩) F where
  go := fun c e σ H F1 i d r s hx => by
    rw [List.getElem?_map] at hx
    cases q : z.cps.toList[i]? with
    | none => rw [q] at hx; cases hx
    | some ch =>
      rw [q] at hx
      cases hx
      have q' : z.cps[i]? = some ch := by simpa using q
      have hl := (Array.getElem?_eq_some_iff.mp q').1
      refine ⟨hl, fun x H2 hy => ?_⟩
      obtain ⟨rfl, c2, h2, rfl⟩ := hy
      rw [q'] at h2
      cases h2
      exact ⟨F1, r, Same.refl _, .str _⟩
  stop := fun c e σ H F1 r s => by
    show z.cps.size ≤ _
    simp
theorem di_seq {l : Expr} {f : FE} (h : DE X xn Wx l f) : DI X xn Wx tg l (iSeq f) :=
  PI_imp (pi_seq (de_v h)) fun σ H Q q => ti_of q fun c e e0 r v H1 F1 qa rr rv z => by
    obtain ⟨d, rfl⟩ := vv_still qa
    simp only at z
    cases d with
    | list xs =>
      obtain ⟨a, vs, rfl, h1, h2⟩ := dp_lst_inv rv
      exact .inl ⟨a, rfl, ⟨vs, rr.aft.sub.seq h1⟩, z _ _ _ rr (itOk_l h1 h2)⟩
    | tuple xs =>
      obtain ⟨a, vs, rfl, h1, h2⟩ := dp_tup_inv rv
      exact .inr (.inl ⟨a, rfl, ⟨vs, Same.seqT rr.aft.sub h1⟩, z _ _ _ rr (itOk_t h1 h2)⟩)
    | str x =>
      rw [dp_str_inv rv]
      exact .inr (.inr ⟨x, rfl, z _ _ _ rr itOk_s⟩)
    | none => exact z.elim
    | bool b => exact z.elim
    | int b => exact z.elim
    | dict b => exact z.elim
/-! ranges -/
def rngD (lo : Int) (n : Nat) : List PyData := (List.range n).map fun (i : Nat) => PyData.int (lo + i)
theorem rngD_len (lo : Int) (n : Nat) : (rngD lo n).length = n := by simp [rngD]
theorem itOk_r {K : PySem.W.Frag} {F : Hp} {lo : Int} {n : Nat} : ItOk K (Itr lo n) (rngD lo n) F where
  go := fun c e σ H F1 i d r s hx => by
    unfold rngD at hx
    rw [List.getElem?_map] at hx
    cases q : (List.range n)[i]? with
    | none => rw [q] at hx; cases hx
    | some j =>
      rw [q] at hx
      cases hx
      obtain ⟨h1, h2⟩ := List.getElem?_eq_some_iff.mp q
      rw [List.getElem_range] at h2
      subst h2
      refine ⟨(by simpa using h1 : i < n), fun x H2 hy => ?_⟩
      obtain ⟨rfl, rfl⟩ := hy
      exact ⟨F1, r, Same.refl _, .int _⟩
  stop := fun c e σ H F1 r s => by
    show n ≤ _
    rw [rngD_len]
    exact Nat.le_refl _
def sm (i : Int) : Bool := decide (-(2 ^ 62) ≤ i) && decide (i < 2 ^ 62)
theorem sm_ok {i : Int} (h : sm i = true) : -(2 ^ 62) ≤ i ∧ i < 2 ^ 62 := by
  unfold sm at h
  rw [Bool.and_eq_true, decide_eq_true_eq, decide_eq_true_eq] at h
  exact h
def a1 : List RV → Option PyData
  | [.val d] => some d
  | _ => none
def a2 : List RV → Option (PyData × PyData)
  | [.val d, .val d2] => some (d, d2)
  | _ => none
def asI : PyData → Option Int
  | .int i => some i
  | _ => none
theorem asI_eq {d : PyData} {i : Int} (h : asI d = some i) : d = .int i := by
  cases d <;> cases h
  rfl
theorem a1_at {K : PySem.W.Frag} {c : C0} {e : Ev} {σ : L2.St} {H F : Hp} {rs : List RV} {vs : List V} {d : PyData} (h : RvsAt K c e σ H F rs vs) (q : a1 rs = some d) : ∃ v, vs = [v] ∧ Dp K F v d := by
  unfold a1 at q
  split at q
  · cases q
    obtain ⟨v, ws, rfl, h1, h2⟩ := h
    obtain rfl : ws = [] := h2
    exact ⟨v, rfl, h1⟩
  · cases q
theorem a2_at {K : PySem.W.Frag} {c : C0} {e : Ev} {σ : L2.St} {H F : Hp} {rs : List RV} {vs : List V} {d d2 : PyData} (h : RvsAt K c e σ H F rs vs) (q : a2 rs = some (d, d2)) : ∃ v w, vs = [v, w] ∧ Dp K F v d ∧ Dp K F w d2 := by
  unfold a2 at q
  split at q
  · cases q
    obtain ⟨v, ws, rfl, h1, v2, ws2, rfl, h2, h3⟩ := h
    obtain rfl : ws2 = [] := h3
    exact ⟨v, v2, rfl, h1, h2⟩
  · cases q
def iRng1' (fa : FE) : FI := fun e => ob (fCons (vv fa) fNil e) fun rs e1 => match (a1 rs).bind asI with
  | some j => if sm j = true then .ok (rngD 0 j.toNat) e1 else .bad
  | none => .bad
theorem di_range1 {a : Expr} {fa : FE} {p : Pos} (hg : Gl X "range") (hm : X.mg "range" = none) (ha : DE X xn Wx a fa) (hs : starEach [a] X.env = [(false, eval a X.env)] := by rfl) : DI X xn Wx tg (.Call (.Name "range" p) [a] [] pos) (iRng1' fa) :=
  PI_imp (pi_range1 hg hm (da_cons (de_v ha) da_nil hs) hs) fun σ H Q q => ti_ofA q fun c e e0 rs vs H1 F1 qa rr rv z => by
    cases qq : (a1 rs).bind asI with
    | none => simp only [qq] at z
    | some j =>
      simp only [qq] at z
      obtain ⟨d, q1, q2⟩ := Option.bind_eq_some_iff.mp qq
      cases asI_eq q2
      obtain ⟨v, rfl, h1⟩ := a1_at rv q1
      by_cases hj : sm j = true
      · rw [if_pos hj] at z
        rw [dp_int_inv h1]
        exact ⟨j, rfl, (sm_ok hj).1, (sm_ok hj).2, z _ _ _ rr itOk_r⟩
      · rw [if_neg hj] at z; exact z.elim
def iRng2' (fa fb : FE) : FI := fun e => ob (fCons (vv fa) (fCons (vv fb) fNil) e) fun rs e1 => match (a2 rs).bind (fun p => (asI p.1).bind fun i => (asI p.2).map fun j => (i, j)) with
  | some (i, j) => if sm i = true ∧ sm j = true then .ok (rngD i (j - i).toNat) e1 else .bad
  | none => .bad
theorem di_range2 {a b : Expr} {fa fb : FE} {p : Pos} (hg : Gl X "range") (hm : X.mg "range" = none) (ha : DE X xn Wx a fa) (hb : DE X xn Wx b fb) (hs : starEach [a, b] X.env = [(false, eval a X.env), (false, eval b X.env)] := by rfl) (hs2 : starEach [b] X.env = [(false, eval b X.env)] := by rfl) :
    DI X xn Wx tg (.Call (.Name "range" p) [a, b] [] pos) (iRng2' fa fb) :=
  PI_imp (pi_range2 hg hm (da_cons (de_v ha) (da_cons (de_v hb) da_nil hs2) (by rw [hs, hs2])) hs hs2) fun σ H Q q => ti_ofA q fun c e e0 rs vs H1 F1 qa rr rv z => by
    cases qq : (a2 rs).bind (fun p => (asI p.1).bind fun i => (asI p.2).map fun j => (i, j)) with
    | none => simp only [qq] at z
    | some ij =>
      obtain ⟨i, j⟩ := ij
      simp only [qq] at z
      obtain ⟨⟨d, d2⟩, q1, q2⟩ := Option.bind_eq_some_iff.mp qq
      obtain ⟨i', q3, q4⟩ := Option.bind_eq_some_iff.mp q2
      obtain ⟨j', q5, q6⟩ := Option.map_eq_some_iff.mp q4
      cases q6
      obtain ⟨v, w, rfl, h1, h2⟩ := a2_at rv q1
      rw [show d = .int i from asI_eq q3] at h1
      rw [show d2 = .int j from asI_eq q5] at h2
      by_cases hj : sm i = true ∧ sm j = true
      · rw [if_pos hj] at z
        rw [dp_int_inv h1, dp_int_inv h2]
        exact ⟨i, j, rfl, ⟨(sm_ok hj.1).1, (sm_ok hj.1).2, (sm_ok hj.2).1, (sm_ok hj.2).2⟩, z _ _ _ rr itOk_r⟩
      · rw [if_neg hj] at z; exact z.elim
/-! enumerate, zip -/
theorem itOk_p {K : PySem.W.Frag} {F : Hp} {G : Nat → Hp → List V → Prop} {S : Nat → Hp → Prop} {xs : List (List PyData)}
    (hg : ∀ (H F1 : Hp) (i : Nat) (ds : List PyData), Same F F1 → Same F1 H → xs[i]? = some ds → ∃ vs, G i H vs ∧ DpAll K F1 vs ds)
    (hs : ∀ (H F1 : Hp), Same F F1 → Same F1 H → S xs.length H) : ItOk K (ItP G S) (xs.map PyData.tuple) F where
  go := fun c e σ H F1 i d r s hx => by
    rw [List.getElem?_map] at hx
    cases q : xs[i]? with
    | none => rw [q] at hx; cases hx
    | some ds =>
      rw [q] at hx
      cases hx
      obtain ⟨vs, h1, h2⟩ := hg H F1 i ds s r.aft.sub q
      refine ⟨⟨vs, h1⟩, fun x H2 hy => ?_⟩
      obtain ⟨T, ws, rfl, hT, rfl, h3, h4⟩ := hy
      have e1 : ws = vs := h4 vs h1
      subst e1
      obtain ⟨r2, hd⟩ := r.newT hT h2
      exact ⟨_, r2, upd_some (r.f0 hT), hd⟩
  stop := fun c e σ H F1 r s => by
    rw [List.length_map]
    exact hs H F1 s r.aft.sub
def seqOf : PyData → Option (Kd × List PyData)
  | .list xs => some (.l, xs)
  | .tuple xs => some (.t, xs)
  | _ => none
theorem seqOf_at {K : PySem.W.Frag} {F : Hp} {v : V} {d : PyData} {k : Kd} {xs : List PyData} (h : Dp K F v d) (q : seqOf d = some (k, xs)) : ∃ a vs, v = .ref a ∧ k.sq K F a vs ∧ DpAll K F vs xs := by
  cases d <;> try (cases q; done)
  · cases q
    exact dp_lst_inv h
  · cases q
    exact dp_tup_inv h
def iEnum (fa : FE) : FI := fun e => ob (fCons (vv fa) fNil e) fun rs e1 => match (a1 rs).bind seqOf with
  | some (_, xs) => .ok (xs.zipIdx.map fun p => PyData.tuple [.int (p.2 : Nat), p.1]) e1
  | none => .bad
theorem di_enum {a : Expr} {fa : FE} {p tpos : Pos} {elts : List Expr} {kk : Nat} (hg : Gl X "enumerate") (hm : X.mg "enumerate" = none) (ha : DE X xn Wx a fa) (hs : starEach [a] X.env = [(false, eval a X.env)] := by rfl) :
    DI X xn Wx (.Tuple elts kk tpos) (.Call (.Name "enumerate" p) [a] [] pos) (iEnum fa) :=
  PI_imp (pi_enK hg hm (da_cons (de_v ha) da_nil hs) hs) fun σ H Q q => ti_ofA q fun c e e0 rs vs H1 F1 qa rr rv z => by
    · cases qq : (a1 rs).bind seqOf with
      | none => simp only [qq] at z
      | some kx =>
        obtain ⟨k, xs⟩ := kx
        simp only [qq] at z
        obtain ⟨d, q1, qd⟩ := Option.bind_eq_some_iff.mp qq
        obtain ⟨v, rfl, h1⟩ := a1_at rv q1
        obtain ⟨a, vs, rfl, h3, h4⟩ := seqOf_at h1 qd
        refine ⟨k, a, vs, rfl, same_sq rr.aft.sub h3, z _ _ _ rr ?_⟩
        have e1 : (xs.zipIdx.map fun p => PyData.tuple [.int (p.2 : Nat), p.1]) = (xs.zipIdx.map fun p => [PyData.int (p.2 : Nat), p.1]).map PyData.tuple := by
          rw [List.map_map]; rfl
        rw [e1]
        refine itOk_p (fun H F2 i ds s s2 hx => ?_) fun H F2 s s2 => ?_
        · rw [List.getElem?_map, List.getElem?_zipIdx] at hx
          cases q2 : xs[i]? with
          | none => rw [q2] at hx; cases hx
          | some d =>
            rw [q2] at hx
            cases hx
            obtain ⟨v, k1, k2⟩ := dl_get h4 q2
            refine ⟨_, ⟨vs, v, same_sq (s.trans s2) h3, k1, rfl⟩, ?_⟩
            simp only [Nat.zero_add]
            exact .cons (.int _) (.cons (dp_mono s _ _ k2) .nil)
        · refine ⟨vs, same_sq (s.trans s2) h3, ?_⟩
          rw [dl_len h4]
          simp
def iZip (fa fb : FE) : FI := fun e => ob (fCons (vv fa) (fCons (vv fb) fNil) e) fun rs e1 => match (a2 rs).bind (fun p => (seqOf p.1).bind fun i => (seqOf p.2).map fun j => (i, j)) with
  | some (i, j) => .ok ((i.2.zip j.2).map fun p => PyData.tuple [p.1, p.2]) e1
  | none => .bad
theorem di_zip {a b : Expr} {fa fb : FE} {p tpos : Pos} {elts : List Expr} {kk : Nat} (hg : Gl X "zip") (hm : X.mg "zip" = none) (ha : DE X xn Wx a fa) (hb : DE X xn Wx b fb)
    (hs : starEach [a, b] X.env = (false, eval a X.env) :: starEach [b] X.env := by rfl) (hs2 : starEach [b] X.env = (false, eval b X.env) :: starEach [] X.env := by rfl) (hpl : (backTo pos (starEach [b] X.env)).any (·.1) = false := by rfl) :
    DI X xn Wx (.Tuple elts kk tpos) (.Call (.Name "zip" p) [a, b] [] pos) (iZip fa fb) :=
  PI_imp (pi_zipK hg hm (da_cons (de_v ha) (da_cons (de_v hb) da_nil hs2) hs) hs hpl) fun σ H Q q => ti_ofA q fun c e e0 rs vs H1 F1 qa rr rv z => by
    · cases qq : (a2 rs).bind (fun p => (seqOf p.1).bind fun i => (seqOf p.2).map fun j => (i, j)) with
      | none => simp only [qq] at z
      | some kk =>
          obtain ⟨⟨k, xs⟩, ⟨k2, ys⟩⟩ := kk
          simp only [qq] at z
          obtain ⟨⟨d, d2⟩, q1, q2⟩ := Option.bind_eq_some_iff.mp qq
          obtain ⟨i', qd, q4⟩ := Option.bind_eq_some_iff.mp q2
          obtain ⟨j', qd2, q6⟩ := Option.map_eq_some_iff.mp q4
          cases q6
          obtain ⟨v, w, rfl, h1, h2⟩ := a2_at rv q1
          obtain ⟨a, vs, rfl, h3, h4⟩ := seqOf_at h1 qd
          obtain ⟨b, ws, rfl, h5, h6⟩ := seqOf_at h2 qd2
          refine ⟨k, k2, a, b, vs, ws, rfl, same_sq rr.aft.sub h3, same_sq rr.aft.sub h5, z _ _ _ rr ?_⟩
          have e1 : ((xs.zip ys).map fun p => PyData.tuple [p.1, p.2]) = ((xs.zip ys).map fun p => [p.1, p.2]).map PyData.tuple := by
            rw [List.map_map]; rfl
          rw [e1]
          have l1 := dl_len h4
          have l2 := dl_len h6
          refine itOk_p (fun H F2 i ds s s2 hx => ?_) fun H F2 s s2 => ?_
          · rw [List.getElem?_map] at hx
            cases q2 : (xs.zip ys)[i]? with
            | none => rw [q2] at hx; cases hx
            | some dd =>
              rw [q2] at hx
              cases hx
              obtain ⟨k1, k2⟩ := List.getElem?_zip_eq_some.mp q2
              obtain ⟨v1, m1, m2⟩ := dl_get h4 k1
              obtain ⟨v2, m3, m4⟩ := dl_get h6 k2
              exact ⟨_, ⟨vs, ws, v1, v2, same_sq (s.trans s2) h3, same_sq (s.trans s2) h5, m1, m3, rfl⟩, .cons (dp_mono s _ _ m2) (.cons (dp_mono s _ _ m4) .nil)⟩
          · refine ⟨vs, ws, same_sq (s.trans s2) h3, same_sq (s.trans s2) h5, ?_, ?_, ?_⟩ <;> simp only [List.length_map, List.length_zip] <;> omega
end
end DL

namespace DL
open PySem PySem.Spec PyProof.Rows L2
variable [Inhabited Tbx]
section
variable {X : Cx} {xn : XN} {Wx : WX} {pos : Pos}
/-! ### for, while -/
def forL (T : Tg) (fb : FS) : List PyData → Ev → SO
  | [], e => .nx e
  | d :: ds, e => match setT T d e with
    | none => .bad
    | some e1 => (match fb e1 with
      | .nx e2 => forL T fb ds e2
      | .ct e2 => forL T fb ds e2
      | .bk e2 => .nx e2
      | .rt r e2 => .rt r e2
      | .exc x e2 => .exc x e2
      | .bad => .bad)
def sFor (T : Tg) (fi : FI) (fb : FS) : FS := fun e => match fi e with
  | .ok xs e1 => forL T fb xs e1
  | .exc x e1 => .exc x e1
  | .bad => .bad
theorem spost_reb {K : PySem.W.Frag} {c : C0} {e : Ev} {σ : L2.St} {H F : Hp} (r : R K c e σ H F) {D : Ends} {o : SO} (h : SPost K c xn Wx D o) : SPost K (c.reb F) xn Wx D o := by
  cases o with
  | nx e => exact fun σ H' F' r' => h σ H' F' (r.unreb r').1
  | bk e => exact fun σ H' F' r' => h σ H' F' (r.unreb r').1
  | ct e => exact fun σ H' F' r' => h σ H' F' (r.unreb r').1
  | rt rv e => exact fun σ H' F' v r' rr => h σ H' F' v (r.unreb r').1 (rv_reb.mp rr)
  | exc x e => exact fun σ H' F' C d hx r' => h σ H' F' C d hx (r.unreb r').1
  | bad => exact h
theorem ds_for {tg iter : Expr} {body : List Stmt} {T : Tg} {fi : FI} {fb : FS} (hp : PassesOwn (model X.prog X.w) X.A X.env X.xe) (hc : X.calm = true) (hi : DI X xn Wx tg iter fi) (hg : DGf X tg T) (hb : DSs X xn Wx body fb)
    (hs : ∀ x, foldedSetIterable iter X.env x = pure x := by intro _; rfl) : DS X xn Wx (.For tg iter body [] pos) (sFor T fi fb) :=
  PS_imp (ps_for hp hc hi hg hb hs) fun D σ H ⟨c, e, F, r, h⟩ => by
    refine ⟨c, e, F, r, ?_⟩
    unfold sFor at h
    cases qi : fi e with
    | bad => simp only [qi] at h; exact h.elim
    | exc x e1 => simp only [qi] at h; exact fun C d H' F' hx r' => h σ H' F' C d hx r'
    | ok xs e1 =>
      simp only [qi] at h
      intro J H1 F1 r1 it
      have h1 := spost_reb r1 h
      refine ⟨fun i m σ H => m = xs.length - i ∧ i ≤ xs.length ∧ ∃ e F, R X.K (c.reb F1) e σ H F ∧ SPost X.K (c.reb F1) xn Wx D (forL T fb (xs.drop i) e), ⟨_, rfl, Nat.zero_le _, e1, F1, r1.reb, h1⟩, ?_⟩
      rintro i m σ H ⟨rfl, hle, e2, F2, r2, h2⟩
      have s2 : Same F1 F2 := r2.aft.s1
      by_cases hlt : i < xs.length
      · have hd : xs.drop i = xs[i] :: xs.drop (i + 1) := by rw [List.drop_eq_getElem_cons hlt]
        rw [hd] at h2
        unfold forL at h2
        obtain ⟨go, hy⟩ := it.go _ _ _ _ _ i xs[i] r2 s2 (List.getElem?_eq_getElem hlt)
        refine .inr ⟨go, fun σ H => ∃ e F, R X.K (c.reb F1) e σ H F ∧ SPost X.K (c.reb F1) xn Wx D (forL T fb (xs.drop (i + 1)) e), fun σ' H' ⟨e', F', r', h'⟩ => ⟨_, by omega, rfl, hlt, e', F', r', h'⟩, fun x H3 y => ?_⟩
        obtain ⟨F3, r3, s3, hx⟩ := hy x H3 y
        refine ⟨_, _, _, _, r3, hx, ?_⟩
        cases qs : setT T xs[i] e2 with
        | none => simp only [qs] at h2; exact h2.elim
        | some e3 =>
          simp only [qs] at h2 ⊢
          intro σ4 H4 F4 _ r4
          refine ⟨_, _, _, r4, ?_⟩
          cases qb : fb e3 with
          | nx e5 => simp only [qb] at h2; exact fun σ H F r => ⟨e5, F, r, h2⟩
          | ct e5 => simp only [qb] at h2; exact fun σ H F r => ⟨e5, F, r, h2⟩
          | bk e5 => simp only [qb] at h2; exact h2
          | rt rv e5 => simp only [qb] at h2; exact h2
          | exc x e5 => simp only [qb] at h2; exact h2
          | bad => simp only [qb] at h2; exact h2
      · have e5 : i = xs.length := by omega
        subst e5
        rw [List.drop_length] at h2
        exact .inl ⟨it.stop _ _ _ _ _ r2 s2, h2 σ H F2 r2⟩
def whileL (t : Ev → Out Bool) (fb : FS) : Nat → Ev → SO
  | 0, _ => .bad
  | n + 1, e => match t e with
    | .ok true e1 => (match fb e1 with
      | .nx e2 => whileL t fb n e2
      | .ct e2 => whileL t fb n e2
      | .bk e2 => .nx e2
      | .rt r e2 => .rt r e2
      | .exc x e2 => .exc x e2
      | .bad => .bad)
    | .ok false e1 => .nx e1
    | .exc x e1 => .exc x e1
    | .bad => .bad
theorem ds_while (n : Nat) {a : Expr} {body : List Stmt} {t : Ev → Out Bool} {fb : FS} (hp : PassesOwn (model X.prog X.w) X.A X.env X.xe) (ht : DT X xn Wx a t) (hb : DSs X xn Wx body fb) : DS X xn Wx (.While a body [] pos) (whileL t fb n) :=
  PS_imp (ps_while hp ht hb) fun D σ H ⟨c, e, F, r, h⟩ => by
    refine ⟨fun m σ H => ∃ e F, R X.K c e σ H F ∧ SPost X.K c xn Wx D (whileL t fb m e), ⟨n, e, F, r, h⟩, ?_⟩
    rintro m σ H ⟨e, F, r, h⟩
    refine ⟨c, e, F, r, ?_⟩
    cases m with
    | zero => exact h.elim
    | succ m =>
      unfold whileL at h
      cases qt : t e with
      | bad => simp only [qt] at h; exact h.elim
      | exc x e1 => simp only [qt] at h; exact fun C d H' F' hx r' => h σ H' F' C d hx r'
      | ok b e1 =>
        cases b with
        | false =>
          simp only [qt] at h
          intro H' F' r'
          rw [if_neg Bool.false_ne_true]
          exact h σ H' F' r'
        | true =>
          simp only [qt] at h
          intro H' F' r'
          rw [if_pos rfl]
          refine ⟨fun σ H => ∃ e F, R X.K c e σ H F ∧ SPost X.K c xn Wx D (whileL t fb m e), fun σ' H' q => ⟨m, Nat.lt_succ_self _, q⟩, c, e1, F', r', ?_⟩
          cases qb : fb e1 with
          | nx e5 => simp only [qb] at h; exact fun σ H F r => ⟨e5, F, r, h⟩
          | ct e5 => simp only [qb] at h; exact fun σ H F r => ⟨e5, F, r, h⟩
          | bk e5 => simp only [qb] at h; exact h
          | rt rv e5 => simp only [qb] at h; exact h
          | exc x e5 => simp only [qb] at h; exact h
          | bad => simp only [qb] at h; exact h
end

/-! ### what stands by the way -/
section
variable {K : PySem.W.Frag} {c : C0} {e : Ev} {σ : L2.St} {H F : Hp}
def C0.tmp (c : C0) (t : List (Addr × HO)) : C0 := { c with tm := t }
theorem R.addTm (r : R K c e σ H F) {p : Addr} {o : HO} (h : H p = none) (ho : isTab o = false) : R K (c.tmp ((p, o) :: c.tm)) e σ (upd H p o) F :=
  have r1 := r.laid (o := o) h
  { aft := r1.aft, len := r1.len, fr := r1.fr
    ow := fun i w q1 q2 => by
      obtain ⟨a, u, h1, h2, h3, h4, h5, h6, h7⟩ := r1.ow i w q1 q2
      refine ⟨a, u, h1, h2, h3, h4, h5, h6, fun hm => ?_⟩
      rcases List.mem_cons.mp hm with z | z
      · exact r.notOwn h i w q1 q2 (by rw [h1]; exact congrArg (fun x => some (some (V.ref x))) z)
      · exact h7 z
    ne := r1.ne
    tm := fun q hq => by
      rcases List.mem_cons.mp hq with z | z
      · rw [z]; exact ⟨upd_same, r.f0 h, ho⟩
      · exact r1.tm q z
    tmnd := List.nodup_cons.mpr ⟨r.notTm h, r.tmnd⟩
    pr := r1.pr }
theorem R.setTm {p : Addr} {o o' : HO} {t : List (Addr × HO)} (r : R K (c.tmp ((p, o) :: t)) e σ H F) (h0 : c.H0 p = none) (ho : isTab o' = false) : R K (c.tmp ((p, o') :: t)) e σ (upd H p o') F := by
  obtain ⟨tH, tF, tT⟩ := r.tm (p, o) List.mem_cons_self
  have tH : H p = some o := tH
  have nd : p ∉ t.map (·.1) ∧ (t.map (·.1)).Nodup := List.nodup_cons.mp r.tmnd
  have np : ∀ b, F b ≠ none → b ≠ p := fun b hb z => hb (by rw [z]; exact tF)
  refine { aft := ⟨fun b u q => ?_, r.aft.s1, fun b q => ?_, r.aft.s2, fun b u q1 q2 q3 => ?_, fun P hP => ?_, r.aft.imm⟩, len := r.len, fr := r.fr, ow := fun i w q1 q2 => ?_, ne := r.ne, tm := fun q hq => ?_, tmnd := r.tmnd, pr := r.pr }
  · rw [upd_ne (np b (by rw [q]; exact fun z => by cases z))]
    exact r.aft.sub b u q
  · exact upd_nn (r.aft.s0 b q)
  · have hb : b ≠ p := fun z => by
      have q1' : c.H0 b = some u := q1
      rw [z, h0] at q1'; cases q1'
    rw [upd_ne hb]
    exact r.aft.s3 b u q1 q2 q3
  · refine tabG_upd (r.aft.tab P hP) fun z => ?_
    obtain ⟨ps, e1, _⟩ := r.aft.tab P hP
    rw [z, tH] at e1
    cases e1
    cases tT
  · obtain ⟨a, u, h1, h2, h3, h4, h5, h6, h7⟩ := r.ow i w q1 q2
    have na : a ≠ p := fun z => h7 (by rw [z]; exact List.mem_cons_self)
    exact ⟨a, u, h1, by rw [upd_ne na]; exact h2, h3, h4, h5, h6, h7⟩
  · rcases List.mem_cons.mp hq with z | z
    · rw [z]; exact ⟨upd_same, tF, ho⟩
    · obtain ⟨k1, k2, k3⟩ := r.tm q (List.mem_cons_of_mem _ z)
      have na : q.1 ≠ p := fun y => nd.1 (by rw [← y]; exact List.mem_map.mpr ⟨q, z, rfl⟩)
      exact ⟨by rw [upd_ne na]; exact k1, k2, k3⟩
theorem R.popTm {p : Addr} {o : HO} {t : List (Addr × HO)} (r : R K (c.tmp ((p, o) :: t)) e σ H F) (h0 : c.H0 p = none) {w : Sl} (hw : OwnAt K F w o) (hp : w.par = false) : R K (c.tmp t) e σ H F ∧ RvAt K (c.tmp t) e σ H F (.new w) (.ref p) := by
  obtain ⟨tH, tF, tT⟩ := r.tm (p, o) List.mem_cons_self
  have nd : p ∉ t.map (·.1) ∧ (t.map (·.1)).Nodup := List.nodup_cons.mp r.tmnd
  refine ⟨{ aft := ⟨r.aft.sub, r.aft.s1, r.aft.s0, r.aft.s2, r.aft.s3, r.aft.tab, r.aft.imm⟩, len := r.len, fr := r.fr, ow := fun i w q1 q2 => ?_, ne := r.ne, tm := fun q hq => r.tm q (List.mem_cons_of_mem _ hq), tmnd := nd.2, pr := r.pr }, p, o, rfl, tH, tF, hw, hp, h0, nd.1, fun i u q1 q2 q3 => ?_⟩
  · obtain ⟨a, u, h1, h2, h3, h4, h5, h6, h7⟩ := r.ow i w q1 q2
    exact ⟨a, u, h1, h2, h3, h4, h5, h6, fun hm => h7 (List.mem_cons_of_mem _ hm)⟩
  · obtain ⟨a, u, h1, h2, h3, h4, h5, h6, h7⟩ := r.ow i u q1 q2
    rw [h1] at q3
    have z : a = p := V.ref.inj (Option.some.inj (Option.some.inj q3))
    exact h7 (by rw [z]; exact List.mem_cons_self)
def wipeE (e : Ev) : List Nat → Ev
  | [] => e
  | v :: vs => (wipeE e vs).set v none
theorem R.wipe (r : R K c e σ H F) : ∀ vs : List Nat, R K c (wipeE e vs) (L2.wipe σ vs) H F
  | [] => r
  | v :: vs => by
    have r1 := R.wipe r vs
    have key : ∀ (i : Nat) (w : Sl), ((wipeE e vs).set v none)[i]? = some (some w) → (wipeE e vs)[i]? = some (some w) ∧ ((L2.wipe σ vs).set v none)[i]? = (L2.wipe σ vs)[i]? := fun i w q => by
      by_cases hv : v < (wipeE e vs).length
      · rw [get_set hv] at q
        by_cases hi : i = v
        · rw [if_pos hi] at q; cases q
        · rw [if_neg hi] at q
          exact ⟨q, List.getElem?_set_ne (Ne.symm hi)⟩
      · have z : (wipeE e vs).set v none = wipeE e vs := List.set_eq_of_length_le (by omega)
        rw [z] at q
        have z2 : (L2.wipe σ vs).set v none = L2.wipe σ vs := List.set_eq_of_length_le (by rw [r1.len]; omega)
        exact ⟨q, by rw [z2]⟩
    refine { aft := r1.aft, len := ?_, fr := fun i d q => ?_, ow := fun i w q1 q2 => ?_, ne := fun i j a w u hij q1 q2 q3 q4 q5 q6 => ?_, tm := r1.tm, tmnd := r1.tmnd, pr := fun i w q1 q2 => ?_ }
    · show ((L2.wipe σ vs).set v none).length = ((wipeE e vs).set v none).length
      rw [List.length_set, List.length_set]; exact r1.len
    · obtain ⟨k1, k2⟩ := key i _ q
      obtain ⟨x, k3, k4⟩ := r1.fr i d k1
      exact ⟨x, by rw [show (L2.wipe σ (v :: vs)) = (L2.wipe σ vs).set v none from rfl, k2]; exact k3, k4⟩
    · obtain ⟨k1, k2⟩ := key i _ q1
      obtain ⟨a, o, k3, k4⟩ := r1.ow i w k1 q2
      exact ⟨a, o, by rw [show (L2.wipe σ (v :: vs)) = (L2.wipe σ vs).set v none from rfl, k2]; exact k3, k4⟩
    · obtain ⟨k1, k2⟩ := key i _ q1
      obtain ⟨k3, k4⟩ := key j _ q3
      have q5' : ((L2.wipe σ vs).set v none)[i]? = some (some (V.ref a)) := q5
      have q6' : ((L2.wipe σ vs).set v none)[j]? = some (some (V.ref a)) := q6
      rw [k2] at q5'
      rw [k4] at q6'
      exact r1.ne i j a w u hij k1 q2 k3 q4 q5' q6'
    · obtain ⟨k1, k2⟩ := key i _ q1
      obtain ⟨x, k3, k4⟩ := r1.pr i w k1 q2
      exact ⟨x, k3, by rw [show (L2.wipe σ (v :: vs)) = (L2.wipe σ vs).set v none from rfl, k2]; exact k4⟩
def frAt (e : Ev) (v : Nat) : Option Sl := match e[v]? with
  | some (some (.fr d)) => some (.fr d)
  | _ => none
/-- e2, with what e had in the slots vs -/
def restE (e e2 : Ev) : List Nat → Ev
  | [] => e2
  | v :: vs => (restE e e2 vs).set v (frAt e v)
theorem restE_len (e e2 : Ev) : ∀ vs : List Nat, (restE e e2 vs).length = e2.length
  | [] => rfl
  | v :: vs => by unfold restE; rw [List.length_set]; exact restE_len e e2 vs
theorem restE_get {e e2 : Ev} {i : Nat} {w : Sl} : ∀ {vs : List Nat}, (restE e e2 vs)[i]? = some (some w) → (i ∉ vs ∧ e2[i]? = some (some w)) ∨ (∃ d, w = .fr d ∧ e[i]? = some (some (.fr d)))
  | [], h => .inl ⟨by simp, h⟩
  | v :: vs, h => by
    unfold restE at h
    by_cases hv : v < (restE e e2 vs).length
    · rw [get_set hv] at h
      by_cases hi : i = v
      · rw [if_pos hi] at h
        have h' : frAt e v = some w := Option.some.inj h
        unfold frAt at h'
        split at h'
        · rename_i d q
          cases h'
          exact .inr ⟨d, rfl, by rw [hi]; exact q⟩
        · cases h'
      · rw [if_neg hi] at h
        rcases restE_get h with ⟨k1, k2⟩ | k
        · exact .inl ⟨fun hm => by
            rcases List.mem_cons.mp hm with z | z
            · exact hi z
            · exact k1 z, k2⟩
        · exact .inr k
    · rw [List.set_eq_of_length_le (by omega)] at h
      rcases restE_get h with ⟨k1, k2⟩ | k
      · refine .inl ⟨fun hm => ?_, k2⟩
        rcases List.mem_cons.mp hm with z | z
        · have := lt_of_get h
          omega
        · exact k1 z
      · exact .inr k
theorem R.rest {e2 : Ev} {F2 H2 : Hp} {vs : List Nat} (r : R K c e σ H F) (s : Same F F2) (r2 : R K c e2 (L2.wipe σ vs) H2 F2) : R K c (restE e e2 vs) σ H2 F2 := by
  have out : ∀ {i : Nat}, i ∉ vs → (L2.wipe σ vs)[i]? = σ[i]? := fun h => L2.wipe_out h
  have own : ∀ {i : Nat} {w : Sl}, (restE e e2 vs)[i]? = some (some w) → w.isOwn = true → i ∉ vs ∧ e2[i]? = some (some w) := fun {i w} h ho => by
    rcases restE_get h with k | ⟨d, rfl, _⟩
    · exact k
    · cases ho
  refine { aft := r2.aft, len := ?_, fr := fun i d q => ?_, ow := fun i w q1 q2 => ?_, ne := fun i j a w u hij q1 q2 q3 q4 q5 q6 => ?_, tm := r2.tm, tmnd := r2.tmnd, pr := fun i w q1 q2 => ?_ }
  · rw [restE_len, ← r2.len, L2.wipe_length]
  · rcases restE_get q with ⟨k1, k2⟩ | ⟨d', k1, k2⟩
    · obtain ⟨v, k3, k4⟩ := r2.fr i d k2
      exact ⟨v, by rw [← out k1]; exact k3, k4⟩
    · cases k1
      obtain ⟨v, k3, k4⟩ := r.fr i d k2
      exact ⟨v, k3, dp_mono s _ _ k4⟩
  · obtain ⟨k1, k2⟩ := own q1 q2
    obtain ⟨a, o, k3, k4⟩ := r2.ow i w k2 q2
    exact ⟨a, o, by rw [← out k1]; exact k3, k4⟩
  · obtain ⟨k1, k2⟩ := own q1 q2
    obtain ⟨k3, k4⟩ := own q3 q4
    exact r2.ne i j a w u hij k2 q2 k4 q4 (by rw [out k1]; exact q5) (by rw [out k3]; exact q6)
  · have ho : w.isOwn = true := by
      cases w with
      | fr d => cases q2
      | ol p xs => rfl
      | od p kvs => rfl
    obtain ⟨k1, k2⟩ := own q1 ho
    obtain ⟨v, k3, k4⟩ := r2.pr i w k2 q2
    exact ⟨v, k3, by rw [← out k1]; exact k4⟩
theorem wipe_dif {σ σ2 : L2.St} {ws : List Nat} : ∀ {vs : List Nat}, Dif ws (L2.wipe σ vs) σ2 → (∀ w ∈ ws, w ∈ vs) → L2.wipe σ2 vs = L2.wipe σ vs := fun {vs} h hs => by
  have gw : ∀ (σ : L2.St) (vs : List Nat) (i : Nat), i ∈ vs → i < σ.length → (L2.wipe σ vs)[i]? = some none := by
    intro σ vs
    induction vs with
    | nil => intro i hi; simp at hi
    | cons v vs ih =>
      intro i hi hl
      show ((L2.wipe σ vs).set v none)[i]? = some none
      by_cases z : i = v
      · rw [z, List.getElem?_set_self (by rw [L2.wipe_length, ← z]; exact hl)]
      · rw [List.getElem?_set_ne (Ne.symm z)]
        exact ih i ((List.mem_cons.mp hi).resolve_left z) hl
  have hl : σ2.length = σ.length := by rw [h.1, L2.wipe_length]
  apply List.ext_getElem?
  intro i
  by_cases hi : i ∈ vs
  · by_cases hlt : i < σ.length
    · rw [gw σ2 vs i hi (by rw [hl]; exact hlt), gw σ vs i hi hlt]
    · rw [List.getElem?_eq_none (by rw [L2.wipe_length, hl]; omega), List.getElem?_eq_none (by rw [L2.wipe_length]; omega)]
  · rw [L2.wipe_out hi, h.2 i fun q => hi (hs i q)]
end
end DL

namespace DL
open PySem PySem.Spec PyProof.Rows L2
variable [Inhabited Tbx]
section
variable {X : Cx} {xn : XN} {Wx : WX} {pos : Pos}
/-- nothing may be raised -/
def WF : WX := fun _ _ _ _ => False
abbrev DTs (X : Cx) (xn : XN) (Wx : WX) (cs : List Expr) (t : Ev → Out Bool) : Prop := PTs X cs (tT X.K xn Wx t)
theorem PTs_imp {cs : List Expr} {t t' : TT} (h : PTs X cs t) (i : ∀ σ H Q, t' σ H Q → t σ H Q) : PTs X cs t' := ⟨fun pins s σ H Q I q => h.run pins s σ H Q I (i σ H Q q)⟩
def tYesB : Ev → Out Bool := fun e => .ok true e
theorem dts_nil : DTs X xn Wx [] tYesB := PTs_imp pts_nil fun σ H Q ⟨c, e, F, r, h⟩ => h H F r
theorem dts_one {c : Expr} {t : Ev → Out Bool} (h : DT X xn Wx c t) : DTs X xn Wx [c] t := pts_one h
/-- [.. for T in xs if tc]: the slots vs are the comprehension's own -/
def lcL (T : Tg) (vs : List Nat) (tc : Ev → Out Bool) (fe : FE) : List PyData → Ev → List PyData → Out (List PyData)
  | [], e, acc => .ok acc e
  | d :: ds, e, acc => match setT T d e with
    | none => .bad
    | some e1 => (match tc e1 with
      | .ok true e2 => (match vv fe e2 with
        | .ok (.val y) e3 => if acc.length < sizeLine then lcL T vs tc fe ds (wipeE e3 vs) (acc ++ [y]) else .bad
        | _ => .bad)
      | .ok false e2 => lcL T vs tc fe ds (wipeE e2 vs) acc
      | _ => .bad)
def fLc (T : Tg) (vs : List Nat) (fi : FI) (tc : Ev → Out Bool) (fe : FE) : FE := fun e => match fi e with
  | .ok xs e1 => (match lcL T vs tc fe xs (wipeE e1 vs) [] with
    | .ok ds e2 => .ok (.new (.ol false ds)) (restE e1 e2 vs)
    | _ => .bad)
  | .exc x e1 => .exc x e1
  | .bad => .bad
theorem lc_walk {K : PySem.W.Frag} {T : Tg} {vs : List Nat} {fi : FI} {tc : Ev → Out Bool} {fe : FE} {σ : L2.St} {H : Hp} {Q : VK} (hT : ∀ w ∈ T.ix, w ∈ vs) (q : tE K xn Wx (fLc T vs fi tc fe) σ H Q) :
    tLc (tI K xn Wx fi) (tGf K T) (tT K xn WF tc) (tE K xn WF (vv fe)) vs σ H Q := by
  obtain ⟨c, e, F, r, h⟩ := q
  refine ⟨c, e, F, r, ?_⟩
  unfold fLc at h
  cases qi : fi e with
  | bad => simp only [qi] at h
  | exc x e1 => simp only [qi] at h; exact h
  | ok xs e1 =>
    simp only [qi] at h
    intro J H1 F1 r1 it D hD
    cases ql : lcL T vs tc fe xs (wipeE e1 vs) [] with
    | bad => simp only [ql] at h
    | exc x e2 => simp only [ql] at h
    | ok ds eZ =>
      simp only [ql] at h
      have h0 : c.H0 D = none := r1.h0 hD
      have start : R K ((c.reb F1).tmp ((D, HO.lst []) :: c.tm)) (wipeE e1 vs) (L2.wipe σ vs) (upd H1 D (.lst [])) F1 := (r1.reb.addTm hD rfl).wipe vs
      refine ⟨fun i m H => m = xs.length - i ∧ i ≤ xs.length ∧ ∃ e' F' aV aD, R K ((c.reb F1).tmp ((D, HO.lst aV) :: c.tm)) e' (L2.wipe σ vs) H F' ∧ DpAll K F' aV aD ∧ lcL T vs tc fe (xs.drop i) e' aD = .ok ds eZ,
        ⟨_, rfl, Nat.zero_le _, _, F1, [], [], start, .nil, ql⟩, ?_⟩
      rintro i m H2 ⟨rfl, hle, e2, F2, aV, aD, r2, ha, hl⟩
      have s2 : Same F1 F2 := r2.aft.s1
      by_cases hlt : i < xs.length
      · have hd : xs.drop i = xs[i] :: xs.drop (i + 1) := by rw [List.drop_eq_getElem_cons hlt]
        rw [hd] at hl
        unfold lcL at hl
        obtain ⟨go, hy⟩ := it.go _ _ _ _ _ i xs[i] r2 s2 (List.getElem?_eq_getElem hlt)
        refine .inr ⟨go, fun H => ∃ e' F' aV aD, R K ((c.reb F1).tmp ((D, HO.lst aV) :: c.tm)) e' (L2.wipe σ vs) H F' ∧ DpAll K F' aV aD ∧ lcL T vs tc fe (xs.drop (i + 1)) e' aD = .ok ds eZ,
          fun H' ⟨e', F', aV', aD', k1, k2, k3⟩ => ⟨_, by omega, rfl, hlt, e', F', aV', aD', k1, k2, k3⟩, fun x H3 y => ?_⟩
        obtain ⟨F3, r3, s3, hx⟩ := hy x H3 y
        have ha3 := dl_mono s3 _ _ ha
        cases qs : setT T xs[i] e2 with
        | none => simp only [qs] at hl; cases hl
        | some e3 =>
          simp only [qs] at hl
          refine ⟨_, _, F3, _, r3.reb, hx, ?_⟩
          simp only [qs]
          intro σ4 H4 F4 dif r4'
          obtain ⟨r4, s4⟩ := r3.unreb r4'
          have hw : L2.wipe σ4 vs = L2.wipe σ vs := wipe_dif dif hT
          have ha4 := dl_mono s4 _ _ ha3
          refine ⟨hw, _, e3, F4, r4.reb, ?_⟩
          cases qt : tc e3 with
          | bad => simp only [qt] at hl; cases hl
          | exc x e5 => simp only [qt] at hl; cases hl
          | ok b e5 =>
            simp only [qt] at hl ⊢
            intro H5 F5 r5'
            obtain ⟨r5, s5⟩ := r4.unreb r5'
            have ha5 := dl_mono s5 _ _ ha4
            cases b with
            | false =>
              simp only at hl
              rw [if_neg Bool.false_ne_true]
              refine ⟨_, F5, aV, aD, ?_, ha5, hl⟩
              rw [← hw]
              exact r5.wipe vs
            | true =>
              simp only at hl
              rw [if_pos rfl]
              refine ⟨_, e5, F5, r5.reb, ?_⟩
              cases qe : vv fe e5 with
              | bad => simp only [qe] at hl; cases hl
              | exc x e6 => simp only [qe] at hl; cases hl
              | ok rv e6 =>
                simp only [qe] at hl ⊢
                intro yv H6 F6 r6' rr
                obtain ⟨r6, s6⟩ := r5.unreb r6'
                have ha6 := dl_mono s6 _ _ ha5
                obtain ⟨y, rfl⟩ := vv_still qe
                simp only at hl
                by_cases hz : aD.length < sizeLine
                · rw [if_pos hz] at hl
                  refine ⟨aV, (r6.tm (D, HO.lst aV) List.mem_cons_self).1, by rw [dl_len ha]; exact hz, _, F6, aV ++ [yv], aD ++ [y], ?_, dl_append ha6 (.cons rr .nil), hl⟩
                  rw [← hw]
                  exact (r6.setTm h0 rfl).wipe vs
                · rw [if_neg hz] at hl; cases hl
      · have e5 : i = xs.length := by omega
        subst e5
        rw [List.drop_length] at hl
        unfold lcL at hl
        cases hl
        obtain ⟨r3, rv⟩ := R.popTm (w := .ol false ds) r2 h0 ⟨aV, rfl, ha⟩ rfl
        refine .inl ⟨it.stop _ _ _ _ _ r2 s2, ?_⟩
        have r4 : R K (c.reb F1) (restE e1 eZ vs) σ H2 F2 := r1.reb.rest s2 r3
        obtain ⟨r5, _⟩ := r1.unreb r4
        refine h _ _ F2 r5 ?_
        obtain ⟨a, o, k1, k2, k3, k4, k5, k6, k7, k8⟩ := rv
        refine ⟨a, o, k1, k2, k3, k4, k5, k6, k7, fun j u q1 q2 q3 => ?_⟩
        rcases restE_get q1 with ⟨m1, m2⟩ | ⟨d, rfl, _⟩
        · exact k8 j u m2 q2 (by rw [L2.wipe_out m1]; exact q3)
        · cases q2
theorem de_lc {elt tg iter : Expr} {ifs : List Expr} {scope : Scope} {own : List (Str × Nat)} {T : Tg} {fi : FI} {tc : Ev → Out Bool} {fe : FE} (hc : X.calm = true) (hN : X.N.Nodup) (ok : BlkOk X.N X.env.scope scope own) (hT : ∀ w ∈ T.ix, w ∈ own.map (·.2)) (hi : DI X xn Wx tg iter fi)
    (hg : ∀ (s : Shared) (H : Hp) (C : Addr) (cl : List (Str × Addr)) (fp : List Addr), DGf (X.blk s H scope (compEnvC scope cl C X.env) fp) tg T) (ht : ∀ (s : Shared) (H : Hp) (C : Addr) (cl : List (Str × Addr)) (fp : List Addr), DTs (X.blk s H scope (compEnvC scope cl C X.env) fp) xn WF ifs tc)
    (he : ∀ (s : Shared) (H : Hp) (C : Addr) (cl : List (Str × Addr)) (fp : List Addr), DE (X.blk s H scope (compEnvC scope cl C X.env) fp) xn WF elt fe) (hs : ∀ x, foldedSetIterable iter X.env x = pure x := by intro _; rfl) :
    DE X xn Wx (.ListComp elt [⟨tg, iter, ifs, 0⟩] scope pos) (fLc T (own.map (·.2)) fi tc fe) :=
  PE_imp (pe_lc hc hN hi ok hg ht (fun s H C cl fp => de_v (he s H C cl fp)) hs) fun σ H Q q => lc_walk hT q
def sSetLc (i : Nat) (f : FE) : FS := fun e => ofE (f e) (setK i)
theorem ds_setLc {i : Nat} {y : Str} {py : Pos} {spos : Pos} {elt tg iter : Expr} {ifs : List Expr} {scope : Scope} {own : List (Str × Nat)} {T : Tg} {fi : FI} {tc : Ev → Out Bool} {fe : FE} (hc : X.calm = true) (hN : X.N.Nodup) (hy : X.N[i]? = some y) (hyl : X.env.scope.names.lookup y = some .local)
    (ok : BlkOk X.N X.env.scope scope own) (hT : ∀ w ∈ T.ix, w ∈ own.map (·.2)) (hi : DI X xn Wx tg iter fi)
    (hg : ∀ (s : Shared) (H : Hp) (C : Addr) (cl : List (Str × Addr)) (fp : List Addr), DGf (X.blk s H scope (compEnvC scope cl C X.env) fp) tg T) (ht : ∀ (s : Shared) (H : Hp) (C : Addr) (cl : List (Str × Addr)) (fp : List Addr), DTs (X.blk s H scope (compEnvC scope cl C X.env) fp) xn WF ifs tc)
    (he : ∀ (s : Shared) (H : Hp) (C : Addr) (cl : List (Str × Addr)) (fp : List Addr), DE (X.blk s H scope (compEnvC scope cl C X.env) fp) xn WF elt fe)
    (hsw : swapsWith (.ListComp elt [⟨tg, iter, ifs, 0⟩] scope pos) (some (.Name y py)) spos.line X.env = pure true) (hs : ∀ x, foldedSetIterable iter X.env x = pure x := by intro _; rfl) :
    DS X xn Wx (.Assign [.Name y py] (.ListComp elt [⟨tg, iter, ifs, 0⟩] scope pos) spos) (sSetLc i (fLc T (own.map (·.2)) fi tc fe)) :=
  PS_imp (ps_setLc hc hN hy hyl hsw hi ok hg ht (fun s H C cl fp => de_v (he s H C cl fp)) hs) fun D σ H q => by
    refine lc_walk (xn := xn) (Wx := Wx) (tc := tc) (fe := fe) hT ?_
    refine ts_e q fun c e e0 rv v H F qa r rr h => ?_
    exact set_ok r rr h
end
end DL

namespace DL
open PySem PySem.Spec PyProof.Rows L2
/-! ### what a def comes to, of what it is given -/
inductive FO where
  | ret (r : RV) (post : List Sl)
  | exc (x : Str) (post : List Sl)
  | bad
def Sl.toPar : Sl → Sl
  | .fr d => .fr d
  | .ol _ xs => .ol true xs
  | .od _ kvs => .od true kvs
def Sl.withPar (p : Bool) : Sl → Sl
  | .fr d => .fr d
  | .ol _ xs => .ol p xs
  | .od _ kvs => .od p kvs
theorem Sl.toPar_own (w : Sl) : w.toPar.isOwn = w.isOwn := by cases w <;> rfl
theorem Sl.toPar_par (w : Sl) : w.toPar.par = w.isOwn := by cases w <;> rfl
theorem Sl.withPar_own (p : Bool) (w : Sl) : (w.withPar p).isOwn = w.isOwn := by cases w <;> rfl
theorem Sl.withPar_par (p : Bool) (w : Sl) (h : w.isOwn = true) : (w.withPar p).par = p := by
  cases w with
  | fr d => cases h
  | ol q xs => rfl
  | od q kvs => rfl
variable [Inhabited Tbx]
section
variable {K : PySem.W.Frag} {F H F' H' : Hp}
theorem OwnAt.toPar {w : Sl} {o : HO} (h : OwnAt K F w o) : OwnAt K F w.toPar o := by cases w <;> exact h
theorem OwnAt.withPar {w : Sl} {o : HO} (p : Bool) (h : OwnAt K F w o) : OwnAt K F (w.withPar p) o := by cases w <;> exact h
/-- the addresses of the own ones -/
def ownA (vs : List V) (args : List Sl) : List Addr := (vs.zip args).filterMap fun p => if p.2.isOwn = true then (match p.1 with
  | .ref a => some a
  | _ => none) else none
theorem mem_ownA {vs : List V} {args : List Sl} {a : Addr} : a ∈ ownA vs args ↔ ∃ (i : Nat) (w : Sl), args[i]? = some w ∧ w.isOwn = true ∧ vs[i]? = some (V.ref a) := by
  unfold ownA
  rw [List.mem_filterMap]
  constructor
  · rintro ⟨p, hp, h⟩
    obtain ⟨i, hi⟩ := List.mem_iff_getElem?.mp hp
    obtain ⟨h1, h2⟩ := List.getElem?_zip_eq_some.mp hi
    split at h
    · rename_i ho
      split at h
      · rename_i b q
        cases h
        exact ⟨i, p.2, h2, ho, by rw [h1, q]⟩
      · cases h
    · cases h
  · rintro ⟨i, w, h1, h2, h3⟩
    refine ⟨(V.ref a, w), List.mem_iff_getElem?.mpr ⟨i, List.getElem?_zip_eq_some.mpr ⟨h3, h1⟩⟩, ?_⟩
    simp only [h2, if_true]
/-- at a def's entry -/
structure Ent (K : PySem.W.Frag) (F H : Hp) (vs : List V) (args : List Sl) : Prop where
  sub : Same F H
  imm : ∀ b o, F b = some o → isImm o = true
  tab : ∀ P ∈ tabsI, GxR.TabG H P
  len : vs.length = args.length
  fr : ∀ (i : Nat) d, args[i]? = some (Sl.fr d) → ∃ v, vs[i]? = some v ∧ Dp K F v d
  ow : ∀ (i : Nat) (w : Sl), args[i]? = some w → w.isOwn = true → w.par = true ∧ ∃ a o, vs[i]? = some (V.ref a) ∧ H a = some o ∧ F a = none ∧ OwnAt K F w o
  ne : ∀ (i j : Nat) (a : Addr) (w u : Sl), i ≠ j → args[i]? = some w → w.isOwn = true → args[j]? = some u → u.isOwn = true → vs[i]? = some (V.ref a) → vs[j]? = some (V.ref a) → False
def entC (F H : Hp) (vs : List V) (args : List Sl) : C0 := ⟨F, H, ownA vs args, [], vs⟩
def startE (n : Nat) (args : List Sl) : Ev := args.map some ++ List.replicate (n - args.length) none
theorem startE_get {n : Nat} {args : List Sl} {i : Nat} {w : Sl} (h : (startE n args)[i]? = some (some w)) : args[i]? = some w := by
  unfold startE at h
  by_cases hi : i < args.length
  · rw [List.getElem?_append_left (by simpa using hi), List.getElem?_map] at h
    cases q : args[i]? with
    | none => rw [q] at h; cases h
    | some x => rw [q] at h; cases h; rfl
  · rw [List.getElem?_append_right (by simpa using hi), List.getElem?_replicate] at h
    split at h <;> cases h
theorem start_get {N : List Str} {vs : List V} {i : Nat} {v : V} (h : vs[i]? = some v) : (L2.start N vs)[i]? = some (some v) := by
  unfold L2.start
  have hi : i < vs.length := lt_of_get h
  rw [List.getElem?_append_left (by simpa using hi), List.getElem?_map, h]
  rfl
theorem start_inv {N : List Str} {vs : List V} {i : Nat} {v : V} (h : (L2.start N vs)[i]? = some (some v)) : vs[i]? = some v := by
  unfold L2.start at h
  by_cases hi : i < vs.length
  · rw [List.getElem?_append_left (by simpa using hi), List.getElem?_map] at h
    cases q : vs[i]? with
    | none => rw [q] at h; cases h
    | some x => rw [q] at h; cases h; rfl
  · rw [List.getElem?_append_right (by simpa using hi), List.getElem?_replicate] at h
    split at h <;> cases h
theorem Ent.R {vs : List V} {args : List Sl} (x : Ent K F H vs args) (N : List Str) : R K (entC F H vs args) (startE N.length args) (L2.start N vs) H F where
  aft := ⟨x.sub, Same.refl _, fun _ h => h, fun _ h _ => h, fun _ _ h _ _ => h, x.tab, x.imm⟩
  len := by
    unfold L2.start startE
    rw [List.length_append, List.length_append, List.length_map, List.length_map, List.length_replicate, List.length_replicate, x.len]
  fr := fun i d h => by
    obtain ⟨v, h1, h2⟩ := x.fr i d (startE_get h)
    exact ⟨v, start_get h1, h2⟩
  ow := fun i w h ho => by
    obtain ⟨h0, a, o, h1, h2, h3, h4⟩ := x.ow i w (startE_get h) ho
    exact ⟨a, o, start_get h1, h2, h3, h4, fun _ => mem_ownA.mpr ⟨i, w, startE_get h, ho, h1⟩, fun hp => (by rw [h0] at hp; cases hp), by simp [entC]⟩
  ne := fun i j a w u hij h1 h2 h3 h4 h5 h6 => x.ne i j a w u hij (startE_get h1) h2 (startE_get h3) h4 (start_inv h5) (start_inv h6)
  tm := fun p hp => by cases hp
  tmnd := List.nodup_nil
  pr := fun i w h hp => by
    have ho : w.isOwn = true := by
      cases w with
      | fr d => cases hp
      | ol p xs => rfl
      | od p kvs => rfl
    obtain ⟨_, a, o, h1, _⟩ := x.ow i w (startE_get h) ho
    exact ⟨_, h1, start_get h1⟩
/-- behind a def -/
structure Ext (K : PySem.W.Frag) (F H : Hp) (vs : List V) (args : List Sl) (F' H' : Hp) (post : List Sl) (r : RV) (v : V) : Prop where
  aft : Aft (ownA vs args) F H F' H'
  len : post.length = args.length
  cont : ∀ (i : Nat) (w : Sl), post[i]? = some w → w.isOwn = true → ∃ a o, vs[i]? = some (V.ref a) ∧ H' a = some o ∧ F' a = none ∧ OwnAt K F' w o
  kind : ∀ (i : Nat) (w : Sl), post[i]? = some w → ∃ u, args[i]? = some u ∧ u.isOwn = w.isOwn
  rv : match r with
    | .val d => Dp K F' v d
    | .new w => ∃ a o, v = .ref a ∧ H' a = some o ∧ F' a = none ∧ OwnAt K F' w o ∧ w.par = false ∧ H a = none
    | .own _ => False
/-- what has become of the own arguments -/
def backs : List Sl → Ev → Option (List Sl)
  | [], _ => some []
  | .fr d :: ws, _ :: es => (backs ws es).map (Sl.fr d :: ·)
  | .ol _ _ :: ws, some w :: es => if (w.isOwn && w.par) = true then (backs ws es).map (w :: ·) else none
  | .od _ _ :: ws, some w :: es => if (w.isOwn && w.par) = true then (backs ws es).map (w :: ·) else none
  | _, _ => none
theorem backs_len : ∀ {ws : List Sl} {e : Ev} {ps : List Sl}, backs ws e = some ps → ps.length = ws.length
  | [], _, ps, h => by cases h; rfl
  | .fr d :: ws, [], _, h => by cases h
  | .fr d :: ws, _ :: es, ps, h => by
    obtain ⟨qs, h1, rfl⟩ := Option.map_eq_some_iff.mp h
    exact congrArg Nat.succ (backs_len h1)
  | .ol _ _ :: ws, [], _, h => by cases h
  | .ol _ _ :: ws, none :: es, _, h => by cases h
  | .ol p xs :: ws, some w :: es, ps, h => by
    have h' : (if (w.isOwn && w.par) = true then (backs ws es).map (w :: ·) else none) = some ps := h
    split at h'
    · obtain ⟨qs, h1, rfl⟩ := Option.map_eq_some_iff.mp h'
      exact congrArg Nat.succ (backs_len h1)
    · cases h'
  | .od _ _ :: ws, [], _, h => by cases h
  | .od _ _ :: ws, none :: es, _, h => by cases h
  | .od p xs :: ws, some w :: es, ps, h => by
    have h' : (if (w.isOwn && w.par) = true then (backs ws es).map (w :: ·) else none) = some ps := h
    split at h'
    · obtain ⟨qs, h1, rfl⟩ := Option.map_eq_some_iff.mp h'
      exact congrArg Nat.succ (backs_len h1)
    · cases h'
theorem backs_get : ∀ {ws : List Sl} {e : Ev} {ps : List Sl} {i : Nat} {w : Sl}, backs ws e = some ps → ps[i]? = some w → ∃ u, ws[i]? = some u ∧ u.isOwn = w.isOwn ∧ (w.isOwn = true → e[i]? = some (some w) ∧ w.par = true)
  | [], _, ps, i, w, h, q => by cases h; simp at q
  | .fr d :: ws, [], _, i, w, h, q => by cases h
  | .fr d :: ws, _ :: es, ps, i, w, h, q => by
    obtain ⟨qs, h1, rfl⟩ := Option.map_eq_some_iff.mp h
    cases i with
    | zero => cases q; exact ⟨_, rfl, rfl, fun z => by cases z⟩
    | succ i => exact backs_get (i := i) h1 q
  | .ol _ _ :: ws, [], _, i, w, h, q => by cases h
  | .ol _ _ :: ws, none :: es, _, i, w, h, q => by cases h
  | .ol p xs :: ws, some y :: es, ps, i, w, h, q => by
    have h' : (if (y.isOwn && y.par) = true then (backs ws es).map (y :: ·) else none) = some ps := h
    split at h'
    · rename_i ho
      rw [Bool.and_eq_true] at ho
      obtain ⟨qs, h1, rfl⟩ := Option.map_eq_some_iff.mp h'
      cases i with
      | zero => cases q; exact ⟨_, rfl, ho.1.symm, fun _ => ⟨rfl, ho.2⟩⟩
      | succ i => exact backs_get (i := i) h1 q
    · cases h'
  | .od _ _ :: ws, [], _, i, w, h, q => by cases h
  | .od _ _ :: ws, none :: es, _, i, w, h, q => by cases h
  | .od p xs :: ws, some y :: es, ps, i, w, h, q => by
    have h' : (if (y.isOwn && y.par) = true then (backs ws es).map (y :: ·) else none) = some ps := h
    split at h'
    · rename_i ho
      rw [Bool.and_eq_true] at ho
      obtain ⟨qs, h1, rfl⟩ := Option.map_eq_some_iff.mp h'
      cases i with
      | zero => cases q; exact ⟨_, rfl, ho.1.symm, fun _ => ⟨rfl, ho.2⟩⟩
      | succ i => exact backs_get (i := i) h1 q
    · cases h'
theorem R.ext {vs : List V} {args post : List Sl} {e : Ev} {σ : L2.St} (x : Ent K F H vs args) (r : R K (entC F H vs args) e σ H' F') (hb : backs args e = some post) {rv : RV} {v : V}
    (hr : match rv with
      | .val d => Dp K F' v d
      | .new w => RvAt K (entC F H vs args) e σ H' F' (.new w) v
      | .own _ => False) : Ext K F H vs args F' H' post rv v where
  aft := r.aft
  len := backs_len hb
  cont := fun i w h ho => by
    obtain ⟨u, k1, k2, k3⟩ := backs_get hb h
    obtain ⟨k4, k5⟩ := k3 ho
    obtain ⟨a, o, m1, m2, m3, m4, _⟩ := r.ow i w k4 ho
    obtain ⟨y, n1, n2⟩ := r.pr i w k4 k5
    rw [m1] at n2
    cases n2
    exact ⟨a, o, n1, m2, m3, m4⟩
  kind := fun i w h => by
    obtain ⟨u, k1, k2, _⟩ := backs_get hb h
    exact ⟨u, k1, k2⟩
  rv := by
    cases rv with
    | val d => exact hr
    | own i => exact hr.elim
    | new w =>
      obtain ⟨a, o, k1, k2, k3, k4, k5, k6, _⟩ := hr
      exact ⟨a, o, k1, k2, k3, k4, k5, k6⟩
def outF (args : List Sl) : SO → FO
  | .nx e => (match backs args e with
    | some ps => .ret (.val .none) ps
    | none => .bad)
  | .rt (.val d) e => (match backs args e with
    | some ps => .ret (.val d) ps
    | none => .bad)
  | .rt (.new w) e => (match backs args e with
    | some ps => .ret (.new w) ps
    | none => .bad)
  | .exc x e => (match backs args e with
    | some ps => .exc x ps
    | none => .bad)
  | _ => .bad
/-- a def by its body's mirror; n: how many names it has -/
def defM (n : Nat) (fb : FS) (args : List Sl) : FO := outF args (fb (startE n args))
/-- a def's promise by its mirror m, of n parameters -/
def spD (K : PySem.W.Frag) (xn : XN) (n : Nat) (m : List Sl → FO) : Sp := fun vs H Q E => vs.length = n ∧ ∃ F args, Ent K F H vs args ∧ match m args with
  | .ret r post => ∀ v F' H', Ext K F H vs args F' H' post r v → Q v H'
  | .exc x post => ∀ C d F' H', xn x C → Ext K F H vs args F' H' post (.val .none) .non → E C d H'
  | .bad => False
end
section
variable {P : Program} {w : World} {K : PySem.W.Frag} {mg : Str → Option Value} {base : Heap} {x qual : Str} {params : Arguments} {body : List Stmt} {scope : Scope} {dvs : List V} {kws : List (Str × V)} {f : Addr} {fd : FuncData} {xn : XN}
theorem body_ok {N : List Str} {n : Nat} {fb : FS} {vs : List V} {H : Hp} {Q : VK} {E : XK} (hsp : spD K xn n (defM N.length fb) vs H Q E) :
    tS K xn (fun cls d _ H' => E cls d H') fb { nx := fun _ H' => Q .non H', rt := Q } (L2.start N vs) H := by
    obtain ⟨hl, F0, args, en, h⟩ := hsp
    refine ⟨entC F0 H vs args, startE N.length args, F0, en.R N, ?_⟩
    unfold defM at h
    cases q : fb (startE N.length args) with
    | bad => simp only [q, outF] at h
    | bk e => simp only [q, outF] at h
    | ct e => simp only [q, outF] at h
    | nx e =>
      simp only [q, outF] at h
      cases qb : backs args e with
      | none => simp only [qb] at h
      | some post =>
        simp only [qb] at h
        exact fun σ H' F' r => h .non F' H' (r.ext en qb (rv := .val .none) .non)
    | exc y e =>
      simp only [q, outF] at h
      cases qb : backs args e with
      | none => simp only [qb] at h
      | some post =>
        simp only [qb] at h
        exact fun σ H' F' C d hx r => h C d F' H' hx (r.ext en qb (rv := .val .none) .non)
    | rt rv e =>
      cases rv with
      | own i => simp only [q, outF] at h
      | val d =>
        simp only [q, outF] at h
        cases qb : backs args e with
        | none => simp only [qb] at h
        | some post =>
          simp only [qb] at h
          exact fun σ H' F' v r rr => h v F' H' (r.ext en qb (rv := .val d) rr)
      | new w =>
        simp only [q, outF] at h
        cases qb : backs args e with
        | none => simp only [qb] at h
        | some post =>
          simp only [qb] at h
          exact fun σ H' F' v r rr => h v F' H' (r.ext en qb (rv := .new w) rr)
/-- THE RULE of a def -/
theorem fn_def {N ps : List Str} {k : Nat} {fb : FS} (F : FunD K x qual params body scope dvs kws f fd) (S : FnScope N ps scope)
    (hb : ∀ (cdv : Value) (A : Around) (outer : List Env) (s : Shared) (H : Hp) (E : XK), Room k (A.deeper (envOfC qual scope s.heap.objs.size f cdv)) →
      DSs (cxOf (L2.CX P w) P w K mg base N qual scope f cdv A outer s H E) xn (fun cls d _ H' => E cls d H') body fb) :
    FnOk P w K mg base (L2.CX P w) (k + 1) f fd ps (spD K xn ps.length (defM N.length fb)) :=
  F.ok S (fun vs H Q E q => q.1) fun cdv A outer s H vs Q E hr hsp => ⟨_, hb cdv A outer s H E hr, body_ok hsp⟩
end
end DL

namespace DL
open PySem PySem.Spec PyProof.Rows L2
variable [Inhabited Tbx]
/-! ### the call of a def -/
def argOf (e : Ev) : RV → Option Sl
  | .val d => some (.fr d)
  | .own i => (match e[i]? with
    | some (some w) => if w.isOwn = true then some w.toPar else none
    | _ => none)
  | .new _ => none
def argsOf (e : Ev) : List RV → Option (List Sl)
  | [] => some []
  | r :: rs => (match argOf e r with
    | some a => (argsOf e rs).map (a :: ·)
    | none => none)
theorem argsOf_get {e : Ev} : ∀ {rs : List RV} {as : List Sl}, argsOf e rs = some as → as.length = rs.length ∧ ∀ (j : Nat) (a : Sl), as[j]? = some a → ∃ rv, rs[j]? = some rv ∧ argOf e rv = some a
  | [], as, h => by cases h; exact ⟨rfl, fun j a q => by simp at q⟩
  | r :: rs, as, h => by
    have h' : (match argOf e r with | some a => (argsOf e rs).map (a :: ·) | none => none) = some as := h
    cases qa : argOf e r with
    | none => rw [qa] at h'; cases h'
    | some a =>
      rw [qa] at h'
      obtain ⟨bs, h1, rfl⟩ := Option.map_eq_some_iff.mp h'
      obtain ⟨k1, k2⟩ := argsOf_get h1
      refine ⟨congrArg Nat.succ k1, fun j b q => ?_⟩
      cases j with
      | zero => cases q; exact ⟨r, rfl, qa⟩
      | succ j => exact k2 j b q
theorem argOf_own {e : Ev} {rv : RV} {a : Sl} (h : argOf e rv = some a) (ho : a.isOwn = true) : ∃ (i : Nat) (w : Sl), rv = .own i ∧ e[i]? = some (some w) ∧ w.isOwn = true ∧ a = w.toPar := by
  cases rv with
  | val d => cases h; cases ho
  | new w => cases h
  | own i =>
    simp only [argOf] at h
    split at h
    · rename_i w q
      split at h
      · rename_i hw
        cases h
        exact ⟨i, w, rfl, q, hw, rfl⟩
      · cases h
    · cases h
theorem argOf_of_own {e : Ev} {i : Nat} {a : Sl} (h : argOf e (.own i) = some a) : ∃ w : Sl, e[i]? = some (some w) ∧ w.isOwn = true ∧ a = w.toPar := by
  simp only [argOf] at h
  split at h
  · rename_i w q
    split at h
    · rename_i hw
      cases h
      exact ⟨w, q, hw, rfl⟩
    · cases h
  · cases h
def RV.isOwnB (i : Nat) : RV → Bool
  | .own j => decide (i = j)
  | _ => false
def distinct : List RV → Bool
  | [] => true
  | .own i :: rs => (!rs.any (RV.isOwnB i)) && distinct rs
  | _ :: rs => distinct rs
theorem distinct_ne : ∀ {rs : List RV} {i j p : Nat}, distinct rs = true → rs[i]? = some (.own p) → rs[j]? = some (.own p) → i = j
  | [], _, _, _, _, h, _ => by simp at h
  | r :: rs, 0, 0, _, _, _, _ => rfl
  | r :: rs, 0, j + 1, p, hd, h1, h2 => by
    cases h1
    have hd' : ((!rs.any (RV.isOwnB p)) && distinct rs) = true := hd
    rw [Bool.and_eq_true, Bool.not_eq_true'] at hd'
    have : rs.any (RV.isOwnB p) = true := List.any_eq_true.mpr ⟨_, List.mem_of_getElem? (show rs[j]? = some (.own p) from h2), by simp [RV.isOwnB]⟩
    rw [hd'.1] at this; cases this
  | r :: rs, i + 1, 0, p, hd, h1, h2 => by
    cases h2
    have hd' : ((!rs.any (RV.isOwnB p)) && distinct rs) = true := hd
    rw [Bool.and_eq_true, Bool.not_eq_true'] at hd'
    have : rs.any (RV.isOwnB p) = true := List.any_eq_true.mpr ⟨_, List.mem_of_getElem? (show rs[i]? = some (.own p) from h1), by simp [RV.isOwnB]⟩
    rw [hd'.1] at this; cases this
  | r :: rs, i + 1, j + 1, p, hd, h1, h2 => by
    have hd' : distinct rs = true := by
      cases r with
      | own q =>
        have z : ((!rs.any (RV.isOwnB q)) && distinct rs) = true := hd
        rw [Bool.and_eq_true] at z
        exact z.2
      | val d => exact hd
      | new w => exact hd
    exact congrArg Nat.succ (distinct_ne hd' (show rs[i]? = _ from h1) (show rs[j]? = _ from h2))
def parAt (e : Ev) (i : Nat) : Bool := match e[i]? with
  | some (some w) => w.par
  | _ => false
def backE (e : Ev) : List RV → List Sl → Ev
  | .own i :: rs, w :: ws => (backE e rs ws).set i (some (w.withPar (parAt e i)))
  | .val _ :: rs, _ :: ws => backE e rs ws
  | .new _ :: rs, _ :: ws => backE e rs ws
  | _, _ => e
theorem backE_len (e : Ev) : ∀ (rs : List RV) (ws : List Sl), (backE e rs ws).length = e.length
  | [], [] => rfl
  | [], _ :: _ => rfl
  | .own i :: rs, [] => rfl
  | .val _ :: rs, [] => rfl
  | .new _ :: rs, [] => rfl
  | .own i :: rs, w :: ws => by
    show ((backE e rs ws).set i _).length = _
    rw [List.length_set, backE_len e rs ws]
  | .val _ :: rs, _ :: ws => backE_len e rs ws
  | .new _ :: rs, _ :: ws => backE_len e rs ws
theorem backE_get {e : Ev} {i : Nat} {w : Sl} : ∀ {rs : List RV} {ws : List Sl}, rs.length = ws.length → (backE e rs ws)[i]? = some (some w) →
    (e[i]? = some (some w) ∧ ∀ j : Nat, rs[j]? ≠ some (RV.own i)) ∨ ∃ (j : Nat) (w0 : Sl), rs[j]? = some (RV.own i) ∧ ws[j]? = some w0 ∧ w = w0.withPar (parAt e i)
  | [], ws, hl, h => by
    have h' : e[i]? = some (some w) := by cases ws <;> exact h
    exact .inl ⟨h', fun j q => by simp at q⟩
  | r :: rs, [], hl, h => by simp at hl
  | .val d :: rs, x :: ws, hl, h => by
    rcases backE_get (rs := rs) (ws := ws) (by simpa using hl) h with ⟨h1, h2⟩ | ⟨j, w0, h1, h2, h3⟩
    · refine .inl ⟨h1, fun j q => ?_⟩
      cases j with
      | zero => cases q
      | succ j => exact h2 j q
    · exact .inr ⟨j + 1, w0, h1, h2, h3⟩
  | .new d :: rs, x :: ws, hl, h => by
    rcases backE_get (rs := rs) (ws := ws) (by simpa using hl) h with ⟨h1, h2⟩ | ⟨j, w0, h1, h2, h3⟩
    · refine .inl ⟨h1, fun j q => ?_⟩
      cases j with
      | zero => cases q
      | succ j => exact h2 j q
    · exact .inr ⟨j + 1, w0, h1, h2, h3⟩
  | .own p :: rs, x :: ws, hl, h => by
    have h' : ((backE e rs ws).set p (some (x.withPar (parAt e p))))[i]? = some (some w) := h
    by_cases hp : p < (backE e rs ws).length
    · rw [get_set hp] at h'
      by_cases hi : i = p
      · rw [if_pos hi] at h'
        cases h'
        subst hi
        exact .inr ⟨0, x, rfl, rfl, rfl⟩
      · rw [if_neg hi] at h'
        rcases backE_get (rs := rs) (ws := ws) (by simpa using hl) h' with ⟨h1, h2⟩ | ⟨j, w0, h1, h2, h3⟩
        · refine .inl ⟨h1, fun j q => ?_⟩
          cases j with
          | zero => cases q; exact hi rfl
          | succ j => exact h2 j q
        · exact .inr ⟨j + 1, w0, h1, h2, h3⟩
    · rw [List.set_eq_of_length_le (by omega)] at h'
      have hi : i ≠ p := fun z => by
        have := lt_of_get h'
        omega
      rcases backE_get (rs := rs) (ws := ws) (by simpa using hl) h' with ⟨h1, h2⟩ | ⟨j, w0, h1, h2, h3⟩
      · refine .inl ⟨h1, fun j q => ?_⟩
        cases j with
        | zero => cases q; exact hi rfl
        | succ j => exact h2 j q
      · exact .inr ⟨j + 1, w0, h1, h2, h3⟩
section
variable {K : PySem.W.Frag} {c : C0} {e : Ev} {σ : L2.St} {F H F' H' : Hp}
theorem rvs_get : ∀ {rs : List RV} {vs : List V}, RvsAt K c e σ H F rs vs → vs.length = rs.length ∧ ∀ (j : Nat) rv, rs[j]? = some rv → ∃ v, vs[j]? = some v ∧ RvAt K c e σ H F rv v
  | [], vs, h => by
    obtain rfl : vs = [] := h
    exact ⟨rfl, fun j rv q => by simp at q⟩
  | r :: rs, vs, ⟨v, ws, e1, h1, h2⟩ => by
    subst e1
    obtain ⟨k1, k2⟩ := rvs_get h2
    refine ⟨congrArg Nat.succ k1, fun j rv q => ?_⟩
    cases j with
    | zero => cases q; exact ⟨v, rfl, h1⟩
    | succ j => exact k2 j rv q
theorem R.ent (r : R K c e σ H F) {rs : List RV} {vs : List V} {as : List Sl} (rr : RvsAt K c e σ H F rs vs) (ha : argsOf e rs = some as) (hd : distinct rs = true) : Ent K F H vs as := by
  obtain ⟨l1, g1⟩ := rvs_get rr
  obtain ⟨l2, g2⟩ := argsOf_get ha
  have key : ∀ (i : Nat) (w : Sl), as[i]? = some w → w.isOwn = true → ∃ (p : Nat) (u : Sl) (a : Addr) (o : HO), rs[i]? = some (RV.own p) ∧ e[p]? = some (some u) ∧ u.isOwn = true ∧ w = u.toPar ∧ vs[i]? = some (V.ref a) ∧ σ[p]? = some (some (V.ref a)) ∧ H a = some o ∧ F a = none ∧ OwnAt K F u o := fun i w h ho => by
    obtain ⟨rv, h1, h2⟩ := g2 i w h
    obtain ⟨p, u, rfl, h3, h4, h5⟩ := argOf_own h2 ho
    obtain ⟨v, h6, h7, _⟩ := g1 i _ h1
    obtain ⟨a, o, k1, k2, k3, k4, _⟩ := r.ow p u h3 h4
    rw [k1] at h7
    cases h7
    exact ⟨p, u, a, o, h1, h3, h4, h5, h6, k1, k2, k3, k4⟩
  refine ⟨r.aft.sub, r.aft.imm, r.aft.tab, by rw [l1, l2], fun i d h => ?_, fun i w h ho => ?_, fun i j a w u hij h1 h2 h3 h4 h5 h6 => ?_⟩
  · obtain ⟨rv, h1, h2⟩ := g2 i _ h
    cases rv with
    | val z =>
      cases h2
      exact g1 i _ h1
    | new w => cases h2
    | own p =>
      obtain ⟨w, _, h4, h5⟩ := argOf_of_own h2
      have := w.toPar_own
      rw [← h5, h4] at this
      cases this
  · obtain ⟨p, u, a, o, k1, k2, k3, k4, k5, k6, k7, k8, k9⟩ := key i w h ho
    exact ⟨by rw [k4, Sl.toPar_par]; exact k3, a, o, k5, k7, k8, by rw [k4]; exact k9.toPar⟩
  · obtain ⟨p, x, a1, o1, k1, k2, k3, k4, k5, k6, _⟩ := key i w h1 h2
    obtain ⟨q, y, a2, o2, m1, m2, m3, m4, m5, m6, _⟩ := key j u h3 h4
    rw [h5] at k5
    cases k5
    rw [h6] at m5
    cases m5
    by_cases hpq : p = q
    · subst hpq
      exact hij (distinct_ne hd k1 m1)
    · exact r.ne p q a x y hpq k2 k3 m2 m3 k6 m6
theorem R.back (r : R K c e σ H F) {rs : List RV} {vs : List V} {as post : List Sl} {rv : RV} {v : V} (rr : RvsAt K c e σ H F rs vs) (ha : argsOf e rs = some as) (x : Ext K F H vs as F' H' post rv v) : R K c (backE e rs post) σ H' F' := by
  obtain ⟨l1, g1⟩ := rvs_get rr
  obtain ⟨l2, g2⟩ := argsOf_get ha
  have hl : rs.length = post.length := by rw [x.len, l2]
  -- an own argument's address
  have own : ∀ a, a ∈ ownA vs as → ∃ (p : Nat) (u : Sl), e[p]? = some (some u) ∧ u.isOwn = true ∧ σ[p]? = some (some (V.ref a)) ∧ ∃ j : Nat, rs[j]? = some (RV.own p) := fun a hm => by
    obtain ⟨i, w, h1, h2, h3⟩ := mem_ownA.mp hm
    obtain ⟨y, k1, k2⟩ := g2 i w h1
    obtain ⟨p, u, rfl, k3, k4, k5⟩ := argOf_own k2 h2
    obtain ⟨z, k6, k7, _⟩ := g1 i _ k1
    rw [h3] at k6
    cases k6
    exact ⟨p, u, k3, k4, k7, i, k1⟩
  have stays : ∀ b o, H b = some o → b ∉ ownA vs as → isTab o = false → H' b = some o := x.aft.s3
  -- what stands in a slot now
  have now : ∀ (i : Nat) (w : Sl), (backE e rs post)[i]? = some (some w) → w.isOwn = true → ∃ (u : Sl) (a : Addr) (o : HO), e[i]? = some (some u) ∧ u.isOwn = true ∧ u.par = w.par ∧ σ[i]? = some (some (V.ref a)) ∧ H' a = some o ∧ F' a = none ∧ OwnAt K F' w o ∧ (w.par = true → a ∈ c.own) ∧ (w.par = false → c.H0 a = none) ∧ a ∉ c.tm.map (·.1) := fun i w h ho => by
    rcases backE_get hl h with ⟨h1, h2⟩ | ⟨j, w0, h1, h2, h3⟩
    · obtain ⟨a, o, k1, k2, k3, k4, k5, k6, k7⟩ := r.ow i w h1 ho
      have hn : a ∉ ownA vs as := fun hm => by
        obtain ⟨p, u, m1, m2, m3, j, m4⟩ := own a hm
        by_cases hp : p = i
        · subst hp
          exact h2 j m4
        · exact r.ne p i a u w hp m1 m2 h1 ho m3 k1
      exact ⟨w, a, o, h1, ho, rfl, k1, stays a o k2 hn k4.notTab, x.aft.s2 a k3 (by rw [k2]; exact fun z => by cases z), k4.mono x.aft.s1, k5, k6, k7⟩
    · have hw0 : w0.isOwn = true := by rw [h3, Sl.withPar_own] at ho; exact ho
      obtain ⟨u', k1, k2⟩ := x.kind j w0 h2
      obtain ⟨rv', m1, m2⟩ := g2 j u' k1
      rw [h1] at m1
      cases m1
      obtain ⟨u, m3, m4, m5⟩ := argOf_of_own m2
      obtain ⟨a, o, n1, n2, n3, n4⟩ := x.cont j w0 h2 hw0
      obtain ⟨z, q1, q2, _⟩ := g1 j _ h1
      rw [n1] at q1
      cases q1
      obtain ⟨a', o', t1, t2, t3, t4, t5, t6, t7⟩ := r.ow i u m3 m4
      rw [q2] at t1
      cases t1
      have hp : w.par = u.par := by
        rw [h3, Sl.withPar_par _ _ hw0]
        unfold parAt
        rw [m3]
      exact ⟨u, a, o, m3, m4, hp.symm, q2, n2, n3, by rw [h3]; exact n4.withPar _, fun z => t5 (by rw [← hp]; exact z), fun z => t6 (by rw [← hp]; exact z), t7⟩
  refine { aft := ⟨x.aft.sub, r.aft.s1.trans x.aft.s1, fun b q => x.aft.s0 b (r.aft.s0 b q), fun b q1 q2 => x.aft.s2 b (r.aft.s2 b q1 q2) (r.aft.s0 b q2), fun b o q1 q2 q3 => stays b o (r.aft.s3 b o q1 q2 q3) (fun hm => ?_) q3, x.aft.tab, x.aft.imm⟩, len := (by rw [backE_len]; exact r.len), fr := fun i d h => ?_, ow := fun i w h ho => ?_, ne := fun i j a w u hij h1 h2 h3 h4 h5 h6 => ?_, tm := fun p hp => ?_, tmnd := r.tmnd, pr := fun i w h hp => ?_ }
  · obtain ⟨p, u, m1, m2, m3, _⟩ := own b hm
    obtain ⟨a, o', k1, k2, k3, k4, k5, k6, k7⟩ := r.ow p u m1 m2
    rw [m3] at k1
    cases k1
    cases hp : u.par with
    | true => exact q2 (k5 hp)
    | false => rw [k6 hp] at q1; cases q1
  · rcases backE_get hl h with ⟨h1, h2⟩ | ⟨j, w0, h1, h2, h3⟩
    · obtain ⟨y, k1, k2⟩ := r.fr i d h1
      exact ⟨y, k1, dp_mono x.aft.s1 _ _ k2⟩
    · exfalso
      obtain ⟨u', k1, k2⟩ := x.kind j w0 h2
      obtain ⟨rv', m1, m2⟩ := g2 j u' k1
      rw [h1] at m1
      cases m1
      obtain ⟨u, m3, m4, m5⟩ := argOf_of_own m2
      have e1 : w0.isOwn = true := by rw [← k2, m5, Sl.toPar_own]; exact m4
      have e2 := Sl.withPar_own (parAt e i) w0
      rw [← h3, e1] at e2
      cases e2
  · obtain ⟨u, a, o, k1, k2, k3, k4, k5, k6, k7, k8, k9, k10⟩ := now i w h ho
    exact ⟨a, o, k4, k5, k6, k7, k8, k9, k10⟩
  · obtain ⟨w', _, _, k1, k2, _⟩ := now i w h1 h2
    obtain ⟨u', _, _, m1, m2, _⟩ := now j u h3 h4
    exact r.ne i j a w' u' hij k1 k2 m1 m2 h5 h6
  · obtain ⟨h1, h2, h3⟩ := r.tm p hp
    refine ⟨stays _ _ h1 (fun hm => ?_) h3, x.aft.s2 _ h2 (by rw [h1]; exact fun z => by cases z), h3⟩
    obtain ⟨q, u, m1, m2, m3, _⟩ := own _ hm
    obtain ⟨a, o', k1, k2, k3, k4, k5, k6, k7⟩ := r.ow q u m1 m2
    rw [m3] at k1
    cases k1
    exact k7 (List.mem_map.mpr ⟨p, hp, rfl⟩)
  · have ho : w.isOwn = true := by
      cases w with
      | fr d => cases hp
      | ol p xs => rfl
      | od p kvs => rfl
    obtain ⟨u, a, o, k1, k2, k3, k4, _⟩ := now i w h ho
    exact r.pr i u k1 (by rw [k3]; exact hp)
end
def fCall (m : List Sl → FO) (fa : FA) : FE := fun e => ob (fa e) fun rs e1 => match argsOf e1 rs with
  | some as => if distinct rs = true then (match m as with
    | .ret r post => .ok r (backE e1 rs post)
    | .exc x post => .exc x (backE e1 rs post)
    | .bad => .bad) else .bad
  | none => .bad
section
variable {X : Cx} {xn : XN} {Wx : WX} {pos : Pos}
theorem ta_ofC {K : PySem.W.Frag} {f : FA} {g : List RV → Ev → Out RV} {σ : L2.St} {H : Hp} {Q : VK} {Rk : List V → Hp → Prop} (h : tE K xn Wx (fun e => ob (f e) g) σ H Q)
    (k : ∀ (c : C0) (e e0 : Ev) (rs : List RV) (vs : List V) (H F : Hp), f e0 = .ok rs e → R K c e σ H F → RvsAt K c e σ H F rs vs → (match g rs e with
      | .ok r e' => Post K c e' σ r Q
      | .exc x e' => PostX K c e' σ xn Wx x
      | .bad => False) → Rk vs H) : tA K xn Wx f σ H Rk := by
  obtain ⟨c, e, F, r, h⟩ := h
  refine ⟨c, e, F, r, ?_⟩
  cases qa : f e with
  | bad => simp only [qa, ob] at h
  | exc x e1 => simp only [qa, ob] at h; exact h
  | ok b e1 =>
    simp only [qa, ob] at h
    exact fun v H' F' r' rv => k c e1 e b v H' F' qa r' rv h
theorem call_ok {n : Nat} {m : List Sl → FO} {σ : L2.St} {c : C0} {e : Ev} {H F : Hp} {rs : List RV} {vs : List V} {Q : VK} (rr : R X.K c e σ H F) (rv : RvsAt X.K c e σ H F rs vs) (hn : rs.length = n)
    (h : match (match argsOf e rs with
      | some as => if distinct rs = true then (match m as with
        | .ret r post => .ok r (backE e rs post)
        | .exc x post => .exc x (backE e rs post)
        | .bad => .bad) else .bad
      | none => .bad : Out RV) with
      | .ok r e' => Post X.K c e' σ r Q
      | .exc x e' => PostX X.K c e' σ xn Wx x
      | .bad => False) : spD X.K xn n m vs H Q (WE Wx σ) := by
  cases qa : argsOf e rs with
  | none => simp only [qa] at h
  | some as =>
    simp only [qa] at h
    by_cases hd : distinct rs = true
    · rw [if_pos hd] at h
      refine ⟨by rw [(rvs_get rv).1, hn], F, as, rr.ent rv qa hd, ?_⟩
      cases qm : m as with
      | bad => simp only [qm] at h
      | exc x post =>
        simp only [qm] at h ⊢
        exact fun C d F' H' hx ex => h C d H' F' hx (rr.back rv qa ex)
      | ret r post =>
        simp only [qm] at h ⊢
        intro v F' H' ex
        have r2 := rr.back rv qa ex
        refine h v H' F' r2 ?_
        have hv := ex.rv
        cases r with
        | val d => exact hv
        | own i => exact hv.elim
        | new w =>
          obtain ⟨a, o, k1, k2, k3, k4, k5, k6⟩ := hv
          refine ⟨a, o, k1, k2, k3, k4, k5, rr.h0 k6, rr.notTm k6, fun i u q1 q2 q3 => ?_⟩
          have hl : rs.length = post.length := by rw [ex.len, (argsOf_get qa).1]
          -- the slot's address is older
          rcases backE_get hl q1 with ⟨h1, _⟩ | ⟨j, w0, h1, h2, h3⟩
          · exact rr.notOwn k6 i u h1 q2 q3
          · obtain ⟨u', m1, m2⟩ := ex.kind j w0 h2
            obtain ⟨rv', m3, m4⟩ := (argsOf_get qa).2 j u' m1
            rw [h1] at m3
            cases m3
            obtain ⟨y, m5, m6, _⟩ := argOf_of_own m4
            exact rr.notOwn k6 i y m5 m6 q3
    · rw [if_neg hd] at h; exact h.elim
theorem de_call {k : Nat} {f : Addr} {fd : FuncData} {ps : List Str} {x : Str} {p : Pos} {ex : Expr} {es : List Expr} {m : List Sl → FO} {fa : FA} (F : FnOk X.prog X.w X.K X.mg X.base (L2.CX X.prog X.w) k f fd ps (spD X.K xn ps.length m)) (tk : Takes X Wx) (hr : Room k X.A) (hg : Gl X x) (hm : X.mg x = some (.ref f)) (hk : PySem.W.keepIn X.K (.ref f) = true) (hb : Binds X.K fd ps [])
    (ha : DA X xn Wx (ex :: es) fa) (hn : ∀ e rs e', fa e = .ok rs e' → rs.length = ps.length) (hdb : (x == ("__debug__" : Str)) = false := by decide) (he : starEach (ex :: es) X.env = (false, eval ex X.env) :: starEach es X.env := by rfl) (hpl : (backTo pos (starEach es X.env)).any (·.1) = false := by rfl) :
    DE X xn Wx (.Call (.Name x p) (ex :: es) [] pos) (fCall m fa) :=
  PE_imp (pe_callS (E := WE Wx) F hr hg hm hk hb (fun σ => passAt tk σ) ha hdb he hpl) fun σ H Q q => ta_ofC q fun c e e0 rs vs H1 F1 qa rr rv h =>
    call_ok rr rv (hn _ _ _ qa) h
end
end DL

namespace DL
open PySem PySem.Spec PyProof.Rows L2 GenW
variable [Inhabited Tbx]
/-! ### generator expressions in all and any -/
/-- all (q = true), any (q = false) -/
def quantL (q : Bool) (T : Tg) (fe : FE) : List PyData → Ev → Option Bool
  | [], _ => some q
  | d :: ds, e => match setT T d e with
    | none => none
    | some e1 => (match fe e1 with
      | .ok (.val (.bool b)) e2 => if b = q then quantL q T fe ds e2 else some b
      | _ => none)
theorem over_gen {A : Around} {elt : Expr} {gs : List Comprehension} {scope : Scope} {pos : Pos} {it acc : Value} {cenv : Env} : A.over (.compLoop (.GeneratorExp elt gs scope pos) 0 it acc cenv) [] = A.deeper cenv := by
  first
    | rfl
    | (obtain ⟨hd, d, fr, gs, u⟩ := A; simp [Around.over, Around.deeper, marksOver, frameCount, unitsOf, envsOf, guardsOf, pushEnvs, pushGuards, Code.envs, Code.env?, Code.isFrame, Code.guards, Code.isGuard, Code.weight, Code.frames, Code.isCreation, Code.isCaller, Code.cUnits])
theorem over_gen0 {A : Around} {elt : Expr} {gs : List Comprehension} {scope : Scope} {pos : Pos} {it acc : Value} {cenv : Env} : A.over (.compStart (.GeneratorExp elt gs scope pos) 0 it acc cenv) [] = A.deeper cenv := by
  first
    | rfl
    | (obtain ⟨hd, d, fr, gs, u⟩ := A; simp [Around.over, Around.deeper, marksOver, frameCount, unitsOf, envsOf, guardsOf, pushEnvs, pushGuards, Code.envs, Code.env?, Code.isFrame, Code.guards, Code.isGuard, Code.weight, Code.frames, Code.isCreation, Code.isCaller, Code.cUnits])
theorem inv_same {X : Cx} {pins : List (Addr × Obj)} {σ : L2.St} {H : Hp} {s s' : Shared} (I : Inv X pins σ H s) (k : ∀ b o, s.heap.get? b = some o → s'.heap.get? b = some o) (ho : s'.os = s.os) (hb : AllBare s'.gens) : Inv X pins σ H s' :=
  I.call' (ch := []) ho (Un.kept k) (I.hok.kept k) hb fun b z => absurd z (by simp)
section
variable {Y : Cx} {xn : XN} {T : Tg} {fe : FE} {c : C0} {q res : Bool}
/-- the generator's own state stands -/
def Live (Y : Cx) (c : C0) (s : Shared) : Prop := ∃ σ H F e, Inv Y [] σ H s ∧ R Y.K c e σ H F
def GEnd (Y : Cx) (c : C0) (q res : Bool) : GenEnd := fun n s₀ r s => ((r = .ok (.ret .none) ∨ r = .ok .next) ∧ (Live Y c s ∧ res = q)) ∨ ∃ e, r = .error e ∧ False
def GPr (Y : Cx) (c : C0) (q res : Bool) : Protocol := fun n s₀ v s kap => ∃ b, v = .bool b ∧ Live Y c s ∧ (b ≠ q → res = b) ∧ (b = q → ∀ s', s'.heap = s.heap → s'.os = s.os → AllBare s'.gens → kap (.send .none) s')
theorem seg_gen {elt tg iter : Expr} {scope : Scope} {pos : Pos} {cenv : Env} {A : Around} {J : It} {fp : List Addr} {it : Addr} {tn : Nat → Heap → Prop} {xs : List PyData} {F1 : Hp}
    (hA : Y.A = A.deeper cenv) (hE : Y.env = cenv) (hc : Y.calm = true) (hco : cenv.scope.isCoroutine = false) (hpn : ∀ p ∈ Y.pn, ∀ b ∈ fp, p.1 ≠ b) (hex : Y.ex = fp) (hxe : Y.xe = fun _ _ => False)
    (tu : Turn Y.prog Y.w Y.K tg J fp it tn) (io : ItOk Y.K J xs F1) (hg : DGf Y tg T) (he : DE Y xn WF elt fe) :
    ∀ (k i n : Nat) (s₀ s : Shared) (σ : L2.St) (H F : Hp) (e : Ev), xs.length - i = k → i ≤ xs.length → k ≤ n → Inv Y [] σ H s → tn i s.heap → (∀ b ∈ fp, H b = none) → R Y.K c e σ H F → Same F1 F → quantL q T fe (xs.drop i) e = some res →
      Seg (model Y.prog Y.w) A (GEnd Y c q res) (GPr Y c q res) n s₀ (.compLoop (.GeneratorExp elt [⟨tg, iter, [], 0⟩] scope pos) 0 (.ref it) .none cenv)
        ((model Y.prog Y.w).den (.compLoop (.GeneratorExp elt [⟨tg, iter, [], 0⟩] scope pos) 0 (.ref it) .none cenv)) [] s := by
  subst hE
  have stat : ∀ {σ : L2.St} {H : Hp} {s : Shared}, Inv Y [] σ H s → (∀ b ∈ fp, H b = none) → ∀ b ∈ fp, FpOk Y [] H b := fun {σ H s} I hn b hb =>
    ⟨hn b hb, (I.ok.exf b (by rw [hex]; exact hb)).1, I.ok.exfs b (by rw [hex]; exact hb), .inl (by rw [hex]; exact hb), fun x c e => (I.ok.exf b (by rw [hex]; exact hb)).2 x c e, fun p hp => by
      rw [List.append_nil] at hp
      exact hpn p hp b hb⟩
  have noF : ∀ {α : Type} {Q : α → Shared → Prop} {E : Value → Shared → Prop} {A' : Around} {m : Sem α} {s : Shared}, wpAny (model Y.prog Y.w) A' m Q Y.xe s → wpAny (model Y.prog Y.w) A' m Q E s := fun h => wpAny_mono h (fun _ _ x => x) fun _ _ x => by rw [hxe] at x; exact x.elim
  intro k
  induction k with
  | zero =>
    intro i n s₀ s σ H F e hk hi hn I st nf r sm hq
    have e5 : i = xs.length := by omega
    subst e5
    rw [List.drop_length] at hq
    cases hq
    show Seg _ A _ _ _ s₀ _ ((compTurn (.GeneratorExp elt [⟨tg, iter, [], 0⟩] scope pos) 0 (.ref it) .none Y.env).onRaise (leaving Y.env)) [] s
    rw [compTurn_gen, Sem.onRaise_eq_wrap]
    refine seg_bind_wrap (wpAny_standAt ?_)
    refine seg_bind_wrap ?_
    rw [over_gen, ← hA]
    refine wpAny_mono (tu.done Y rfl rfl rfl hc _ [] s σ H (fun _ _ => False) I (stat I nf) st (io.stop _ _ _ _ _ r sm)) (fun x s1 ⟨hx, I1⟩ => ?_) fun _ _ x => x.elim
    subst hx
    exact seg_end (.ok .next) (.inl ⟨.inr rfl, ⟨σ, H, F, e, I1, r⟩, rfl⟩)
  | succ k ih =>
    intro i n s₀ s σ H F e hk hi hn I st nf r sm hq
    have hlt : i < xs.length := by omega
    obtain ⟨n', rfl⟩ : ∃ n', n = n' + 1 := ⟨n - 1, by omega⟩
    have hd : xs.drop i = xs[i] :: xs.drop (i + 1) := by rw [List.drop_eq_getElem_cons hlt]
    rw [hd] at hq
    unfold quantL at hq
    obtain ⟨go, hy⟩ := io.go _ _ _ _ _ i xs[i] r sm (List.getElem?_eq_getElem hlt)
    show Seg _ A _ _ _ s₀ _ ((compTurn (.GeneratorExp elt [⟨tg, iter, [], 0⟩] scope pos) 0 (.ref it) .none Y.env).onRaise (leaving Y.env)) [] s
    rw [compTurn_gen, Sem.onRaise_eq_wrap]
    refine seg_bind_wrap (wpAny_standAt ?_)
    refine seg_bind_wrap ?_
    rw [over_gen, ← hA]
    refine wpAny_mono (tu.item Y rfl rfl rfl hc i [] s σ H (fun _ _ => False) I (stat I nf) st go) (fun x s1 ⟨u, hx, h1⟩ => ?_) fun _ _ x => x.elim
    subst hx
    refine seg_bind_wrap ?_
    rw [over_gen, ← hA]
    refine wpAny_mono h1 (fun _ s2 ⟨y, H2, I2, ry, yy, st2, nf2⟩ => ?_) fun _ _ x => x.elim
    obtain ⟨F2, r2, sm2, hdy⟩ := hy y H2 yy
    cases qs : setT T xs[i] e with
    | none => simp only [qs] at hq; cases hq
    | some e1 =>
      simp only [qs] at hq
      have I2' := I2.pinned (stat I2 nf2) (tu.obj _ _ st2)
      refine seg_bind_wrap ?_
      rw [over_gen, ← hA]
      refine noF (wpAny_mono (hg.run _ s2 σ H2 y u (fun σ' H' => ∃ F', R Y.K c e1 σ' H' F' ∧ Same F2 F') I2' ry ⟨c.reb F2, e, F2, xs[i], r2.reb, hdy, ?_⟩) (fun _ s3 ⟨σ3, H3, I3, F3, r3, sm3⟩ => ?_) fun _ _ x => x)
      · simp only [qs]
        intro σ' H' F' _ r'
        obtain ⟨r'', s''⟩ := r2.unreb r'
        exact ⟨F', r'', s''⟩
      · simp only [List.forIn_nil]
        refine seg_bind_wrap (wpAny_pure ?_)
        simp only [if_true]
        have hyo : ∀ v, yieldOut Y.env v = yieldValue v := fun v => by simp only [yieldOut, hco, Bool.false_eq_true, if_false]
        simp only [hyo]
        rw [Sem.bind_eq_wrap', Sem.bind_eq_wrap', Sem.wrap_wrap, Sem.wrap_wrap]
        refine seg_wrap ?_
        rw [over_gen, ← hA]
        cases qe : fe e1 with
        | bad => simp only [qe] at hq; cases hq
        | exc x e2 => simp only [qe] at hq; cases hq
        | ok rv e2 =>
          have hq' : ∃ b, rv = .val (.bool b) ∧ (if b = q then quantL q T fe (xs.drop (i + 1)) e2 else some b) = some res := by
            simp only [qe] at hq
            split at hq
            · rename_i b e2' q2
              cases q2
              exact ⟨b, rfl, hq⟩
            · cases hq
          obtain ⟨b, rfl, hq⟩ := hq'
          refine noF (wpAny_mono (he.run _ s3 σ3 H3 (fun v H' => ∃ F', v = .bl b ∧ R Y.K c e2 σ3 H' F' ∧ Same F3 F') I3 ⟨c.reb F3, e1, F3, r3.reb, ?_⟩) (fun v s4 ⟨y4, H4, I4, ry4, F4, ey4, r4, sm4⟩ => ?_) fun _ _ x => x)
          · simp only [qe]
            intro v H' F' r' rr
            obtain ⟨r'', s''⟩ := r3.unreb r'
            exact ⟨F', dp_bl_inv rr, r'', s''⟩
          · subst ey4
            have ev : v = Value.bool b := ry4
            subst ev
            have pin' : ∀ b ∈ fp, ∀ o, s2.heap.get? b = some o → s4.heap.get? b = some o ∧ H4 b = none := fun b hb o e =>
              let z := I4.pin (b, o) (List.mem_append_right _ (List.mem_append_right _ (mem_pinsAt hb e)))
              ⟨z.1, z.2.1⟩
            have I4' : Inv Y [] σ3 H4 s4 := I4.unpinned (pins := [])
            refine seg_at (seg_yield rfl rfl rfl ⟨b, rfl, ⟨σ3, H4, F4, e2, I4', r4⟩, fun hb => ?_, fun hb s5 hs ho hbare => ?_⟩)
            · rw [if_neg hb] at hq
              exact (Option.some.inj hq).symm
            · rw [if_pos hb] at hq
              refine seg_again rfl (ih (i + 1) n' s5 s5 σ3 H4 F4 e2 (by omega) hlt (by omega) (inv_same I4' (fun b o e => by rw [hs]; exact e) ho hbare) (tu.keep _ _ _ st2 fun b hb o e => by rw [hs]; exact (pin' b hb o e).1) (fun b hb => ?_) r4 (sm.trans (sm2.trans (sm3.trans sm4))) hq)
              obtain ⟨o, e, _⟩ := tu.obj _ _ st2 b hb
              exact (pin' b hb o e).2
/-- from its beginning -/
theorem seg_gen0 {elt tg iter : Expr} {scope : Scope} {pos : Pos} {cenv : Env} {A : Around} {J : It} {fp : List Addr} {it : Addr} {tn : Nat → Heap → Prop} {xs : List PyData} {F1 : Hp}
    (hA : Y.A = A.deeper cenv) (hE : Y.env = cenv) (hc : Y.calm = true) (hco : cenv.scope.isCoroutine = false) (hpn : ∀ p ∈ Y.pn, ∀ b ∈ fp, p.1 ≠ b) (hex : Y.ex = fp) (hxe : Y.xe = fun _ _ => False)
    (tu : Turn Y.prog Y.w Y.K tg J fp it tn) (io : ItOk Y.K J xs F1) (hg : DGf Y tg T) (he : DE Y xn WF elt fe) (n : Nat) (s₀ s : Shared) (σ : L2.St) (H F : Hp) (e : Ev) (hn : xs.length ≤ n) (I : Inv Y [] σ H s) (st : tn 0 s.heap) (nf : ∀ b ∈ fp, H b = none) (r : R Y.K c e σ H F) (sm : Same F1 F) (hq : quantL q T fe xs e = some res) :
      Seg (model Y.prog Y.w) A (GEnd Y c q res) (GPr Y c q res) n s₀ (.compStart (.GeneratorExp elt [⟨tg, iter, [], 0⟩] scope pos) 0 (.ref it) .none cenv)
        ((model Y.prog Y.w).den (.compStart (.GeneratorExp elt [⟨tg, iter, [], 0⟩] scope pos) 0 (.ref it) .none cenv)) [] s := by
  have loop := seg_gen (iter := iter) (scope := scope) (pos := pos) hA hE hc hco hpn hex hxe tu io hg he xs.length 0 n s₀ s σ H F e (Nat.sub_zero _) (Nat.zero_le _) hn I st nf r sm hq
  show Seg _ A _ _ _ s₀ _ ((compStart (.GeneratorExp elt [⟨tg, iter, [], 0⟩] scope pos) 0 (.ref it) .none cenv).onRaise (leaving cenv)) [] s
  unfold compStart
  rw [Sem.onRaise_eq_wrap]
  show Seg _ A _ _ _ s₀ _ ((ask >>= _).wrap _ _ _ _) [] s
  refine seg_bind_wrap (wpAny_askSetting ?_)
  split
  · exact seg_again rfl loop
  · first
      | exact seg_bind_wrap (wpAny_rule (seg_bind_wrap (wpAny_standAt (seg_bind_wrap (tu.self _ 0 s _ _ st (seg_again rfl loop))))))
      | (refine seg_bind_wrap (wpAny_rule ?_); show Seg _ A _ _ _ s₀ _ ((standAt iter.pos >>= _).wrap _ _ _ _) [] s; exact seg_bind_wrap (wpAny_standAt (seg_bind_wrap (tu.self _ 0 s _ _ st (seg_again rfl loop)))))
/-- what is asked of the generator's object and number -/
structure GObj (Y : Cx) (c : C0) (ga : Addr) (g : Nat) : Prop where
  gen : ∀ s, Live Y c s → s.heap.IsGen ga g
theorem live_more {s s' : Shared} (h : Live Y c s) (k : ∀ b o, s.heap.get? b = some o → s'.heap.get? b = some o) (ho : s'.os = s.os) (hb : AllBare s'.gens) : Live Y c s' := by
  obtain ⟨σ, H, F, e, I, r⟩ := h
  exact ⟨σ, H, F, e, inv_same I k ho hb, r⟩
theorem live_bare {s : Shared} (h : Live Y c s) : AllBare s.gens := let ⟨_, _, _, _, I, _⟩ := h; I.bare
theorem live_lim {s : Shared} (h : Live Y c s) : s.heap.NoLimit := let ⟨_, _, _, _, I, _⟩ := h; I.nolimit
theorem all_drain {A : Around} {Rr : Result → Shared → Prop} {ga : Addr} {g : Nat} (hh : A.handled = none) (hd : A.depth < recursionLimit) (G : GObj Y c ga g)
    (hfin : ∀ s', Live Y c s' → Rr (.ok (.ret (.bool res))) s') :
    ∀ (m : Nat) (s : Shared), s.heap.IsGen ga g → s.heap.NoLimit → (∃ gs, s.gens[g]? = some gs ∧ gs.Goes (model Y.prog Y.w) A.in1.in1 (GEnd Y c true res) (GPr Y c true res) m (.send .none) (s.setGen g .running)) →
      codeAny (model Y.prog Y.w) A (.builtin "all.loop" ⟨[.ref ga], []⟩) Rr s := by
  have goes : ∀ {gs : GenState} {B : Around} {n : Nat} {r : Resume} {s : Shared}, gs.Goes (model Y.prog Y.w) B (GEnd Y c true res) (GPr Y c true res) n r s →
      gs.Goes (model Y.prog Y.w) B (fun n s₀ r s1 => ((r = .ok (.ret .none) ∨ r = .ok .next) ∧ (fun (_ : Nat) (_ : Shared) s1 => Live Y c s1 ∧ res = true) n s₀ s1) ∨ ∃ e, r = .error e ∧ (fun (_ : Value) (_ : Shared) => False) e s1) (GPr Y c true res) n r s := fun h => h
  intro m
  induction m with
  | zero =>
    intro s hg hl ⟨gs, hgs, hgo⟩
    refine codeAny_builtin F.entry_all_loop ?_
    rw [Around.under_plainId F.plain_all_loop _]
    show wpAny _ A.in1 (pyNext (.ref ga) >>= _) _ _ s
    refine wpAny_bind (next_genG (A := A.in1) hh hl hd hg hgs (goes hgo) (fun v s₁ gs' hbare hv => ?_) (fun s₁ hp h' hk => ?_) fun e s₁ he => he.elim)
    · obtain ⟨b, rfl, lv, h1, h2⟩ := hv
      refine wpAny_bind (wpAny_holding (wpAny_truthy_bool ?_))
      refine wpAny_bind (wpAny_letGo ?_)
      cases b with
      | true => exact (h2 rfl s₁ rfl rfl (live_bare lv)).elim
      | false =>
        simp only [Bool.false_eq_true, if_false]
        refine wpAny_bind (wpAny_rule (wpAny_pure ?_))
        have e1 : res = false := h1 Bool.false_ne_true
        rw [← e1]
        exact hfin _ (live_more lv (fun _ _ e => e) rfl (allBare_setGen (live_bare lv) hbare))
    · obtain ⟨lv, e1⟩ := hp
      refine wpAny_bind (wpAny_rule (wpAny_pure ?_))
      rw [← e1]
      exact hfin _ (live_more (s' := { s₁.setGen g .finished with heap := h' }) lv hk rfl (allBare_setGen (live_bare lv) rfl))
  | succ m ih =>
    intro s hg hl ⟨gs, hgs, hgo⟩
    have hgl : g < s.gens.size := (Array.getElem?_eq_some_iff.mp hgs).1
    refine codeAny_builtin F.entry_all_loop ?_
    rw [Around.under_plainId F.plain_all_loop _]
    show wpAny _ A.in1 (pyNext (.ref ga) >>= _) _ _ s
    refine wpAny_bind (wpAny_gsz (n := g + 1) hgl (next_genG (A := A.in1) hh hl hd hg hgs (goes hgo) (fun v s₁ gs' hbare hv => ?_) (fun s₁ hp h' hk => ?_) fun e s₁ he => he.elim))
    · intro hsz
      obtain ⟨b, rfl, lv, h1, h2⟩ := hv
      have lv' : Live Y c (s₁.setGen g gs') := live_more lv (fun _ _ e => e) rfl (allBare_setGen (live_bare lv) hbare)
      refine wpAny_bind (wpAny_holding (wpAny_truthy_bool ?_))
      refine wpAny_bind (wpAny_letGo ?_)
      cases b with
      | true =>
        simp only [if_true]
        have hsz1 : g < s₁.gens.size := by
          have q : (s₁.setGen g gs').gens.size = s₁.gens.size := setGen_size _ _ _
          have hsz' : g + 1 ≤ (s₁.setGen g gs').gens.size := hsz
          omega
        refine wpAny_pure ⟨plainId_quiet F.plain_all_loop _, ih (s₁.setGen g gs') (G.gen _ lv') (live_lim lv') ⟨gs', setGen_at hsz1, ?_⟩⟩
        exact h2 rfl _ rfl rfl (allBare_setGen (s := s₁.setGen g gs') (live_bare lv') rfl)
      | false =>
        simp only [Bool.false_eq_true, if_false]
        refine wpAny_bind (wpAny_rule (wpAny_pure ?_))
        have e1 : res = false := h1 Bool.false_ne_true
        rw [← e1]
        exact hfin _ lv'
    · intro hsz
      obtain ⟨lv, e1⟩ := hp
      refine wpAny_bind (wpAny_rule (wpAny_pure ?_))
      rw [← e1]
      exact hfin _ (live_more (s' := { s₁.setGen g .finished with heap := h' }) lv hk rfl (allBare_setGen (live_bare lv) rfl))
theorem any_drain {A : Around} {Rr : Result → Shared → Prop} {ga : Addr} {g : Nat} (hh : A.handled = none) (hd : A.depth < recursionLimit) (G : GObj Y c ga g)
    (hfin : ∀ s', Live Y c s' → Rr (.ok (.ret (.bool res))) s') :
    ∀ (m : Nat) (s : Shared), s.heap.IsGen ga g → s.heap.NoLimit → (∃ gs, s.gens[g]? = some gs ∧ gs.Goes (model Y.prog Y.w) A.in1.in1 (GEnd Y c false res) (GPr Y c false res) m (.send .none) (s.setGen g .running)) →
      codeAny (model Y.prog Y.w) A (.builtin "any.loop" ⟨[.ref ga], []⟩) Rr s := by
  have goes : ∀ {gs : GenState} {B : Around} {n : Nat} {r : Resume} {s : Shared}, gs.Goes (model Y.prog Y.w) B (GEnd Y c false res) (GPr Y c false res) n r s →
      gs.Goes (model Y.prog Y.w) B (fun n s₀ r s1 => ((r = .ok (.ret .none) ∨ r = .ok .next) ∧ (fun (_ : Nat) (_ : Shared) s1 => Live Y c s1 ∧ res = false) n s₀ s1) ∨ ∃ e, r = .error e ∧ (fun (_ : Value) (_ : Shared) => False) e s1) (GPr Y c false res) n r s := fun h => h
  intro m
  induction m with
  | zero =>
    intro s hg hl ⟨gs, hgs, hgo⟩
    refine codeAny_builtin F.entry_any_loop ?_
    rw [Around.under_plainId F.plain_any_loop _]
    show wpAny _ A.in1 (pyNext (.ref ga) >>= _) _ _ s
    refine wpAny_bind (next_genG (A := A.in1) hh hl hd hg hgs (goes hgo) (fun v s₁ gs' hbare hv => ?_) (fun s₁ hp h' hk => ?_) fun e s₁ he => he.elim)
    · obtain ⟨b, rfl, lv, h1, h2⟩ := hv
      refine wpAny_bind (wpAny_holding (wpAny_truthy_bool ?_))
      refine wpAny_bind (wpAny_letGo ?_)
      cases b with
      | false => exact (h2 rfl s₁ rfl rfl (live_bare lv)).elim
      | true =>
        simp only [if_true]
        refine wpAny_bind (wpAny_rule (wpAny_pure ?_))
        have e1 : res = true := h1 (fun z => by cases z)
        rw [← e1]
        exact hfin _ (live_more lv (fun _ _ e => e) rfl (allBare_setGen (live_bare lv) hbare))
    · obtain ⟨lv, e1⟩ := hp
      refine wpAny_bind (wpAny_rule (wpAny_pure ?_))
      rw [← e1]
      exact hfin _ (live_more (s' := { s₁.setGen g .finished with heap := h' }) lv hk rfl (allBare_setGen (live_bare lv) rfl))
  | succ m ih =>
    intro s hg hl ⟨gs, hgs, hgo⟩
    have hgl : g < s.gens.size := (Array.getElem?_eq_some_iff.mp hgs).1
    refine codeAny_builtin F.entry_any_loop ?_
    rw [Around.under_plainId F.plain_any_loop _]
    show wpAny _ A.in1 (pyNext (.ref ga) >>= _) _ _ s
    refine wpAny_bind (wpAny_gsz (n := g + 1) hgl (next_genG (A := A.in1) hh hl hd hg hgs (goes hgo) (fun v s₁ gs' hbare hv => ?_) (fun s₁ hp h' hk => ?_) fun e s₁ he => he.elim))
    · intro hsz
      obtain ⟨b, rfl, lv, h1, h2⟩ := hv
      have lv' : Live Y c (s₁.setGen g gs') := live_more lv (fun _ _ e => e) rfl (allBare_setGen (live_bare lv) hbare)
      refine wpAny_bind (wpAny_holding (wpAny_truthy_bool ?_))
      refine wpAny_bind (wpAny_letGo ?_)
      cases b with
      | false =>
        simp only [Bool.false_eq_true, if_false]
        have hsz1 : g < s₁.gens.size := by
          have q : (s₁.setGen g gs').gens.size = s₁.gens.size := setGen_size _ _ _
          have hsz' : g + 1 ≤ (s₁.setGen g gs').gens.size := hsz
          omega
        refine wpAny_pure ⟨plainId_quiet F.plain_any_loop _, ih (s₁.setGen g gs') (G.gen _ lv') (live_lim lv') ⟨gs', setGen_at hsz1, ?_⟩⟩
        exact h2 rfl _ rfl rfl (allBare_setGen (s := s₁.setGen g gs') (live_bare lv') rfl)
      | true =>
        simp only [if_true]
        refine wpAny_bind (wpAny_rule (wpAny_pure ?_))
        have e1 : res = true := h1 (fun z => by cases z)
        rw [← e1]
        exact hfin _ lv'
    · intro hsz
      obtain ⟨lv, e1⟩ := hp
      refine wpAny_bind (wpAny_rule (wpAny_pure ?_))
      rw [← e1]
      exact hfin _ (live_more (s' := { s₁.setGen g .finished with heap := h' }) lv hk rfl (allBare_setGen (live_bare lv) rfl))
end
end DL

namespace DL
open PySem PySem.Spec PyProof.Rows L2 GenW
variable [Inhabited Tbx]
/-- the generator's context: N its names, cenv its frame, fp what it walks, pn its object -/
def gx (X : Cx) (s : Shared) (H : Hp) (N : List Str) (cenv : Env) (fp : List Addr) (pn : List (Addr × Obj)) : Cx :=
  { X with N := N, s_0 := s, H_0 := H, env := cenv, A := X.A.in1.in1.deeper cenv, outer := X.stack, stack := cenv :: X.stack, ex := fp, fn := fun _ => false, calm := true, pn := pn, xe := fun _ _ => False }
/-- its scope, of XN, sc, the names and scope around it; src: the slots that are taken from there -/
structure GenOk (XN : List Str) (sc scope : Scope) (N : List Str) (src : List (Option Nat)) : Prop where
  kind : scope.kind = .function
  co : scope.isCoroutine = false
  cell : ∀ y ∈ scope.names, y.2 ≠ .cell
  dot : scope.names.lookup (".0" : Str) = some NameKind.local
  free : ∀ y ∈ scope.names, y.2 = .free → sc.names.lookup y.1 = some .cell ∨ sc.names.lookup y.1 = some .free
  nd : N.Nodup
  len : src.length = N.length
  ix : ∀ q ∈ N.zip src, match q.2 with
    | some j => XN[j]? = some q.1 ∧ scope.names.lookup q.1 = some .free ∧ (sc.names.lookup q.1 = some .cell ∨ sc.names.lookup q.1 = some .free)
    | none => True
def capV (src : List (Option Nat)) (σ : L2.St) : L2.St := src.map fun q => match q with
  | some j => (σ[j]?).join
  | none => none
def capE (src : List (Option Nat)) (e : Ev) : Ev := src.map fun q => match q with
  | some j => frAt e j
  | none => none
theorem capV_get {src : List (Option Nat)} {σ : L2.St} {i : Nat} {v : V} (h : (capV src σ)[i]? = some (some v)) : ∃ j : Nat, src[i]? = some (some j) ∧ σ[j]? = some (some v) := by
  unfold capV at h
  rw [List.getElem?_map] at h
  cases q : src[i]? with
  | none => rw [q] at h; cases h
  | some o =>
    rw [q] at h
    cases o with
    | none => cases h
    | some j =>
      have h' : (σ[j]?).join = some v := Option.some.inj h
      exact ⟨j, rfl, Option.join_eq_some_iff.mp h'⟩
theorem capE_get {src : List (Option Nat)} {e : Ev} {i : Nat} {w : Sl} (h : (capE src e)[i]? = some (some w)) : ∃ (j : Nat) (d : PyData), src[i]? = some (some j) ∧ e[j]? = some (some (.fr d)) ∧ w = .fr d := by
  unfold capE at h
  rw [List.getElem?_map] at h
  cases q : src[i]? with
  | none => rw [q] at h; cases h
  | some o =>
    rw [q] at h
    cases o with
    | none => cases h
    | some j =>
      have h' : frAt e j = some w := Option.some.inj h
      unfold frAt at h'
      split at h'
      · rename_i d q2
        cases h'
        exact ⟨j, d, rfl, q2, rfl⟩
      · cases h'
theorem gen_R {K : PySem.W.Frag} {c : C0} {e : Ev} {σ : L2.St} {H F : Hp} (r : R K c e σ H F) (src : List (Option Nat)) : R K (entC F H [] []) (capE src e) (capV src σ) H F where
  aft := ⟨r.aft.sub, Same.refl _, fun _ h => h, fun _ h _ => h, fun _ _ h _ _ => h, r.aft.tab, r.aft.imm⟩
  len := by unfold capE capV; rw [List.length_map, List.length_map]
  fr := fun i d h => by
    obtain ⟨j, d', h1, h2, h3⟩ := capE_get h
    cases h3
    obtain ⟨v, k1, k2⟩ := r.fr j d h2
    refine ⟨v, ?_, k2⟩
    unfold capV
    rw [List.getElem?_map, h1]
    show some ((σ[j]?).join) = _
    rw [k1]
    rfl
  ow := fun i w h ho => by
    obtain ⟨j, d', h1, h2, h3⟩ := capE_get h
    subst h3
    cases ho
  ne := fun i j a w u hij h1 h2 h3 h4 => by
    obtain ⟨j, d', k1, k2, k3⟩ := capE_get h1
    subst k3
    cases h2
  tm := fun p hp => by cases hp
  tmnd := List.nodup_nil
  pr := fun i w h hp => by
    obtain ⟨j, d', k1, k2, k3⟩ := capE_get h
    subst k3
    cases hp
/-- .. and back -/
theorem gen_back {K : PySem.W.Frag} {c : C0} {e e' : Ev} {σ σ' : L2.St} {H F H' F' : Hp} (r : R K c e σ H F) (r' : R K (entC F H [] []) e' σ' H' F') : R K c e σ H' F' :=
  R.back r (rs := []) (vs := []) (as := []) (post := []) (rv := .val .none) (v := .non) rfl rfl ⟨r'.aft, rfl, fun i w h => by simp at h, fun i w h => by simp at h, .non⟩
section
variable {X : Cx} {pins : List (Addr × Obj)} {σ : L2.St} {H : Hp} {s : Shared}
theorem gen_inv {scope : Scope} {N : List Str} {src : List (Option Nat)} {cenv : Env} {fp : List Addr} {s5 : Shared} {ga : Addr} {go : Obj} {it : Value} (I : Inv X pins σ H s) (ok : GenOk X.N X.env.scope scope N src)
    (hsc : cenv.scope = scope) (hL : cenv.locals = s.heap.objs.size) (hcl : cenv.cells = cloFrom X.env.cells scope.names []) (hgl : cenv.globals = X.env.globals) (hbl : cenv.builtins = builtinsNs) (hfr : cenv.frame = some s.heap.objs.size)
    (hA : X.A.handled = none) (hfp : ∀ b ∈ fp, FpOk X pins H b ∧ b < s.heap.objs.size) (kp : ∀ b o, s.heap.get? b = some o → s5.heap.get? b = some o) (hos : s5.os = s.os) (hbare : AllBare s5.gens)
    (hns : s5.heap.Ns s.heap.objs.size (fun y => if y = ".0" then some it else none)) (hga : s5.heap.get? ga = some go) (hga' : s.heap.objs.size < ga) (hgo : ∀ v, go.data ≠ .cell v) :
    Inv (gx X s H N cenv fp [(ga, go)]) [] (capV src σ) H s5 := by
  have hfree : ∀ y ∈ scope.names, y.2 = .free → ∃ c, X.env.cells.lookup y.1 = some c := fun y hy e => by
    rcases ok.free y hy e with k | k
    · exact I.ok.has _ (.inl k)
    · exact I.ok.has _ (.inr k)
  have cm : ∀ {y c}, (y, c) ∈ cloFrom X.env.cells scope.names [] → X.env.cells.lookup y = some c ∧ c < s.heap.objs.size := fun {y c} hm => by
    rcases cloFrom_mem hm with hm | ⟨h1, rfl⟩
    · cases hm
    · obtain ⟨c, hc⟩ := hfree _ h1 rfl
      rw [hc]
      obtain ⟨w, z⟩ := I.cell _ _ hc
      exact ⟨rfl, z.lt⟩
  have mem : ∀ {y c}, cenv.cells.lookup y = some c → X.env.cells.lookup y = some c ∧ c < s.heap.objs.size := fun {y c} e => by
    rw [hcl] at e
    exact cm (PySem.mem_of_lookup e)
  have look : ∀ {y}, scope.names.lookup y = some .free → ∃ c, cenv.cells.lookup y = some c ∧ X.env.cells.lookup y = some c := fun {y} hl => by
    have hy : (y, NameKind.free) ∈ scope.names := PySem.mem_of_lookup hl
    obtain ⟨c', e'⟩ := L2.mem_lookup (cloFrom_has (cells := X.env.cells) (acc := []) hy)
    rw [← hcl] at e'
    exact ⟨c', e', (mem e').1⟩
  have hlt : ∀ y c, cenv.cells.lookup y = some c → c ≠ ga := fun y c e z => by
    have := (mem e).2
    rw [z] at this
    exact absurd (Nat.lt_trans this hga') (Nat.lt_irrefl _)
  have okB : (gx X s H N cenv fp [(ga, go)]).Ok := by
    refine ⟨I.ok.mod, (by show cenv.scope.kind = _; rw [hsc]; exact ok.kind), (by show cenv.globals = _; rw [hgl]; exact I.ok.glob), hbl, (by show s.heap.objs.size ≤ cenv.locals; rw [hL]; exact Nat.le_refl _),
      fun y z c e1 e2 => I.ok.inj y z c (mem e1).1 (mem e2).1, fun y hy => ?_, fun y c z e => ?_, fun _ => hA, Around.frames_deeper I.ok.frames, .inr ⟨rfl, ?_⟩, fun b hb => ⟨?_, fun y c e z => ?_⟩, I.bs, Nat.le_trans I.ok.bsz I.sz, fun b o e hb => ?_, fun b hb z => ?_, I.stack, I.stkFree⟩
    · have hy : cenv.scope.names.lookup y = some .cell ∨ cenv.scope.names.lookup y = some .free := hy
      rw [hsc] at hy
      rcases hy with hy | hy
      · exact absurd rfl (ok.cell _ (PySem.mem_of_lookup hy))
      · obtain ⟨c, h1, _⟩ := look hy
        exact ⟨c, h1⟩
    · cases z
    · show cenv.frame = some cenv.locals
      rw [hfr, hL]
    · show b ≠ cenv.locals
      rw [hL]; exact Nat.ne_of_lt (hfp b hb).2
    · exact (hfp b hb).1.2.2.2.2.1 y c (mem e).1 z
    · rcases (hfp b hb).1.2.2.2.1 with z | z
      · exact I.ok.noex b o e z
      · exact absurd (Nat.lt_of_lt_of_le (Heap.lt_size e) (Nat.le_trans I.ok.bsz z)) (Nat.lt_irrefl _)
    · rcases List.mem_cons.mp (I.stkSub b z) with z | z
      · exact (hfp b hb).1.2.1 z
      · exact (hfp b hb).1.2.2.1 z
  refine ⟨okB, hos, hbare, Un.kept kp, ⟨_, (by show Heap.Ns _ cenv.locals _; rw [hL]; exact hns), fun i y v e1 e2 e3 => ?_⟩, fun y c e => ?_, ?_, fun y c e => I.freeC y c (mem e).1, fun p hp => ?_, I.hok.kept kp, ?_⟩
  · obtain ⟨j, h1, h2⟩ := capV_get e2
    have hz : (y, some j) ∈ N.zip src := List.mem_iff_getElem?.mpr ⟨i, List.getElem?_zip_eq_some.mpr ⟨e1, h1⟩⟩
    obtain ⟨k1, k2, k3⟩ : X.N[j]? = some y ∧ scope.names.lookup y = some .free ∧ (X.env.scope.names.lookup y = some .cell ∨ X.env.scope.names.lookup y = some .free) := ok.ix _ hz
    obtain ⟨m, hm, hl⟩ := I.loc
    obtain ⟨u, ru, lk⟩ := hl j y v k1 h2 (k3.elim (fun z => .inr (.inl z)) fun z => .inr (.inr z))
    refine ⟨u, ru, .inr ⟨.inr (by show cenv.scope.names.lookup y = _; rw [hsc]; exact k2), ?_⟩⟩
    obtain ⟨c, c1, c2⟩ := look k2
    rcases lk with ⟨z, _⟩ | ⟨_, c', z1, z2⟩
    · have z : X.env.scope.names.lookup y = some .local := z
      rcases k3 with k3 | k3
      · rw [k3] at z; cases z
      · rw [k3] at z; cases z
    · rw [c2] at z1
      cases z1
      obtain ⟨o, ho, hr⟩ := z2
      exact ⟨c, c1, o, kp _ _ ho, hr⟩
  · obtain ⟨v, o, ho, hr⟩ := I.cell y c (mem e).1
    exact ⟨v, o, kp _ _ ho, hr⟩
  · show H cenv.locals = none
    rw [hL]; exact I.hok.fresh (Nat.le_refl _)
  · have hp : p ∈ [(ga, go)] ++ [] := hp
    rw [List.append_nil] at hp
    rw [List.mem_singleton.mp hp]
    refine ⟨hga, I.hok.fresh (Nat.le_of_lt hga'), ?_, fun z => ?_, hgo⟩
    · show ga ≠ cenv.locals
      rw [hL]; exact Nat.ne_of_gt hga'
    · have hz : ga ∈ frs X.stack := z
      obtain ⟨_, o, ho, _⟩ := I.stack.mem hz
      exact absurd (Nat.lt_trans (Heap.lt_size ho) hga') (Nat.lt_irrefl _)
  · unfold capV
    rw [List.length_map]
    exact ok.len
end
theorem R.setTab {K : PySem.W.Frag} {c : C0} {e : Ev} {σ : L2.St} {H F : Hp} (r : R K c e σ H F) {P : Addr} {ps ps' : Array Value} (hP : H P = some (.tbl ps)) (ht : TriplesOk ps'.toList) : R K c e σ (upd H P (.tbl ps')) F := by
  have nI : ∀ b o, F b = some o → b ≠ P := fun b o q z => by
    have h1 := r.aft.sub b o q
    rw [z, hP] at h1
    cases h1
    have := r.aft.imm b _ q
    cases this
  have nT : ∀ b o, H b = some o → isTab o = false → b ≠ P := fun b o q h z => by
    rw [z, hP] at q
    cases q
    cases h
  refine { aft := ⟨fun b o q => ?_, r.aft.s1, fun b q => upd_nn (r.aft.s0 b q), r.aft.s2, fun b o q1 q2 q3 => ?_, fun P' hP' => ?_, r.aft.imm⟩, len := r.len, fr := r.fr, ow := fun i w q1 q2 => ?_, ne := r.ne, tm := fun p hp => ?_, tmnd := r.tmnd, pr := r.pr }
  · rw [upd_ne (nI b o q)]; exact r.aft.sub b o q
  · have h1 := r.aft.s3 b o q1 q2 q3
    rw [upd_ne (nT b o h1 q3)]; exact h1
  · by_cases hb : P' = P
    · subst hb
      exact ⟨ps', upd_same, ht⟩
    · obtain ⟨qs, k1, k2⟩ := r.aft.tab P' hP'
      exact ⟨qs, by rw [upd_ne hb]; exact k1, k2⟩
  · obtain ⟨a, o, h1, h2, h3, h4, h5⟩ := r.ow i w q1 q2
    exact ⟨a, o, h1, by rw [upd_ne (nT a o h2 h4.notTab)]; exact h2, h3, h4, h5⟩
  · obtain ⟨h1, h2, h3⟩ := r.tm p hp
    exact ⟨by rw [upd_ne (nT _ _ h1 h3)]; exact h1, h2, h3⟩
def fGen (q : Bool) (T : Tg) (src : List (Option Nat)) (fi : FI) (fe : FE) : FE := fun e => match fi e with
  | .ok xs e1 => (match quantL q T fe xs (capE src e1) with
    | some b => .ok (.val (.bool b)) e1
    | none => .bad)
  | .exc x e1 => .exc x e1
  | .bad => .bad
section
variable {X : Cx} {xn : XN} {Wx : WX} {pos : Pos}
/-- the generator stands, not begun -/
def Ready (X : Cx) (pins : List (Addr × Obj)) (σ : L2.St) (Q : VK) (q : Bool) (u : Value) (s5 : Shared) : Prop :=
  ∃ (Y : Cx) (c : C0) (ga : Addr) (g : Nat) (res : Bool) (n : Nat), u = .ref ga ∧ Y.prog = X.prog ∧ Y.w = X.w ∧ GObj Y c ga g ∧ Live Y c s5 ∧
    (∃ gs, s5.gens[g]? = some gs ∧ gs.Goes (model Y.prog Y.w) X.A.in1.in1 (GEnd Y c q res) (GPr Y c q res) n (.send .none) (s5.setGen g .running)) ∧ ∀ s', Live Y c s' → EP X pins σ Q (.bool res) s'
theorem gen_eval {k : Nat} {cO P : Addr} {elt tg iter : Expr} {scope : Scope} {gpos : Pos} {N : List Str} {src : List (Option Nat)} {T : Tg} {fi : FI} {fe : FE} {q : Bool} {pins : List (Addr × Obj)} {σ : L2.St} {H : Hp} {s : Shared} {Q : VK}
    (hr : Room k X.A) (hcm : X.calm = true) (TB : GxR.TabB X.base X.mg cO P) (hP : P ∈ tabsI) (hcode : X.env.code = .ref cO) (ok : GenOk X.N X.env.scope scope N src) (hi : DI X xn Wx tg iter fi)
    (hg : ∀ (s : Shared) (H : Hp) (cl : List (Str × Addr)) (C : Addr) (code : Value) (bi : Addr) (fp : List Addr) (pn : List (Addr × Obj)), DGf (gx X s H N (genEnv scope cl C code bi X.env) fp pn) tg T)
    (he : ∀ (s : Shared) (H : Hp) (cl : List (Str × Addr)) (C : Addr) (code : Value) (bi : Addr) (fp : List Addr) (pn : List (Addr × Obj)), DE (gx X s H N (genEnv scope cl C code bi X.env) fp pn) xn WF elt fe) (hs : ∀ v, genFold iter X.env v = pure v)
    (I : Inv X pins σ H s) (h : tE X.K xn Wx (fGen q T src fi fe) σ H Q) :
    wpAny (model X.prog X.w) X.A (eval (.GeneratorExp elt [⟨tg, iter, [], 0⟩] scope gpos) X.env) (Ready X pins σ Q q) X.xe s := by
  have hfree : ∀ y ∈ scope.names, y.2 = .free → ∃ c, X.env.cells.lookup y.1 = some c := fun y hy e => by
    rcases ok.free y hy e with k | k
    · exact I.ok.has _ (.inl k)
    · exact I.ok.has _ (.inr k)
  refine wpAny_GeneratorExp_make ok.co (closure_ok hfree) ok.cell ok.dot ok.kind hr.depth ?_ hs
  have hti : tI X.K xn Wx fi σ H fun J H1 => ∃ c e1 F1 xs b, R X.K c e1 σ H1 F1 ∧ ItOk X.K J xs F1 ∧ quantL q T fe xs (capE src e1) = some b ∧ Post X.K c e1 σ (.val (.bool b)) Q := by
    obtain ⟨c, e, F, r, h⟩ := h
    refine ⟨c, e, F, r, ?_⟩
    unfold fGen at h
    cases qi : fi e with
    | bad => simp only [qi] at h
    | exc x e1 => simp only [qi] at h; exact h
    | ok xs e1 =>
      simp only [qi] at h
      intro J H1 F1 r1 io
      cases qq : quantL q T fe xs (capE src e1) with
      | none => simp only [qq] at h
      | some b =>
        simp only [qq] at h
        exact ⟨c, e1, F1, xs, b, r1, io, qq, h⟩
  refine thn (hi.run pins s σ H _ I hti) fun xv s1 hx => thn hx fun itv s2 h2 => ?_
  obtain ⟨it, fp, tn, J, H2, rfl, I2, tu, st2, f2, c, e1, F1, xs, res, r1, io, hq, hpost⟩ := h2
  refine ⟨I2.nolimit, ?_⟩
  obtain ⟨ps, hPt, ht⟩ := r1.aft.tab P hP
  have hPs : s2.heap.get? P = some { cls := .none, data := .fields ps } := I2.hok P _ hPt
  have cd : PySem.W.CodeHd s2.heap cO P := TB.code.keeps fun b u e => I2.bk b u e
  have cont : ∀ (code : Value) (h3 : Heap) (tk : Nat) (ps' : Array Value), Heap.ExtBut P s2.heap h3 → s2.heap.objs.size ≤ h3.objs.size → h3.get? P = some { cls := .none, data := .fields ps' } → (∃ more, ps' = ps ++ more) → TriplesOk ps'.toList →
      wpAny (model X.prog X.w) X.A (builtinsFor X.env.globals X.env.builtins) (fun bi s₄ => ∀ h', h'.Ns s₄.heap.objs.size (fun y => if y = ".0" then some (.ref it) else none) → Heap.SameBut s₄.heap.objs.size (s₄.heap.push { cls := .type "frame", data := .dict #[] }) h' →
          Ready X pins σ Q q (.ref h'.objs.size) { s₄ with
            gens := s₄.gens.push (.fresh (.compStart (.GeneratorExp elt [⟨tg, iter, [], 0⟩] scope gpos) 0 (.ref it) .none (genEnv scope (cloFrom X.env.cells scope.names []) s₄.heap.objs.size code bi X.env))),
            toks := s₄.toks + 1 + 1 + 1,
            heap := h'.push { cls := .type "generator", data := .fields #[.int s₄.gens.size 0, .str "<genexpr>" (s₄.toks + 1), .str (X.env.qual ++ "<genexpr>") (s₄.toks + 1 + 1)] } }) X.xe { s2 with heap := h3, toks := tk } := by
    intro code h3 tk ps' hx hsz hP3 hmore ht3
    obtain ⟨bm, ob, b1, b2, b3, b4, b5, b6, b7, b8⟩ := TB.bm
    have keep3 : ∀ b u, b ≠ P → s2.heap.get? b = some u → h3.get? b = some u := fun b u hb e => hx b u hb e
    refine wpAny_builtinsFor (m := X.mg) (by rw [I2.ok.glob]; exact (I2.mod.glob.keeps I2.bk).extBut hx TB.gP) b1 b2 (keep3 _ _ b4 (I2.bk _ _ b5)) b6 b7 b8 ?_
    intro h' hn' hs'
    obtain ⟨more, em⟩ := hmore
    subst em
    have I4 : Inv X pins σ (upd H2 P (.tbl (ps ++ more))) { s2 with heap := h3, gens := s2.gens, drawn := s2.drawn, toks := tk } :=
      GxR.inv_tab I2 hPt keep3 hP3 I2.bare
    have r4 := r1.setTab hPt ht3
    generalize hH4 : upd H2 P (.tbl (ps ++ more)) = H4 at I4 r4
    generalize hs4 : ({ s2 with heap := h3, toks := tk } : Shared) = s4 at hn' hs' ⊢
    have e4 : ({ s2 with heap := h3, gens := s2.gens, drawn := s2.drawn, toks := tk } : Shared) = s4 := hs4
    rw [e4] at I4
    have h34 : s4.heap = h3 := by rw [← hs4]
    have sz' : h'.objs.size = s4.heap.objs.size + 1 := by rw [hs'.1, Heap.size_push]
    have keep' : ∀ b o, s4.heap.get? b = some o → h'.get? b = some o := fun b o e => hs'.extBut b o (Nat.ne_of_lt (Heap.lt_size e)) (Heap.get?_push_of_some _ e)
    have nP : ∀ b, H2 b = none → b ≠ P := fun b e z => by rw [z, hPt] at e; cases e
    have lt2 : ∀ b ∈ fp, b < s2.heap.objs.size := fun b hb => by
      obtain ⟨o, e, _⟩ := tu.obj _ _ st2 b hb
      exact Heap.lt_size e
    have f4 : ∀ b ∈ fp, FpOk X pins H4 b ∧ b < s4.heap.objs.size := fun b hb => by
      refine ⟨⟨?_, (f2 b hb).2⟩, by rw [h34]; exact Nat.lt_of_lt_of_le (lt2 b hb) hsz⟩
      rw [← hH4, upd_ne (nP b (f2 b hb).1)]
      exact (f2 b hb).1
    generalize hgo : ({ cls := .type "generator", data := .fields #[.int s4.gens.size 0, .str "<genexpr>" (s4.toks + 1), .str (X.env.qual ++ "<genexpr>") (s4.toks + 1 + 1)] } : Obj) = go
    have gcls : go.cls = .type "generator" := by rw [← hgo]
    have gdat : go.data = .fields #[.int s4.gens.size 0, .str "<genexpr>" (s4.toks + 1), .str (X.env.qual ++ "<genexpr>") (s4.toks + 1 + 1)] := by rw [← hgo]
    have gsl : go.slots = #[] := by rw [← hgo]
    have gfr : go.isFreed = false := by rw [← hgo]; rfl
    have gnc : ∀ v, go.data ≠ .cell v := fun v z => by rw [gdat] at z; cases z
    generalize hcenv : genEnv scope (cloFrom X.env.cells scope.names []) s4.heap.objs.size code builtinsNs X.env = cenv
    have hgC : ∀ fp pn, DGf (gx X s4 H4 N cenv fp pn) tg T := fun fp pn => by rw [← hcenv]; exact hg _ _ _ _ _ _ _ _
    have heC : ∀ fp pn, DE (gx X s4 H4 N cenv fp pn) xn WF elt fe := fun fp pn => by rw [← hcenv]; exact he _ _ _ _ _ _ _ _
    have c1 : cenv.scope = scope := by rw [← hcenv]; rfl
    have c2 : cenv.locals = s4.heap.objs.size := by rw [← hcenv]; rfl
    have c3 : cenv.cells = cloFrom X.env.cells scope.names [] := by rw [← hcenv]; rfl
    have c4 : cenv.globals = X.env.globals := by rw [← hcenv]; rfl
    have c5 : cenv.builtins = builtinsNs := by rw [← hcenv]; rfl
    have c6 : cenv.frame = some s4.heap.objs.size := by rw [← hcenv]; rfl
    have keep5 : ∀ b o, s4.heap.get? b = some o → (h'.push go).get? b = some o := fun b o e => Heap.get?_push_of_some _ (keep' b o e)
    have hgaget : (h'.push go).get? h'.objs.size = some go := Heap.get?_push_size _ gfr
    have galt : s4.heap.objs.size < h'.objs.size := by rw [sz']; exact Nat.lt_succ_self _
    have bare5 : AllBare (s4.gens.push (.fresh (.compStart (.GeneratorExp elt [⟨tg, iter, [], 0⟩] scope gpos) 0 (.ref it) .none cenv))) := AllBare.push I4.bare rfl
    have IY : Inv (gx X s4 H4 N cenv fp [(h'.objs.size, go)]) [] (capV src σ) H4 { s4 with gens := s4.gens.push (.fresh (.compStart (.GeneratorExp elt [⟨tg, iter, [], 0⟩] scope gpos) 0 (.ref it) .none cenv)), toks := s4.toks + 1 + 1 + 1, heap := h'.push go } :=
      gen_inv I4 ok c1 c2 c3 c4 c5 c6 hr.hd f4 keep5 rfl bare5 (hn'.push _) hgaget galt gnc
    have rY := gen_R r4 src
    refine ⟨gx X s4 H4 N cenv fp [(h'.objs.size, go)], entC F1 H4 [] [], h'.objs.size, s4.gens.size, res, xs.length, rfl, rfl, rfl, ⟨fun s' ⟨σ', H', F', e', I', _⟩ => ?_⟩, ⟨_, _, _, _, IY, rY⟩, ⟨_, Array.getElem?_push_size .., rfl, ?_⟩, fun s' ⟨σ', H', F', e', I', r'⟩ => ?_⟩
    · exact ⟨go, _, _, (I'.pin (h'.objs.size, go) (List.mem_append_left _ (List.mem_singleton.mpr rfl))).1, gcls, gdat, gsl⟩
    · refine seg_gen0 (Y := gx X s4 H4 N cenv fp [(h'.objs.size, go)]) (A := X.A.in1.in1) rfl rfl rfl (by rw [c1]; exact ok.co) (fun p hp b hb => ?_) rfl rfl tu io (hgC _ _) (heC _ _) xs.length _ _ _ _ _ _ (Nat.le_refl _) (inv_same IY (fun _ _ e => e) rfl (allBare_setGen bare5 rfl)) (tu.keep _ _ _ st2 fun b hb o e => ?_) (fun b hb => (f4 b hb).1.1) rY (Same.refl _) hq
      · rw [List.mem_singleton.mp hp]
        exact Nat.ne_of_gt (Nat.lt_trans (f4 b hb).2 galt)
      · exact keep5 b o (by rw [h34]; exact keep3 b o (nP b (f2 b hb).1) e)
    · have IX : Inv X pins σ H' s' := I4.call' (ch := fp) I'.os I'.base I'.hok I'.bare fun b hb => ⟨(f4 b hb).1.2.2.2.1, (f4 b hb).1.2.1, (f4 b hb).1.2.2.2.2.1, (f4 b hb).1.2.2.2.2.2⟩
      exact ⟨.bl res, H', IX, rfl, hpost _ _ _ (gen_back r4 r') (.bl _)⟩
  cases hf : codeAmong gpos ps.toList with
  | none =>
    refine wpAny_genexprCodeX hcode (cd.code hPs ht) (cd.tab hPs) hf fun c' h' tk hx hge hlt hco' _ htab' _ => ?_
    obtain ⟨o1, vs, f1, tf, fl, tg, inF, tx, tt, op, _, _, _, _, _, _, _, _, _, htr, _⟩ := hco'
    exact cont _ h' tk _ hx (Nat.le_trans hge (Nat.le_of_lt hlt)) htab'.2 ⟨_, rfl⟩ htr
  | some cv =>
    refine wpAny_genexprCode_hit hcode (cd.code hPs ht) hf ?_
    exact cont cv s2.heap s2.toks ps (Heap.ExtBut.refl _ _) (Nat.le_refl _) hPs ⟨#[], by simp⟩ ht
theorem ready_all {pins : List (Addr × Obj)} {σ : L2.St} {Q : VK} {u : Value} {s : Shared} {k : Nat} (hr : Room k X.A) (h : Ready X pins σ Q true u s) : wpAny (model X.prog X.w) X.A (call (.builtin "all") [u]) (EP X pins σ Q) X.xe s := by
  obtain ⟨Y, c, ga, g, res, n, rfl, e1, e2, G, lv, hgs, hfin⟩ := h
  rw [← e1, ← e2]
  refine call_function_tree F.kind_all F.plain_all F.entry_all (F.args_all1 _) ?_
  unfold Builtin.«all»
  refine wpAny_bind (m := oneArg "all" _) (wpAny_pure ?_)
  refine wpAny_bind (wpAny_pyIter_gen (G.gen s lv) ?_)
  exact wpAny_pure ⟨plainId_quiet F.plain_all_loop _, all_drain hr.hd hr.depth G (fun s' l => hfin s' l) n s (G.gen s lv) (live_lim lv) hgs⟩
theorem ready_any {pins : List (Addr × Obj)} {σ : L2.St} {Q : VK} {u : Value} {s : Shared} {k : Nat} (hr : Room k X.A) (h : Ready X pins σ Q false u s) : wpAny (model X.prog X.w) X.A (call (.builtin "any") [u]) (EP X pins σ Q) X.xe s := by
  obtain ⟨Y, c, ga, g, res, n, rfl, e1, e2, G, lv, hgs, hfin⟩ := h
  rw [← e1, ← e2]
  refine call_function_tree F.kind_any F.plain_any F.entry_any (F.args_any1 _) ?_
  unfold Builtin.«any»
  refine wpAny_bind (m := oneArg "any" _) (wpAny_pure ?_)
  refine wpAny_bind (wpAny_pyIter_gen (G.gen s lv) ?_)
  exact wpAny_pure ⟨plainId_quiet F.plain_any_loop _, any_drain hr.hd hr.depth G (fun s' l => hfin s' l) n s (G.gen s lv) (live_lim lv) hgs⟩
theorem de_all {k : Nat} {cO P : Addr} {elt tg iter : Expr} {scope : Scope} {p gpos : Pos} {N : List Str} {src : List (Option Nat)} {T : Tg} {fi : FI} {fe : FE}
    (hr : Room k X.A) (hcm : X.calm = true) (hgl : Gl X "all") (hm : X.mg "all" = none) (hb : bootBuiltins "all" = some (.builtin "all")) (TB : GxR.TabB X.base X.mg cO P) (hP : P ∈ tabsI) (hcode : X.env.code = .ref cO) (ok : GenOk X.N X.env.scope scope N src) (hi : DI X xn Wx tg iter fi)
    (hg : ∀ (s : Shared) (H : Hp) (cl : List (Str × Addr)) (C : Addr) (code : Value) (bi : Addr) (fp : List Addr) (pn : List (Addr × Obj)), DGf (gx X s H N (genEnv scope cl C code bi X.env) fp pn) tg T)
    (he : ∀ (s : Shared) (H : Hp) (cl : List (Str × Addr)) (C : Addr) (code : Value) (bi : Addr) (fp : List Addr) (pn : List (Addr × Obj)), DE (gx X s H N (genEnv scope cl C code bi X.env) fp pn) xn WF elt fe) (hs : ∀ v, genFold iter X.env v = pure v := by intro _; rfl)
    (hst : starEach [.GeneratorExp elt [⟨tg, iter, [], 0⟩] scope gpos] X.env = (false, eval (.GeneratorExp elt [⟨tg, iter, [], 0⟩] scope gpos) X.env) :: starEach [] X.env := by rfl) :
    DE X xn Wx (.Call (.Name "all" p) [.GeneratorExp elt [⟨tg, iter, [], 0⟩] scope gpos] [] pos) (fGen true T src fi fe) := by
  refine ⟨fun pins s σ H Q I h => ?_⟩
  refine wpAny_Call_Name_kw (ld_blt I hgl hm hb ?_)
  refine PyProof.Rows.callWith_builtin1 ?_ hst (by rfl)
  rw [hst]
  show wpAny _ _ (spliced ((false, eval (.GeneratorExp elt [⟨tg, iter, [], 0⟩] scope gpos) X.env) :: backTo pos (starEach [] X.env))) _ _ s
  refine Calls.spliced_cons (thn (gen_eval hr hcm TB hP hcode ok hi hg he hs I h) fun u s5 hR => ?_)
  refine Calls.spliced_nil ?_
  exact ready_all hr hR
theorem de_any {k : Nat} {cO P : Addr} {elt tg iter : Expr} {scope : Scope} {p gpos : Pos} {N : List Str} {src : List (Option Nat)} {T : Tg} {fi : FI} {fe : FE}
    (hr : Room k X.A) (hcm : X.calm = true) (hgl : Gl X "any") (hm : X.mg "any" = none) (hb : bootBuiltins "any" = some (.builtin "any")) (TB : GxR.TabB X.base X.mg cO P) (hP : P ∈ tabsI) (hcode : X.env.code = .ref cO) (ok : GenOk X.N X.env.scope scope N src) (hi : DI X xn Wx tg iter fi)
    (hg : ∀ (s : Shared) (H : Hp) (cl : List (Str × Addr)) (C : Addr) (code : Value) (bi : Addr) (fp : List Addr) (pn : List (Addr × Obj)), DGf (gx X s H N (genEnv scope cl C code bi X.env) fp pn) tg T)
    (he : ∀ (s : Shared) (H : Hp) (cl : List (Str × Addr)) (C : Addr) (code : Value) (bi : Addr) (fp : List Addr) (pn : List (Addr × Obj)), DE (gx X s H N (genEnv scope cl C code bi X.env) fp pn) xn WF elt fe) (hs : ∀ v, genFold iter X.env v = pure v := by intro _; rfl)
    (hst : starEach [.GeneratorExp elt [⟨tg, iter, [], 0⟩] scope gpos] X.env = (false, eval (.GeneratorExp elt [⟨tg, iter, [], 0⟩] scope gpos) X.env) :: starEach [] X.env := by rfl) :
    DE X xn Wx (.Call (.Name "any" p) [.GeneratorExp elt [⟨tg, iter, [], 0⟩] scope gpos] [] pos) (fGen false T src fi fe) := by
  refine ⟨fun pins s σ H Q I h => ?_⟩
  refine wpAny_Call_Name_kw (ld_blt I hgl hm hb ?_)
  refine PyProof.Rows.callWith_builtin1 ?_ hst (by rfl)
  rw [hst]
  show wpAny _ _ (spliced ((false, eval (.GeneratorExp elt [⟨tg, iter, [], 0⟩] scope gpos) X.env) :: backTo pos (starEach [] X.env))) _ _ s
  refine Calls.spliced_cons (thn (gen_eval hr hcm TB hP hcode ok hi hg he hs I h) fun u s5 hR => ?_)
  refine Calls.spliced_nil ?_
  exact ready_any hr hR
end
section
variable {P : Program} {w : World} {K : PySem.W.Frag} {mg : Str → Option Value} {base : Heap} {x qual : Str} {params : Arguments} {body : List Stmt} {scope : Scope} {dvs : List V} {kws : List (Str × V)} {fd : FuncData} {xn : XN}
/-- THE RULE of a def whose code object is known -/
theorem fn_defT {N ps : List Str} {k : Nat} {fb : FS} {p : Str × Option Str} (F : FunD K x qual params body scope dvs kws (He.fAd K p) fd) (S : FnScope N ps scope)
    (hb : ∀ (A : Around) (outer : List Env) (s : Shared) (H : Hp) (E : XK), Room k (A.deeper (envOfC qual scope s.heap.objs.size (He.fAd K p) (.ref (He.codeOf K p)))) →
      DSs (cxOf (L2.CX P w) P w K mg base N qual scope (He.fAd K p) (.ref (He.codeOf K p)) A outer s H E) xn (fun cls d _ H' => E cls d H') body fb) :
    FnOk P w K mg base (L2.CX P w) (k + 1) (He.fAd K p) fd ps (spD K xn ps.length (defM N.length fb)) := by
  obtain ⟨oc, od, dV, kV, doc, pm, an, cdv, ct, osl, rfl, lk, hcd, h4, h5⟩ := F.ex
  obtain ⟨c, rfl⟩ := He.codeIn_ref hcd
  have e : He.codeOf K p = c := He.codeOf_eq lk rfl
  subst e
  exact fn_of lk hcd S (fun vs H Q E q => q.1) fun A outer s H vs Q E hr hsp => ⟨_, hb A outer s H E hr, body_ok hsp⟩
end
end DL

namespace DL
open PySem PySem.Spec PyProof.Rows L2
variable [Inhabited Tbx]
section
variable {X : Cx} {xn : XN} {Wx : WX} {pos : Pos}
/-! ### raise -/
def sRaise (x : Str) : FS := fun e => .exc x e
theorem ds_raise {x m : Str} {j : Nat} {p p2 cpos : Pos} {C : Addr} {bmB : List Value} {B newId initId : String} (hc : X.calm = true) (tk : Takes X Wx) (F : ExcBaseFacts B newId initId bmB) (q : PySem.W.excIn X.K C bmB newId = true) (gC : X.mg x = some (.ref C)) (kC : PySem.W.keepIn X.K (.ref C) = true) (r : Raises X (.ref C)) (hg : Gl X x) (hxn : xn x (.ref C)) (hdb : (x == ("__debug__" : Str)) = false := by decide) :
    DS X xn Wx (.Raise (some (.Call (.Name x p) [.Constant (.str m) j p2] [] cpos)) none pos) (sRaise x) :=
  PS_imp (ps_raise hc tk (pmk_own F q gC kC r hg hdb)) fun D σ H ⟨c, e, F, r, h⟩ => h σ H F (.ref C) none hxn r
/-! ### [..] * n -/
theorem R.holdNew {K : PySem.W.Frag} {c : C0} {e : Ev} {σ : L2.St} {H F : Hp} (r : R K c e σ H F) {p : Bool} {xs : List PyData} {v : V} (h : RvAt K c e σ H F (.new (.ol p xs)) v) :
    ∃ a vs, v = .ref a ∧ H a = some (.lst vs) ∧ c.H0 a = none ∧ DpAll K F vs xs ∧ R K (c.tmp ((a, .lst vs) :: c.tm)) e σ H F := by
  obtain ⟨a, o, rfl, h1, h2, ⟨vs, rfl, h3⟩, h4, h5, h6, h7⟩ := h
  refine ⟨a, vs, rfl, h1, h5, h3, { aft := r.aft, len := r.len, fr := r.fr, ow := fun i w q1 q2 => ?_, ne := r.ne, tm := fun q hq => ?_, tmnd := List.nodup_cons.mpr ⟨h6, r.tmnd⟩, pr := r.pr }⟩
  · obtain ⟨b, u, k1, k2, k3, k4, k5, k6, k7⟩ := r.ow i w q1 q2
    refine ⟨b, u, k1, k2, k3, k4, k5, k6, fun hm => ?_⟩
    rcases List.mem_cons.mp hm with z | z
    · exact h7 i w q1 q2 (by rw [k1]; exact congrArg (fun x => some (some (V.ref x))) z)
    · exact k7 z
  · rcases List.mem_cons.mp hq with z | z
    · rw [z]; exact ⟨h1, h2, rfl⟩
    · exact r.tm q z
def fRep (fa fb : FE) : FE := fun e => match fa e with
  | .ok (.new (.ol false xs)) e1 => (match vv fb e1 with
    | .ok (.val (.int k)) e2 => if sm k = true ∧ xs.length * k.toNat ≤ sizeLine then .ok (.new (.ol false (List.replicate k.toNat xs).flatten)) e2 else .bad
    | .exc x e2 => .exc x e2
    | _ => .bad)
  | .exc x e1 => .exc x e1
  | _ => .bad
theorem exc_ok {K : PySem.W.Frag} {f : FE} {c : C0} {e : Ev} {σ : L2.St} {H F : Hp} {Q : VK} (r : R K c e σ H F) (h : match f e with
  | .ok r e' => ∀ v H' F', R K (c.reb F) e' σ H' F' → RvAt K c e' σ H' F' r v → Q v H'
  | .exc x e' => PostX K c e' σ xn Wx x
  | .bad => False) : tE K xn Wx f σ H Q := by
  refine ⟨c.reb F, e, F, r.reb, ?_⟩
  cases q : f e with
  | bad => simp only [q] at h
  | exc x e' => simp only [q] at h; exact fun C d H' F' hx r' => h C d H' F' hx (r.unreb r').1
  | ok rv e' => simp only [q] at h; exact fun v H' F' r' rr => h v H' F' r' (rv_reb.mp rr)
theorem de_rep {a b : Expr} {fa fb : FE} (ha : DE X xn Wx a fa) (hb : DE X xn Wx b fb) : DE X xn Wx (.BinOp a .Mult b pos) (fRep fa fb) :=
  PE_imp (pe_op op_rep ha (de_v hb)) fun σ H Q ⟨c, e, F, r, h⟩ => by
    refine ⟨c, e, F, r, ?_⟩
    unfold fRep at h
    cases qa : fa e with
    | bad => simp only [qa] at h
    | exc x e1 => simp only [qa] at h; exact h
    | ok rv e1 =>
      cases rv with
      | val d => simp only [qa] at h
      | own i => simp only [qa] at h
      | new w =>
        cases w with
        | fr d => simp only [qa] at h
        | od p kvs => simp only [qa] at h
        | ol p xs =>
          cases p with
          | true => simp only [qa] at h
          | false =>
            simp only [qa] at h
            intro v H1 F1 r1 rr
            obtain ⟨l, vs, rfl, hl, h0, hd, rT⟩ := r1.holdNew rr
            refine ⟨_, e1, F1, rT.reb, ?_⟩
            cases qb : vv fb e1 with
            | bad => simp only [qb] at h
            | exc x e2 =>
              simp only [qb] at h
              intro C d H' F' hx r'
              obtain ⟨r2, _⟩ := rT.unreb r'
              exact h C d H' F' hx (R.popTm (w := .ol false xs) r2 h0 ⟨vs, rfl, dl_mono (rT.unreb r').2 _ _ hd⟩ rfl).1
            | ok rb e2 =>
              obtain ⟨db, rfl⟩ := vv_still qb
              simp only [qb] at h
              cases db with
              | int k =>
                simp only at h
                intro y H2 F2 r' ry
                obtain ⟨r2, s2⟩ := rT.unreb r'
                have hl2 : H2 l = some (.lst vs) := (r2.tm (l, .lst vs) List.mem_cons_self).1
                obtain ⟨r3, _⟩ := R.popTm (w := .ol false xs) r2 h0 ⟨vs, rfl, dl_mono s2 _ _ hd⟩ rfl
                by_cases hk : sm k = true ∧ xs.length * k.toNat ≤ sizeLine
                · rw [if_pos hk] at h
                  obtain ⟨k1, k2⟩ := sm_ok hk.1
                  refine ⟨l, k, vs, rfl, dp_int_inv ry, hl2, by omega, by omega, by rw [dl_len hd]; exact hk.2, fun p hp => ?_⟩
                  obtain ⟨r4, rv4⟩ := R.newL (c := c) r3 hp (dl_rep (dl_mono s2 _ _ hd) k.toNat)
                  exact h _ _ _ r4 rv4
                · rw [if_neg hk] at h; exact h.elim
              | none => exact h.elim
              | bool b => exact h.elim
              | str b => exact h.elim
              | list b => exact h.elim
              | tuple b => exact h.elim
              | dict b => exact h.elim
/-! ### dicts -/
def fDict0 : FE := fun e => .ok (.new (.od false [])) e
theorem de_dict0 : DE X xn Wx (.Dict [] [] pos) fDict0 := PE_imp pe_dnewK fun σ H Q ⟨c, e, F, r, h⟩ p hp =>
  h _ _ F (r.laid hp) ⟨p, _, rfl, upd_same, r.f0 hp, .inl ⟨[], rfl, .nil⟩, rfl, r.h0 hp, r.notTm hp, r.notOwn hp⟩
/-- the value of a key -/
def dGet (kvs : List (PyData × PyData)) (k : PyData) : Option PyData := match kvs with
  | [] => none
  | p :: r => if keyOf p.1 = keyOf k then some p.2 else dGet r k
/-- .. set: in its place, or at the end -/
def dPut : List (PyData × PyData) → PyData → PyData → List (PyData × PyData)
  | [], k, v => [(k, v)]
  | p :: r, k, v => if keyOf p.1 = keyOf k then (p.1, v) :: r else p :: dPut r k v
def simple (k : PyData) : Bool := (keyOf k).isSome
theorem keyOf_v {K : PySem.W.Frag} {F : Hp} {d : PyData} {k : Key} {v : V} (h : Dp K F v d) (q : keyOf d = some k) : v = kV k := by
  cases d <;> try (cases q; done)
  · cases q; rw [dp_int_inv h]; rfl
  · cases q; rw [dp_str_inv h]; rfl
abbrev KR (K : PySem.W.Frag) (F : Hp) : (PyData × PyData) → (Key × V) → Prop := fun p q => keyOf p.1 = some q.1 ∧ Dp K F q.2 p.2
theorem paired_get {K : PySem.W.Frag} {F : Hp} {d : PyData} {k : Key} (hk : keyOf d = some k) : ∀ {kvs : List (PyData × PyData)} {l : List (Key × V)}, Paired (KR K F) kvs l →
    match dGet kvs d with
    | some x => ∃ v, valV l k = some v ∧ Dp K F v x
    | none => valV l k = none
  | _, _, .nil => rfl
  | p :: kvs, q :: l, .cons h t => by
    unfold dGet
    by_cases e : keyOf p.1 = keyOf d
    · rw [if_pos e]
      have e2 : q.1 = k := by
        rw [h.1, hk] at e
        exact Option.some.inj e
      exact ⟨q.2, valV_pos e2, h.2⟩
    · rw [if_neg e]
      have e2 : ¬ q.1 = k := fun z => e (by rw [h.1, hk, z])
      rw [valV_neg e2]
      exact paired_get hk t
theorem paired_len {α β : Type} {P : α → β → Prop} : ∀ {xs : List α} {ys : List β}, Paired P xs ys → xs.length = ys.length
  | _, _, .nil => rfl
  | _, _, .cons _ t => congrArg Nat.succ (paired_len t)
theorem paired_snoc {α β : Type} {P : α → β → Prop} {a : α} {b : β} (h : P a b) : ∀ {xs : List α} {ys : List β}, Paired P xs ys → Paired P (xs ++ [a]) (ys ++ [b])
  | _, _, .nil => .cons h .nil
  | _, _, .cons k t => .cons k (paired_snoc h t)
def allS (kvs : List (PyData × PyData)) : Bool := kvs.all fun p => (keyOf p.1).isSome
theorem dictR_k {K : PySem.W.Frag} {F : Hp} {kvs : List (PyData × PyData)} {o : HO} (h : DictR K F kvs o) (ha : allS kvs = true) : ∃ l, o = .dK l ∧ Paired (KR K F) kvs l := by
  rcases h with h | ⟨l, rfl, hne, h⟩
  · exact h
  · exfalso
    cases h with
    | nil => exact hne rfl
    | cons k t =>
      rename_i p q kvs l
      have h1 : ((keyOf p.1).isSome && kvs.all fun p => (keyOf p.1).isSome) = true := ha
      rw [Bool.and_eq_true] at h1
      have h2 := k.1
      obtain ⟨p1, p2⟩ := p
      cases p1 <;> try (cases h2; done)
      cases h1.1
/-- an own dict's entries -/
def dAt (e : Ev) (t : Nat) : Option (Bool × List (PyData × PyData)) := match e[t]? with
  | some (some (.od p kvs)) => some (p, kvs)
  | _ => none
theorem dAt_eq {e : Ev} {t : Nat} {p : Bool} {kvs : List (PyData × PyData)} (h : dAt e t = some (p, kvs)) : e[t]? = some (some (.od p kvs)) := by
  unfold dAt at h
  split at h
  · rename_i q
    cases h
    exact q
  · cases h
def ownIx' : RV → Option Nat
  | .own t => some t
  | _ => none
def valD : RV → Option PyData
  | .val d => some d
  | _ => none
def fSetd (fo fk fv : FE) : FE := fun e => ob (ow fo e) fun ro e1 => match (ownIx' ro).bind (fun t => (dAt e1 t).map fun x => (t, x.2)) with
  | some (t, kvs0) => if allS kvs0 = true then ob (vv fk e1) fun rk e2 => ob (vv fv e2) fun rv e3 => match (valD rk).bind (fun k => if simple k = true then (valD rv).bind (fun v => (dAt e3 t).map fun x => (k, v, x.1, x.2)) else none) with
    | some (k, v, p, kvs) => if kvs.length < sizeLine ∧ allS kvs = true then (match dGet kvs k with
      | some d => .ok (.val d) e3
      | none => .ok (.val v) (e3.set t (some (.od p (kvs ++ [(k, v)]))))) else .bad
    | none => .bad else .bad
  | none => .bad
theorem valD_eq {r : RV} {d : PyData} (h : valD r = some d) : r = .val d := by cases r <;> cases h; rfl
theorem ownIx_eq {r : RV} {t : Nat} (h : ownIx' r = some t) : r = .own t := by cases r <;> cases h; rfl
theorem de_setd {o a b : Expr} {fo fa fb : FE} {apos cpos : Pos} (ho : DE X xn Wx o fo) (ha : DE X xn Wx a fa) (hb : DE X xn Wx b fb) (m : M2 X o "setdefault" apos a b cpos) : DE X xn Wx (.Call (.Attribute o "setdefault" apos) [a, b] [] cpos) (fSetd fo fa fb) :=
  PE_imp (pe_dsetd (de_o ho) (de_v ha) (de_v hb) m) fun σ H Q q => te_of q fun c e e0 ro v H1 F1 qo r1 rr h => by
    cases q1 : (ownIx' ro).bind (fun t => (dAt e t).map fun x => (t, x.2)) with
    | none => simp only [q1] at h
    | some tk =>
      obtain ⟨t, kvs0⟩ := tk
      simp only [q1] at h
      obtain ⟨t', q2, q3⟩ := Option.bind_eq_some_iff.mp q1
      obtain ⟨x, q4, q5⟩ := Option.map_eq_some_iff.mp q3
      cases q5
      cases ownIx_eq q2
      obtain ⟨p0, kvs0⟩ := x
      obtain ⟨a0, o0, k1, k2, k3, k4, _⟩ := r1.ow t _ (dAt_eq q4) rfl
      have ev : v = .ref a0 := by
        have := rr.1
        rw [k1] at this
        cases this
        rfl
      subst ev
      by_cases hs : allS kvs0 = true
      · rw [if_pos hs] at h
        obtain ⟨l0, e0, _⟩ := dictR_k k4 hs
        refine ⟨a0, rfl, .inl ⟨l0, .inl (by rw [k2, e0])⟩, c, e, F1, r1, ?_⟩
        cases qa : vv fa e with
        | bad => simp only [qa, ob] at h
        | exc x e1 => simp only [qa, ob] at h; exact h
        | ok ra e1 =>
          simp only [qa, ob] at h
          intro y H2 F2 r2 ry
          refine ⟨c, e1, F2, r2, ?_⟩
          cases qb : vv fb e1 with
          | bad => simp only [qb] at h
          | exc x e2 => simp only [qb] at h; exact h
          | ok rb e2 =>
            simp only [qb] at h
            intro z H3 F3 r3 rz
            cases q6 : (valD ra).bind (fun k => if simple k = true then (valD rb).bind (fun v => (dAt e2 t).map fun x => (k, v, x.1, x.2)) else none) with
            | none => simp only [q6] at h
            | some w =>
              obtain ⟨k, v, p, kvs⟩ := w
              simp only [q6] at h
              obtain ⟨k', q7, q8⟩ := Option.bind_eq_some_iff.mp q6
              by_cases hk : simple k' = true
              · rw [if_pos hk] at q8
                obtain ⟨v', q9, q10⟩ := Option.bind_eq_some_iff.mp q8
                obtain ⟨x, q11, q12⟩ := Option.map_eq_some_iff.mp q10
                cases q12
                cases valD_eq q7
                cases valD_eq q9
                by_cases hl : x.2.length < sizeLine ∧ allS x.2 = true
                · rw [if_pos hl] at h
                  obtain ⟨a1, o1, m1, m2, m3, m4, _⟩ := r3.ow t _ (dAt_eq q11) rfl
                  rw [k1] at m1
                  cases m1
                  obtain ⟨l, rfl, pr⟩ := dictR_k m4 hl.2
                  obtain ⟨key, hkey⟩ := Option.isSome_iff_exists.mp hk
                  have g := paired_get hkey pr
                  refine ⟨l, key, m2, keyOf_v ry hkey, by rw [← paired_len pr]; exact hl.1, fun v0 hv0 => ?_, fun hn => ?_⟩
                  · cases qg : dGet x.2 k with
                    | none =>
                      rw [qg] at g
                      have g' : valV l key = none := g
                      rw [g'] at hv0; cases hv0
                    | some d =>
                      simp only [qg] at h g
                      obtain ⟨v1, g1, g2⟩ := g
                      rw [g1] at hv0
                      cases hv0
                      exact h _ _ F3 r3 g2
                  · cases qg : dGet x.2 k with
                    | some d =>
                      rw [qg] at g
                      obtain ⟨v1, g1, g2⟩ := g
                      rw [g1] at hn; cases hn
                    | none =>
                      simp only [qg] at h
                      rw [putK_new _ hn]
                      exact h _ _ F3 (r3.change (dAt_eq q11) rfl k1 (.inl ⟨_, rfl, paired_snoc ⟨hkey, rz⟩ pr⟩) rfl rfl) rz
                · rw [if_neg hl] at h; exact h.elim
              · rw [if_neg hk] at q8; cases q8
      · rw [if_neg hs] at h; exact h.elim
/-! sorted(d.values()), ints -/
def dVals (e : Ev) (t : Nat) : Option (List Int) := (dAt e t).bind fun x => if allS x.2 = true then intsOf (x.2.map (·.2)) else none
def fSortV (fo : FE) : FE := fun e => ob (ow fo e) fun ro e1 => match (ownIx' ro).bind (dVals e1) with
  | some ns => .ok (.new (.ol false ((sortI ns).map .int))) e1
  | none => .bad
def tSortV (te : TE) : TE := fun σ H Q => te σ H fun x H1 => ∃ (a : Addr) (kvs : List (Key × V)) (ns : List Int), x = .ref a ∧ H1 a = some (.dK kvs) ∧ kvs.map (·.2) = ns.map V.int ∧
  ∀ (ns' : List Int) (p : Addr), ns'.Perm ns → ns'.Pairwise (· ≤ ·) → H1 p = none → Q (.ref p) (upd H1 p (.lst (ns'.map V.int)))
theorem pe_sortV {o : Expr} {te : TE} {p apos cpos : Pos} (hc : X.calm = true) (hg : Gl X "sorted") (hm : X.mg "sorted" = none) (ho : PE X o te) (hbase : attributeBase o "values" X.env (eval o X.env) = eval o X.env := by rfl) (hline : (apos.endLine == cpos.line) = true := by rfl)
    (he : starEach [.Call (.Attribute o "values" apos) [] [] cpos] X.env = (false, eval (.Call (.Attribute o "values" apos) [] [] cpos) X.env) :: starEach [] X.env := by rfl) : PE X (.Call (.Name "sorted" p) [.Call (.Attribute o "values" apos) [] [] cpos] [] pos) (tSortV te) := by
  refine ⟨fun pins s σ H Q I h => ?_⟩
  refine wpAny_Call_Name_kw (ld_blt I hg hm boot_sorted ?_)
  refine PyProof.Rows.callWith_builtin1 ?_ he (by rfl)
  rw [he]
  show wpAny _ _ (spliced ((false, eval (.Call (.Attribute o "values" apos) [] [] cpos) X.env) :: backTo pos (starEach [] X.env))) _ _ s
  refine Calls.spliced_cons ?_
  refine wpAny_Call_method (T := "dict") (id := "dict.values") hbase rfl hline F.plainAttrs_dict F.slot_dict_values F.type_dict_values (thn (ho.run pins s σ H _ I h) fun u s1 ⟨x, H1, I1, rx, a, kvs, ns, ex, ha, hns, q⟩ => ?_)
  subst ex
  obtain rfl : u = Value.ref a := rx
  obtain ⟨hz, hsm, vs, kv, hd⟩ := I1.hok a _ ha
  refine ⟨hd.typeIs, hd.mapOf.noDict, ?_⟩
  have I2 : Inv X pins σ H1 { s1 with heap := s1.heap.push { cls := .type "dict_values", data := .fields #[.ref a] } } := I1.kept (t' := s1.toks) fun b ob q => Heap.get?_push_of_some _ q
  have hl : kvs.length = vs.length := Paired.length kv
  have vint : ∀ (j : Nat) (v : Value), (∃ k, vs[j]? = some (k, v)) → ∃ t, v = .int (ns.getD j 0) t := fun j v ⟨k, hj⟩ => by
    have key : ∀ (kvs : List (Key × V)) (vs : List (Key × Value)) (ns : List Int) (j : Nat), KV kvs vs → kvs.map (·.2) = ns.map V.int → vs[j]? = some (k, v) → ∃ t, v = .int (ns.getD j 0) t := by
      intro kvs
      induction kvs with
      | nil =>
        intro vs ns j kv e h
        cases kv
        simp at h
      | cons p kvs ih =>
        intro vs ns j kv e h
        cases kv with
        | cons hp ht =>
          cases ns with
          | nil => cases e
          | cons n ns =>
            rw [List.map_cons, List.map_cons] at e
            injection e with e1 e2
            cases j with
            | zero =>
              cases h
              have hr := hp.2
              rw [e1] at hr
              obtain ⟨t, ht⟩ := hr
              exact ⟨t, ht⟩
            | succ j => exact ih _ ns j ht e2 h
    exact key _ _ _ _ kv hns hj
  obtain ⟨ep, hda⟩ := hd.dictAt
  have nl : ns.length = vs.length := by
    have := congrArg List.length hns
    rw [List.length_map, List.length_map] at this
    omega
  have fin : ∀ (E : Value → Shared → Prop), wpAny (model X.prog X.w) X.A (call (.builtin "sorted") [.ref s1.heap.objs.size]) (EP X pins σ Q) E { s1 with heap := s1.heap.push { cls := .type "dict_values", data := .fields #[.ref a] } } := by
    intro E
    refine Calls.call_function_entry kind_sorted plain_sorted entry_sorted (args_sorted1 _) ?_
    unfold Builtin.«sorted»
    refine wpAny_bind (m := checkCount "sorted" 1 1 _) (wpAny_pure ?_)
    refine wpAny_bind (PySem.W.kdu_collect (A := X.A.in1) (PySem.W.kdl_values (knd := mixKind X.prog X.w) (r := s1.heap.objs.size) (d := a) (kvs := vs) (ep := ep)) (I1.ok.hd hc) ⟨⟨_, Heap.get?_push_size _ rfl, rfl, rfl⟩, hda.push _⟩ (by omega) fun h' tk acc hk hacc => ?_)
    have hal : acc.toList.length = vs.length := by rw [Array.length_toList]; exact hacc.1
    have hints : IntsAre acc.toList ns := by
      have key : ∀ (l : List Value) (ns : List Int), l.length = ns.length → (∀ (j : Nat) (v : Value), l[j]? = some v → ∃ t, v = .int (ns.getD j 0) t) → IntsAre l ns := by
        intro l
        induction l with
        | nil =>
          intro ns h _
          cases ns with
          | nil => exact .nil
          | cons n ns => cases h
        | cons v l ih =>
          intro ns h g
          cases ns with
          | nil => cases h
          | cons n ns =>
            obtain ⟨t, rfl⟩ := g 0 v rfl
            exact .cons _ _ (ih ns (by simpa using h) fun j w hj => g (j + 1) w hj)
      refine key _ _ (by omega) fun j v hj => vint j v (hacc.2 j v (by rw [← Array.getElem?_toList]; exact hj))
    have hzl : acc.toList.length ≤ sizeLine := by omega
    refine wpAny_bind (wpAny_newList ?_ hzl)
    refine wpAny_bind (wpAny_holding ?_)
    have hob : (h'.push (PyProof.Rows.seqObj "list" acc.toList.toArray 0)).get? h'.objs.size = some (PyProof.Rows.seqObj "list" acc.toList.toArray 0) := Heap.get?_push_size _ rfl
    refine wpAny_call_entry (s := { s1 with heap := h'.push (PyProof.Rows.seqObj "list" acc.toList.toArray 0), toks := tk }) PyProof.Rows.slot_list_sort ⟨_, hob, rfl⟩ PyProof.Rows.entry_list_sort
      (SrtO.list_sort_ord (s := { s1 with heap := h'.push (PyProof.Rows.seqObj "list" acc.toList.toArray 0), toks := tk }) SrtO.swo_int hob hzl (fun h2 => SrtO.ints_sortable hints h2) fun out h1 h2 => ⟨.none, rfl, ?_⟩) (PyProof.Rows.args_list_sort _)
    refine wpAny_pure ⟨_, rfl, ?_⟩
    obtain ⟨k1, k2, k3⟩ := SrtO.ints_out hints h1 h2
    obtain ⟨ep', he'⟩ := PyProof.Rows.sortedHeap_at (vs := acc.toList) (out := out.toArray) hob
    have hlen : ((out.map SrtO.iv).map V.int).length ≤ sizeLine := by
      rw [List.length_map, k2.length_eq]
      omega
    have hsz : s1.heap.objs.size ≤ h'.objs.size := by
      have := Heap.lt_size (hk _ _ (Heap.get?_push_size s1.heap (o := { cls := .type "dict_values", data := .fields #[.ref a] }) rfl))
      exact Nat.le_of_lt this
    have hfr : H1 h'.objs.size = none := I1.hok.fresh hsz
    refine ⟨.ref h'.objs.size, upd H1 h'.objs.size (.lst ((out.map SrtO.iv).map V.int)), I1.laid (t' := tk) (fun b o e => ?_) hsz ⟨hlen, out, ep', vals_of_ints k1, he'⟩, rfl, q _ _ k2 k3 hfr⟩
    have e2 : (h'.push (PyProof.Rows.seqObj "list" acc.toList.toArray 0)).get? b = some o := Heap.get?_push_of_some _ (hk b o (Heap.get?_push_of_some _ e))
    rw [PyProof.Rows.sortedHeap_old (Nat.ne_of_lt (Nat.lt_of_lt_of_le (Heap.lt_size e) hsz)) (Heap.lt_size e2)]
    exact e2
  show wpAny _ _ (callWith cpos (.builtin "dict.values") [.ref a] [] []) _ X.xe s1
  refine method_meetsIn F.slot_dict_values F.entry_dict_values rfl (PySem.evalArgs_none ⟨rfl, hd.typeIs, F.args_dict_values_1 _, _, meets_dict_values (mixKind X.prog X.w) a hsm, ⟨vs, hd⟩, ?_⟩)
  exact Calls.spliced_nil (fin _)
theorem de_sortV {o : Expr} {fo : FE} {p apos cpos : Pos} (hc : X.calm = true) (hg : Gl X "sorted") (hm : X.mg "sorted" = none) (ho : DE X xn Wx o fo) (hbase : attributeBase o "values" X.env (eval o X.env) = eval o X.env := by rfl) (hline : (apos.endLine == cpos.line) = true := by rfl)
    (he : starEach [.Call (.Attribute o "values" apos) [] [] cpos] X.env = (false, eval (.Call (.Attribute o "values" apos) [] [] cpos) X.env) :: starEach [] X.env := by rfl) : DE X xn Wx (.Call (.Name "sorted" p) [.Call (.Attribute o "values" apos) [] [] cpos] [] pos) (fSortV fo) :=
  PE_imp (pe_sortV hc hg hm (de_o ho) hbase hline he) fun σ H Q q => te_of q fun c e e0 ro v H1 F1 qo r1 rr h => by
    cases q1 : (ownIx' ro).bind (dVals e) with
    | none => simp only [q1] at h
    | some ns =>
      simp only [q1] at h
      obtain ⟨t, q2, q3⟩ := Option.bind_eq_some_iff.mp q1
      cases ownIx_eq q2
      unfold dVals at q3
      obtain ⟨x, q4, q5⟩ := Option.bind_eq_some_iff.mp q3
      by_cases hs : allS x.2 = true
      · rw [if_pos hs] at q5
        obtain ⟨a0, o0, k1, k2, k3, k4, _⟩ := r1.ow t _ (dAt_eq q4) rfl
        obtain ⟨l, rfl, pr⟩ := dictR_k k4 hs
        have ev : v = .ref a0 := by
          have := rr.1
          rw [k1] at this
          cases this
          rfl
        subst ev
        have hv : l.map (·.2) = ns.map V.int := by
          refine dl_ints (K := X.K) (F := F1) ?_
          rw [← intsOf_eq q5]
          have key : ∀ {kvs : List (PyData × PyData)} {l : List (Key × V)}, Paired (KR X.K F1) kvs l → DpAll X.K F1 (l.map (·.2)) (kvs.map (·.2)) := by
            intro kvs l h
            induction h with
            | nil => exact .nil
            | cons h _ ih => exact .cons h.2 ih
          exact key pr
        refine ⟨a0, l, ns, rfl, k2, hv, fun ns' p hp ho hH => ?_⟩
        have e1 : ns' = sortI ns := ord_unique (hp.trans (sortI_perm ns).symm) ho (sortI_ord ns)
        rw [e1]
        obtain ⟨r2, rv2⟩ := r1.newL hH (dl_of_ints (K := X.K) (F := F1) (sortI ns))
        exact h _ _ F1 r2 rv2
      · rw [if_neg hs] at q5; cases q5
end
end DL

namespace DL
open PySem PySem.Spec PyProof.Rows L2 GenW
def genOkB (XN : List Str) (sc scope : Scope) (N : List Str) (src : List (Option Nat)) : Bool :=
  decide (scope.kind = .function) && (!scope.isCoroutine) && (scope.names.all fun y => decide (y.2 ≠ .cell)) && decide (scope.names.lookup (".0" : Str) = some NameKind.local) &&
  (scope.names.all fun y => decide (y.2 ≠ .free) || decide (sc.names.lookup y.1 = some .cell) || decide (sc.names.lookup y.1 = some .free)) && decide N.Nodup && decide (src.length = N.length) &&
  ((N.zip src).all fun q => match q.2 with
    | some j => decide (XN[j]? = some q.1) && decide (scope.names.lookup q.1 = some .free) && (decide (sc.names.lookup q.1 = some .cell) || decide (sc.names.lookup q.1 = some .free))
    | none => true)
theorem genOk_by {XN : List Str} {sc scope : Scope} {N : List Str} {src : List (Option Nat)} (h : genOkB XN sc scope N src = true) : GenOk XN sc scope N src := by
  unfold genOkB at h
  simp only [Bool.and_eq_true, List.all_eq_true, decide_eq_true_eq, Bool.or_eq_true, Bool.not_eq_true'] at h
  obtain ⟨⟨⟨⟨⟨⟨⟨h1, h2⟩, h3⟩, h4⟩, h5⟩, h6⟩, h7⟩, h8⟩ := h
  refine ⟨h1, h2, h3, h4, fun y hy e => ?_, h6, h7, fun q hq => ?_⟩
  · rcases h5 y hy with (z | z) | z
    · exact absurd e z
    · exact .inl z
    · exact .inr z
  · have := h8 q hq
    obtain ⟨a, b⟩ := q
    cases b with
    | none => trivial
    | some j =>
      simp only [Bool.and_eq_true, decide_eq_true_eq, Bool.or_eq_true] at this
      exact ⟨this.1.1, this.1.2, this.2⟩
theorem takesF {X : Cx} : Takes X WF := fun u s' ⟨_, _, _, _, _, _, _, _, _, _, _, _, _, _, _, _, w⟩ => w.elim
theorem hu_of {k : Nat} {A : Around} (hr : Room k A) : A.units + 65 < cLine := by have := hr.un; omega
theorem room_gen {k : Nat} {A : Around} (hr : Room (k + 3) A) (env : Env) : Room k (A.in1.in1.deeper env) := hr.in1.in1.deeper env
/-- an exception's class is what stands under its name -/
def xnm (mg : Str → Option Value) : XN := fun x C => mg x = some C
theorem fl_nil : ∀ e rs e', fNil e = .ok rs e' → rs.length = 0 := fun e rs e' h => by
  cases h
  rfl
theorem fl_cons {fa : FE} {fr : FA} {n : Nat} (h : ∀ e rs e', fr e = .ok rs e' → rs.length = n) : ∀ e rs e', fCons fa fr e = .ok rs e' → rs.length = n + 1 := fun e rs e' q => by
  unfold fCons at q
  cases qa : fa e with
  | bad => simp only [qa, ob] at q; cases q
  | exc x e1 => simp only [qa, ob] at q; cases q
  | ok r e1 =>
    simp only [qa, ob] at q
    cases qb : fr e1 with
    | bad => simp only [qb] at q; cases q
    | exc x e2 => simp only [qb] at q; cases q
    | ok rs2 e2 =>
      simp only [qb] at q
      split at q
      · cases q
        exact congrArg Nat.succ (h _ _ _ qb)
      · cases q
end DL

namespace DL
open PySem PySem.Spec PyProof.Rows L2
/-! ### the law's end -/
theorem ent_of [Inhabited Tbx] {K : PySem.W.Frag} {H F : Hp} {a : Addr} {ns : List Int} (hf : Same F H) (hi : ∀ b o, F b = some o → isImm o = true) (sq : SqL K F a (ns.map V.int)) (ht : ∀ P ∈ tabsI, H P = some (.tbl #[])) :
    Ent K F H [.ref a] [.fr (.list (ns.map .int))] := by
  refine ⟨hf, hi, fun P hP => ⟨#[], ht P hP, trivial⟩, rfl, fun i d h => ?_, fun i w h ho => ?_, fun i j b w u hij h1 h2 => ?_⟩
  · cases i with
    | zero =>
      cases h
      exact ⟨_, rfl, .lst sq (dl_of_ints ns)⟩
    | succ i => simp at h
  · cases i with
    | zero => cases h; cases ho
    | succ i => simp at h
  · cases i with
    | zero => cases h1; cases h2
    | succ i => simp at h1
theorem ent_script [Inhabited Tbx] {K : PySem.W.Frag} {H : Hp} {a : Addr} {ns : List Int} (hS : SqL K H a (ns.map V.int)) (ht : ∀ P ∈ tabsI, H P = some (.tbl #[])) :
    ∃ F, Ent K F H [.ref a] [.fr (.list (ns.map .int))] := by
  rcases hS with h | h
  · have one : ∀ o, H a = some o → isImm o = true → ∃ F : Hp, Same F H ∧ (∀ b o, F b = some o → isImm o = true) ∧ F a = H a := fun o e hi =>
      ⟨fun b => if b = a then some o else none, (fun b u q => by
        by_cases hb : b = a
        · have q' : some o = some u := by rw [← q]; exact (if_pos hb).symm
          rw [hb, e, q']
        · have q' : none = some u := by rw [← q]; exact (if_neg hb).symm
          cases q'), (fun b u q => by
        by_cases hb : b = a
        · have q' : some o = some u := by rw [← q]; exact (if_pos hb).symm
          cases q'
          exact hi
        · have q' : none = some u := by rw [← q]; exact (if_neg hb).symm
          cases q'), by rw [e]; exact if_pos rfl⟩
    rcases h with h | ⟨o, h⟩
    · obtain ⟨F, h1, h2, h3⟩ := one _ h rfl
      exact ⟨F, ent_of h1 h2 (.inl (.inl (h3.trans h))) ht⟩
    · obtain ⟨F, h1, h2, h3⟩ := one _ h rfl
      exact ⟨F, ent_of h1 h2 (.inl (.inr ⟨o, h3.trans h⟩)) ht⟩
  · exact ⟨fun _ => none, ent_of (fun b o q => by cases q) (fun b o q => by cases q) (.inr h) ht⟩
theorem law_at [Inhabited Tbx] {l : PySem.W.OpenLaw} {w : World} {K : PySem.W.Frag} {h : Heap} {mg : Str → Option Value} {fa : Addr} {k : Nat} {tf : List He.Defn} {fd : FuncData} {ps : List Str} {m : List Sl → FO} (X : K.In h) (hmg : mg "law" = some (.ref fa)) (hgl : mg "law" = some (.ref (He.fAd K ("law", none))))
    (hhd : ∀ p ∈ tf, PySem.W.codeHdIn K (He.cT K p).1 (He.cT K p).2 = true) (hout : ∀ p ∈ tf, K.lookup (He.cT K p).2 = none) (hem : ∀ p ∈ tf, h.get? (He.cT K p).2 = some { cls := .none, data := .fields #[] })
    (ht : tabsI = (tf.map (He.cT K)).map (·.2)) (hb : ∀ (s : Shared) (u : Value), BindsTo s fd ⟨[u], []⟩ [("script", u)]) (hps : ps = (["script"] : List Str))
    (hF : ∀ base : Heap, (∀ p ∈ tf, GxR.TabB base mg (He.cT K p).1 (He.cT K p).2) → FnOk l.prog w K mg base (L2.CX l.prog w) k (He.fAd K ("law", none)) fd ps (spD K (xnm mg) ps.length m))
    (hm : ∀ ns : List Int, ns.length ≤ 63 → (∀ z ∈ ns, Builtin.Int.intBits z ≤ 1048576) → ∃ post, m [.fr (.list (ns.map .int))] = .ret (.val (.bool true)) post) :
    LamX.LawAtS l w K (L2.CX l.prog w) k 63 "script" mg fa h := by
  subst hps
  have e : fa = He.fAd K ("law", none) := by
    rw [hmg] at hgl
    cases hgl
    rfl
  subst e
  have mem : ∀ {C : Addr × Addr → Prop}, (∀ p ∈ tf, C (He.cT K p)) → ∀ p ∈ tf.map (He.cT K), C p := fun hC p hp => by
    obtain ⟨q, hq, rfl⟩ := List.mem_map.mp hp
    exact hC q hq
  refine ⟨fd, tf.map (He.cT K), spD K (xnm mg) 1 m, mem hem, mem hout, mem fun p hp => PySem.W.codeHd_of_K X (hhd p hp), hb, fun H a ns hl hbits hT hS => ?_, fun base _ _ hTB => hF base fun p hp => (fun t => ⟨t.code, t.bm, t.gP⟩) (hTB _ (List.mem_map.mpr ⟨p, hp, rfl⟩))⟩
  obtain ⟨F, en⟩ := ent_script hS fun P hP => by
    rw [ht] at hP
    obtain ⟨q, hq, rfl⟩ := List.mem_map.mp hP
    exact hT q hq
  obtain ⟨post, hp⟩ := hm ns hl hbits
  refine ⟨rfl, F, _, en, ?_⟩
  rw [hp]
  exact fun v F' H' x => dp_bl_inv x.rv
end DL

namespace DL
open PySem PySem.Spec PyProof.Rows L2
section
variable {prog : Program} {w : World} {A : Around} {E : Value → Shared → Prop} {s : Shared} {l : Addr} {xs : Array (Int × Tok)}
theorem walk_tupI {Q : Value → Shared → Prop} (hl : s.heap.IsTuple l (intItems xs))
    (h : ∀ s₂ : Shared, s₂ = { s with heap := s.heap.push { cls := .type "tuple_iterator", data := .fields #[.ref l, .int 0 0] } } → (s₂.heap.IsTupleIter s.heap.objs.size l 0 ∧ s₂.heap.IsTuple l (intItems xs)) →
      (∀ b ∈ [s.heap.objs.size, l], b < s₂.heap.objs.size) → l ≠ s.heap.objs.size → Q (.ref s.heap.objs.size) s₂) : wpAny (model prog w) A (pyIter (.ref l)) Q E s := by
  have hlt : l < s.heap.objs.size := by obtain ⟨_, e, _⟩ := hl; exact Heap.lt_size e
  refine wpAny_pyIter_tuple hl (h _ rfl ⟨⟨_, Heap.get?_push_size _ rfl, rfl, rfl⟩, ?_⟩ (fun b hb => ?_) (Nat.ne_of_lt hlt))
  · obtain ⟨o, e, r⟩ := hl
    exact ⟨o, Heap.get?_push_of_some _ e, r⟩
  · show b < (s.heap.push _).objs.size
    rw [Heap.size_push]
    have e' : b = s.heap.objs.size ∨ b = l := by simpa using hb
    rcases e' with z | z
    · rw [z]; exact Nat.lt_succ_self _
    · rw [z]; exact Nat.lt_succ_of_lt hlt
theorem kept_tupI {h' : Heap} (hk : ∀ b o, b ∉ [s.heap.objs.size] → (s.heap.push { cls := .type "tuple_iterator", data := .fields #[.ref l, .int 0 0] }).get? b = some o → h'.get? b = some o) :
    ∀ b o, s.heap.get? b = some o → h'.get? b = some o := fun b o e =>
  hk b o (fun hm => absurd (Heap.lt_size e) (by rw [List.mem_singleton.mp hm]; exact Nat.lt_irrefl _)) (Heap.get?_push_of_some _ e)
variable {its : List Value} {ns : List Int} {Q : Value → Shared → Prop}
theorem max_tup (hh : A.handled = none) (hl : s.heap.IsTuple l its.toArray) (hi : IntsAre its ns) (hne : 0 < ns.length)
    (h : ∀ h' tk M t', (∀ b o, s.heap.get? b = some o → h'.get? b = some o) → M ∈ ns → (∀ a, a ∈ ns → a ≤ M) → Q (.int M t') { s with heap := h', toks := tk }) : wpAny (model prog w) A (call (.builtin "max") [.ref l]) Q E s := by
  obtain ⟨xs, e⟩ := hi.allInts.items
  have hn : numsOf (intItems xs).toList = ns := by rw [← e]; exact hi.numsOf
  rw [nums_intItems] at hn
  subst hn
  rw [e] at hl
  have hsz : 0 < xs.size := by simpa using hne
  refine call_max_walk (walk_tupI hl fun s₂ e st hfp hlI => ?_)
  subst e
  refine ⟨_, _, _, _, _, _, _, rfl, Walks.tuple (A := A.in1) hh _ l hlI (intItems xs), st, hfp, by simpa [intItems] using hsz, CmpOf.ints_gt (numAt xs) (fun _ _ => intItems_at), fun v h' tk hv hk => ?_⟩
  have hv' : (intItems xs)[argBest (fun i j => decide (numAt xs i > numAt xs j)) (xs.size - 1)]? = some v := by simpa [intItems] using hv
  obtain ⟨t, rfl⟩ := intItems_at hv'
  obtain ⟨h1, h2⟩ := argBest_gt (numAt xs) (xs.size - 1)
  refine h h' tk _ t (kept_tupI hk) ?_ fun a ha => ?_
  · rw [numAt_eq]; exact PySem.getD_mem (by rw [List.length_map, Array.length_toList]; omega)
  · obtain ⟨j, hj, rfl⟩ := mem_getD ha
    rw [List.length_map, Array.length_toList] at hj
    rw [← numAt_eq]; exact h2 j (by omega)
theorem min_tup (hh : A.handled = none) (hl : s.heap.IsTuple l its.toArray) (hi : IntsAre its ns) (hne : 0 < ns.length)
    (h : ∀ h' tk M t', (∀ b o, s.heap.get? b = some o → h'.get? b = some o) → M ∈ ns → (∀ a, a ∈ ns → M ≤ a) → Q (.int M t') { s with heap := h', toks := tk }) : wpAny (model prog w) A (call (.builtin "min") [.ref l]) Q E s := by
  obtain ⟨xs, e⟩ := hi.allInts.items
  have hn : numsOf (intItems xs).toList = ns := by rw [← e]; exact hi.numsOf
  rw [nums_intItems] at hn
  subst hn
  rw [e] at hl
  have hsz : 0 < xs.size := by simpa using hne
  refine call_min_walk (walk_tupI hl fun s₂ e st hfp hlI => ?_)
  subst e
  refine ⟨_, _, _, _, _, _, _, rfl, Walks.tuple (A := A.in1) hh _ l hlI (intItems xs), st, hfp, by simpa [intItems] using hsz, CmpOf.ints_lt (numAt xs) (fun _ _ => intItems_at), fun v h' tk hv hk => ?_⟩
  have hv' : (intItems xs)[argBest (fun i j => decide (numAt xs i < numAt xs j)) (xs.size - 1)]? = some v := by simpa [intItems] using hv
  obtain ⟨t, rfl⟩ := intItems_at hv'
  obtain ⟨h1, h2⟩ := argBest_lt (numAt xs) (xs.size - 1)
  refine h h' tk _ t (kept_tupI hk) ?_ fun a ha => ?_
  · rw [numAt_eq]; exact PySem.getD_mem (by rw [List.length_map, Array.length_toList]; omega)
  · obtain ⟨j, hj, rfl⟩ := mem_getD ha
    rw [List.length_map, Array.length_toList] at hj
    rw [← numAt_eq]; exact h2 j (by omega)
end
variable [Inhabited Tbx]
section
variable {X : Cx}
def rMaxA (K : PySem.W.Frag) : List V → Hp → VK → Prop := fun vs H Q => ∃ (a : Addr) (ns : List Int), vs = [V.ref a] ∧ (SqL K H a (ns.map V.int) ∨ SqT K H a (ns.map V.int)) ∧ 0 < ns.length ∧ ∀ m, m ∈ ns → (∀ y, y ∈ ns → y ≤ m) → Q (.int m) H
def rMinA (K : PySem.W.Frag) : List V → Hp → VK → Prop := fun vs H Q => ∃ (a : Addr) (ns : List Int), vs = [V.ref a] ∧ (SqL K H a (ns.map V.int) ∨ SqT K H a (ns.map V.int)) ∧ 0 < ns.length ∧ ∀ m, m ∈ ns → (∀ y, y ∈ ns → m ≤ y) → Q (.int m) H
theorem cr_maxA (hc : X.calm = true) : CallR X (.builtin "max") (rMaxA X.K) := by
  intro pins s σ H vs us Q I r h
  obtain ⟨a, ns, rfl, hs | hs, hne, q⟩ := h
  · exact cr_max hc pins s σ H _ us Q I r ⟨a, ns, rfl, hs, hne, q⟩
  · obtain ⟨its, rv, hl, _⟩ := I.tuple hs
    rw [Vals.ref1 r]
    exact max_tup (I.ok.hd hc) (show s.heap.IsTuple a its.toArray from hl) rv.ints hne fun h' tk m t' hk h1 h2 => ⟨.int _, H, I.kept hk, ⟨_, rfl⟩, q m h1 h2⟩
theorem cr_minA (hc : X.calm = true) : CallR X (.builtin "min") (rMinA X.K) := by
  intro pins s σ H vs us Q I r h
  obtain ⟨a, ns, rfl, hs | hs, hne, q⟩ := h
  · exact cr_min hc pins s σ H _ us Q I r ⟨a, ns, rfl, hs, hne, q⟩
  · obtain ⟨its, rv, hl, _⟩ := I.tuple hs
    rw [Vals.ref1 r]
    exact min_tup (I.ok.hd hc) (show s.heap.IsTuple a its.toArray from hl) rv.ints hne fun h' tk m t' hk h1 h2 => ⟨.int _, H, I.kept hk, ⟨_, rfl⟩, q m h1 h2⟩
end
def gMinA (d : PyData) : Option RV := match (lstOf d).bind intsOf with
  | some ns => if 0 < ns.length then some (.val (.int (minL ns))) else none
  | none => none
def gMaxA (d : PyData) : Option RV := match (lstOf d).bind intsOf with
  | some ns => if 0 < ns.length then some (.val (.int (maxL ns))) else none
  | none => none
theorem seq_ints {K : PySem.W.Frag} {H F : Hp} {x : V} {d : PyData} {ns : List Int} (s : Same F H) (h : TopD K H F x d) (q : (lstOf d).bind intsOf = some ns) : ∃ a, x = .ref a ∧ (SqL K H a (ns.map V.int) ∨ SqT K H a (ns.map V.int)) := by
  obtain ⟨ds, q1, q2⟩ := Option.bind_eq_some_iff.mp q
  cases d <;> try (cases q1; done)
  · cases q1
    obtain ⟨a, e, h1⟩ := list_ints h q2
    exact ⟨a, e, .inl h1⟩
  · cases q1
    obtain ⟨a, vs, rfl, h1, h2⟩ := TopD.tup s h
    rw [intsOf_eq q2] at h2
    rw [dl_ints h2] at h1
    exact ⟨a, rfl, .inr h1⟩
theorem una_minA {K : PySem.W.Frag} : Una K (fun x H Q => rMinA K [x] H Q) gMinA := fun c e σ H F x dx rv Q r hx hg h => by
  simp only [gMinA] at hg
  split at hg
  · rename_i ns q
    split at hg
    · rename_i hl
      cases hg
      obtain ⟨a, rfl, h1⟩ := seq_ints r.aft.sub hx q
      obtain ⟨k1, k2⟩ := minL_spec hl
      exact ⟨a, ns, rfl, h1, hl, fun m hm hall => by
        have e1 : m = minL ns := Int.le_antisymm (hall _ k1) (k2 m hm)
        rw [e1]
        exact h.int r⟩
    · cases hg
  · cases hg
theorem una_maxA {K : PySem.W.Frag} : Una K (fun x H Q => rMaxA K [x] H Q) gMaxA := fun c e σ H F x dx rv Q r hx hg h => by
  simp only [gMaxA] at hg
  split at hg
  · rename_i ns q
    split at hg
    · rename_i hl
      cases hg
      obtain ⟨a, rfl, h1⟩ := seq_ints r.aft.sub hx q
      obtain ⟨k1, k2⟩ := maxL_spec hl
      exact ⟨a, ns, rfl, h1, hl, fun m hm hall => by
        have e1 : m = maxL ns := Int.le_antisymm (k2 m hm) (hall _ k1)
        rw [e1]
        exact h.int r⟩
    · cases hg
  · cases hg
end DL

/-! how mirrors are worked out: each combinator at an environment, its parts first -/
namespace DL
open PySem PyProof.Rows L2
section
variable {α β : Type} {e e1 : Ev} {d d2 : PyData} {i : Nat} {f fa fb fc : FE} {g g2 : PyData → PyData → Option RV} {g1 : PyData → Option RV} {r ra rb : RV} {T : Tg} {t t2 : Ev → Out Bool}
@[simp] theorem ob_ok (a : α) (k : α → Ev → Out β) : ob (.ok a e) k = k a e := rfl
@[simp] theorem ob_exc (x : Str) (k : α → Ev → Out β) : ob (.exc x e : Out α) k = .exc x e := rfl
@[simp] theorem ob_bad (k : α → Ev → Out β) : ob (.bad : Out α) k = .bad := rfl
-- names
def fVarK : Option (Option Sl) → Nat → Ev → Out RV
  | some (some (.fr d)), _, e => .ok (.val d) e
  | some (some (.ol _ _)), i, e => .ok (.own i) e
  | some (some (.od _ _)), i, e => .ok (.own i) e
  | _, _, _ => .bad
@[simp] theorem fVar_e : fVar i e = fVarK e[i]? i e := by
  unfold fVar
  cases e[i]? with
  | none => rfl
  | some w =>
    cases w with
    | none => rfl
    | some w =>
      cases w with
      | fr d => rfl
      | od p kvs => rfl
      | ol p xs => cases p <;> rfl
@[simp] theorem fVarK_f : fVarK (some (some (.fr d))) i e = .ok (.val d) e := rfl
@[simp] theorem fVarK_l {p : Bool} {xs : List PyData} : fVarK (some (some (.ol p xs))) i e = .ok (.own i) e := rfl
@[simp] theorem fVarK_d {p : Bool} {xs : List (PyData × PyData)} : fVarK (some (some (.od p xs))) i e = .ok (.own i) e := rfl
@[simp] theorem fC_e : fC d e = .ok (.val d) e := rfl
-- conversions
@[simp] theorem vv_e : vv f e = ob (f e) vvK := rfl
@[simp] theorem bb_e : bb f e = ob (f e) bbK := rfl
@[simp] theorem vvK_v : vvK (.val d) e = .ok (.val d) e := rfl
@[simp] theorem vvK_n {p : Bool} {xs : List PyData} : vvK (.new (.ol p xs)) e = .ok (.val (.list xs)) e := rfl
def vvO : Option (Option Sl) → Nat → Ev → Out RV
  | some (some (.ol false xs)), i, e => .ok (.val (.list xs)) (e.set i (some (.fr (.list xs))))
  | _, _, _ => .bad
@[simp] theorem vvK_o : vvK (.own i) e = vvO e[i]? i e := by
  simp only [vvK]
  cases e[i]? with
  | none => rfl
  | some w =>
    cases w with
    | none => rfl
    | some w =>
      cases w with
      | fr d => rfl
      | od p kvs => rfl
      | ol p xs => cases p <;> rfl
@[simp] theorem vvO_l {xs : List PyData} : vvO (some (some (.ol false xs))) i e = .ok (.val (.list xs)) (e.set i (some (.fr (.list xs)))) := rfl
@[simp] theorem bbK_v : bbK (.val d) e = .ok (.val d) e := rfl
@[simp] theorem bbK_o : bbK (.own i) e = .ok (.own i) e := rfl
@[simp] theorem bbK_n {p : Bool} {xs : List PyData} : bbK (.new (.ol p xs)) e = .ok (.val (.list xs)) e := rfl
def dataO : Option (Option Sl) → Option PyData
  | some (some (.ol _ xs)) => some (.list xs)
  | _ => none
@[simp] theorem data_v : (RV.val d).data e = some d := rfl
@[simp] theorem data_o : (RV.own i).data e = dataO e[i]? := by
  show (match e[i]? with | some (some (.ol _ xs)) => some (.list xs) | _ => none) = dataO e[i]?
  cases e[i]? with
  | none => rfl
  | some w =>
    cases w with
    | none => rfl
    | some w =>
      cases w with
      | fr d => rfl
      | od p kvs => rfl
      | ol p xs => cases p <;> rfl
@[simp] theorem dataO_l {p : Bool} {xs : List PyData} : dataO (some (some (.ol p xs))) = some (.list xs) := rfl
-- operations
def f2D : Option RV → Ev → Out RV
  | some r, e => .ok r e
  | none, _ => .bad
@[simp] theorem f2D_s : f2D (some r) e = .ok r e := rfl
def f2C : Option PyData → Option PyData → (PyData → PyData → Option RV) → Ev → Out RV
  | some x, some y, g, e => f2D (g x y) e
  | _, _, _, _ => .bad
@[simp] theorem f2C_s : f2C (some d) (some d2) g e = f2D (g d d2) e := rfl
def f2B (g : PyData → PyData → Option RV) (ra rb : RV) (e : Ev) : Out RV := f2C (ra.data e) (rb.data e) g e
def f2A (g : PyData → PyData → Option RV) (fb : FE) (ra : RV) (e : Ev) : Out RV := ob (bb fb e) (f2B g ra)
@[simp] theorem f2B_e : f2B g ra rb e = f2C (ra.data e) (rb.data e) g e := rfl
@[simp] theorem f2A_e : f2A g fb ra e = ob (bb fb e) (f2B g ra) := rfl
@[simp] theorem f2_e : f2 g fa fb e = ob (bb fa e) (f2A g fb) := by
  unfold f2
  congr 1
  funext ra e1
  unfold f2A
  congr 1
  funext rb e2
  unfold f2B f2C f2D
  cases ra.data e2 with
  | none => rfl
  | some dx =>
    cases rb.data e2 with
    | none => rfl
    | some dy => simp only; cases g dx dy <;> rfl
def f1B : Option PyData → (PyData → Option RV) → Ev → Out RV
  | some x, g, e => f2D (g x) e
  | _, _, _ => .bad
@[simp] theorem f1B_s : f1B (some d) g1 e = f2D (g1 d) e := rfl
def f1A (g : PyData → Option RV) (ra : RV) (e : Ev) : Out RV := f1B (ra.data e) g e
@[simp] theorem f1A_e : f1A g1 ra e = f1B (ra.data e) g1 e := rfl
@[simp] theorem f1_e : f1 g1 fa e = ob (bb fa e) (f1A g1) := by
  unfold f1
  congr 1
  funext ra e1
  unfold f1A f1B f2D
  cases ra.data e1 with
  | none => rfl
  | some dx => simp only; cases g1 dx <;> rfl
def f3E : Option RV → RV → RV → (PyData → PyData → Option RV) → FE → Ev → Out RV
  | some (.val (.bool true)), rb, _, g', fc, e2 => ob (bb fc e2) fun rc e3 => (match rb.data e3, rc.data e3 with
      | some dy, some dz => (match g' dy dz with
        | some (.val (.bool b)) => .ok (.val (.bool b)) e3
        | _ => .bad)
      | _, _ => .bad)
  | some (.val (.bool false)), _, _, _, _, e2 => .ok (.val (.bool false)) e2
  | _, _, _, _, _, _ => .bad
-- tests
def asBK : RV → Ev → Out Bool
  | .val (.bool b), e => .ok b e
  | _, _ => .bad
@[simp] theorem asBK_b {b : Bool} : asBK (.val (.bool b)) e = .ok b e := rfl
@[simp] theorem asB_e : asB f e = ob (f e) asBK := by
  unfold asB
  congr 1
  funext r e1
  unfold asBK
  cases r with
  | val d => cases d <;> rfl
  | own i => rfl
  | new w => rfl
def tT1C : Option Bool → Ev → Out Bool
  | some b, e => .ok b e
  | none, _ => .bad
@[simp] theorem tT1C_s {b : Bool} : tT1C (some b) e = .ok b e := rfl
def tT1B : Option PyData → Ev → Out Bool
  | some d, e => tT1C (tru d) e
  | none, _ => .bad
@[simp] theorem tT1B_s : tT1B (some d) e = tT1C (tru d) e := rfl
def tT1A (r : RV) (e : Ev) : Out Bool := tT1B (r.data e) e
@[simp] theorem tT1A_e : tT1A r e = tT1B (r.data e) e := rfl
@[simp] theorem tT1_e : tT1 f e = ob (bb f e) tT1A := by
  unfold tT1
  congr 1
  funext r e1
  unfold tT1A tT1B tT1C
  cases r.data e1 with
  | none => rfl
  | some d => cases h : tru d <;> simp only [h]
def andK (t : Ev → Out Bool) : Bool → Ev → Out Bool
  | true, e => t e
  | false, e => .ok false e
@[simp] theorem andK_t : andK t true e = t e := rfl
@[simp] theorem andK_f : andK t false e = .ok false e := rfl
@[simp] theorem tAndB_e : tAndB t t2 e = ob (t e) (andK t2) := by
  unfold tAndB
  congr 1
  funext b e1
  cases b <;> rfl
def orK (t : Ev → Out Bool) : Bool → Ev → Out Bool
  | true, e => .ok true e
  | false, e => t e
@[simp] theorem orK_t : orK t true e = .ok true e := rfl
@[simp] theorem orK_f : orK t false e = t e := rfl
@[simp] theorem tOrB_e : tOrB t t2 e = ob (t e) (orK t2) := by
  unfold tOrB
  congr 1
  funext b e1
  cases b <;> rfl
def notK (b : Bool) (e : Ev) : Out Bool := .ok (!b) e
@[simp] theorem notK_e {b : Bool} : notK b e = .ok (!b) e := rfl
@[simp] theorem tNotB_e : tNotB t e = ob (t e) notK := rfl
def ifK (fa fb : FE) : Bool → Ev → Out RV
  | true, e => fa e
  | false, e => fb e
@[simp] theorem ifK_t : ifK fa fb true e = fa e := rfl
@[simp] theorem ifK_f : ifK fa fb false e = fb e := rfl
@[simp] theorem fIf_e : fIf t fa fb e = ob (t e) (ifK fa fb) := by
  unfold fIf
  congr 1
  funext b e1
  cases b <;> rfl
def fAndC : Option Bool → FE → RV → Ev → Out RV
  | some true, fb, _, e => fb e
  | some false, _, r, e => .ok r e
  | none, _, _, _ => .bad
@[simp] theorem fAndC_t : fAndC (some true) fb r e = fb e := rfl
@[simp] theorem fAndC_f : fAndC (some false) fb r e = .ok r e := rfl
def fAndB : Option PyData → FE → RV → Ev → Out RV
  | some d, fb, r, e => fAndC (tru d) fb r e
  | none, _, _, _ => .bad
@[simp] theorem fAndB_s : fAndB (some d) fb r e = fAndC (tru d) fb r e := rfl
def fAndA (fb : FE) (r : RV) (e : Ev) : Out RV := fAndB (r.data e) fb r e
@[simp] theorem fAndA_e : fAndA fb r e = fAndB (r.data e) fb r e := rfl
@[simp] theorem fAnd_e : fAnd fa fb e = ob (bb fa e) (fAndA fb) := by
  unfold fAnd
  congr 1
  funext r e1
  unfold fAndA fAndB fAndC
  cases r.data e1 with
  | none => rfl
  | some d =>
    cases h : tru d with
    | none => simp only [h]
    | some b => cases b <;> simp only [h]
def fOrC : Option Bool → FE → RV → Ev → Out RV
  | some true, _, r, e => .ok r e
  | some false, fb, _, e => fb e
  | none, _, _, _ => .bad
@[simp] theorem fOrC_t : fOrC (some true) fb r e = .ok r e := rfl
@[simp] theorem fOrC_f : fOrC (some false) fb r e = fb e := rfl
def fOrB : Option PyData → FE → RV → Ev → Out RV
  | some d, fb, r, e => fOrC (tru d) fb r e
  | none, _, _, _ => .bad
@[simp] theorem fOrB_s : fOrB (some d) fb r e = fOrC (tru d) fb r e := rfl
def fOrA (fb : FE) (r : RV) (e : Ev) : Out RV := fOrB (r.data e) fb r e
@[simp] theorem fOrA_e : fOrA fb r e = fOrB (r.data e) fb r e := rfl
@[simp] theorem fOr_e : fOr fa fb e = ob (bb fa e) (fOrA fb) := by
  unfold fOr
  congr 1
  funext r e1
  unfold fOrA fOrB fOrC
  cases r.data e1 with
  | none => rfl
  | some d =>
    cases h : tru d with
    | none => simp only [h]
    | some b => cases b <;> simp only [h]
def fNotC : Option Bool → Ev → Out RV
  | some b, e => .ok (.val (.bool (!b))) e
  | none, _ => .bad
@[simp] theorem fNotC_s {b : Bool} : fNotC (some b) e = .ok (.val (.bool (!b))) e := rfl
def fNotB : Option PyData → Ev → Out RV
  | some d, e => fNotC (tru d) e
  | none, _ => .bad
@[simp] theorem fNotB_s : fNotB (some d) e = fNotC (tru d) e := rfl
def fNotA (r : RV) (e : Ev) : Out RV := fNotB (r.data e) e
@[simp] theorem fNotA_e : fNotA r e = fNotB (r.data e) e := rfl
@[simp] theorem fNot_e : fNot fa e = ob (bb fa e) fNotA := by
  unfold fNot
  congr 1
  funext r e1
  unfold fNotA fNotB fNotC
  cases r.data e1 with
  | none => rfl
  | some d => cases h : tru d <;> simp only [h]
@[simp] theorem tru_b {b : Bool} : tru (.bool b) = some b := rfl
@[simp] theorem tru_i {k : Int} : tru (.int k) = some (k != 0) := rfl
@[simp] theorem tru_n : tru .none = some false := rfl
@[simp] theorem tru_l {ds : List PyData} : tru (.list ds) = some (!ds.isEmpty) := rfl
@[simp] theorem tru_t {ds : List PyData} : tru (.tuple ds) = some (!ds.isEmpty) := rfl
-- chains
def f3G : Option RV → Ev → Out RV
  | some (.val (.bool b)), e => .ok (.val (.bool b)) e
  | _, _ => .bad
@[simp] theorem f3G_b {b : Bool} : f3G (some (.val (.bool b))) e = .ok (.val (.bool b)) e := rfl
def f3F : Option PyData → Option PyData → (PyData → PyData → Option RV) → Ev → Out RV
  | some x, some y, g, e => f3G (g x y) e
  | _, _, _, _ => .bad
@[simp] theorem f3F_s : f3F (some d) (some d2) g e = f3G (g d d2) e := rfl
def f3E' (g2 : PyData → PyData → Option RV) (rb rc : RV) (e : Ev) : Out RV := f3F (rb.data e) (rc.data e) g2 e
@[simp] theorem f3E_e {rc : RV} : f3E' g2 rb rc e = f3F (rb.data e) (rc.data e) g2 e := rfl
def f3D : Option RV → (PyData → PyData → Option RV) → FE → RV → Ev → Out RV
  | some (.val (.bool true)), g2, fc, rb, e => ob (bb fc e) (f3E' g2 rb)
  | some (.val (.bool false)), _, _, _, e => .ok (.val (.bool false)) e
  | _, _, _, _, _ => .bad
@[simp] theorem f3D_t : f3D (some (.val (.bool true))) g2 fc rb e = ob (bb fc e) (f3E' g2 rb) := rfl
@[simp] theorem f3D_f : f3D (some (.val (.bool false))) g2 fc rb e = .ok (.val (.bool false)) e := rfl
def f3C : Option PyData → Option PyData → (PyData → PyData → Option RV) → (PyData → PyData → Option RV) → FE → RV → Ev → Out RV
  | some x, some y, g, g2, fc, rb, e => f3D (g x y) g2 fc rb e
  | _, _, _, _, _, _, _ => .bad
@[simp] theorem f3C_s : f3C (some d) (some d2) g g2 fc rb e = f3D (g d d2) g2 fc rb e := rfl
def f3B (g g2 : PyData → PyData → Option RV) (fc : FE) (ra rb : RV) (e : Ev) : Out RV := f3C (ra.data e) (rb.data e) g g2 fc rb e
@[simp] theorem f3B_e : f3B g g2 fc ra rb e = f3C (ra.data e) (rb.data e) g g2 fc rb e := rfl
def f3A (g g2 : PyData → PyData → Option RV) (fb fc : FE) (ra : RV) (e : Ev) : Out RV := ob (bb fb e) (f3B g g2 fc ra)
@[simp] theorem f3A_e : f3A g g2 fb fc ra e = ob (bb fb e) (f3B g g2 fc ra) := rfl
@[simp] theorem f3_e : f3 g g2 fa fb fc e = ob (bb fa e) (f3A g g2 fb fc) := by
  unfold f3
  congr 1
  funext ra e1
  unfold f3A
  congr 1
  funext rb e2
  unfold f3B f3C f3D
  cases ra.data e2 with
  | none => rfl
  | some dx =>
    cases rb.data e2 with
    | none => rfl
    | some dy =>
      simp only
      cases g dx dy with
      | none => rfl
      | some r =>
        cases r with
        | own i => rfl
        | new w => rfl
        | val d =>
          cases d <;> try rfl
          rename_i b
          cases b <;> try rfl
          show ob (bb fc e2) _ = ob (bb fc e2) _
          congr 1
          funext rc e3
          unfold f3E' f3F f3G
          cases rb.data e3 with
          | none => rfl
          | some dy =>
            cases rc.data e3 with
            | none => rfl
            | some dz =>
              simp only
              cases g2 dy dz with
              | none => rfl
              | some q =>
                cases q with
                | val d => cases d <;> rfl
                | own i => rfl
                | new w => rfl
-- argument lists, displays
variable {fr : FA} {rs : List RV} {ds : List PyData}
def fConsB (r : RV) (rs : List RV) (e : Ev) : Out (List RV) := if okOwn e r = true then .ok (r :: rs) e else .bad
def fConsA (fr : FA) (r : RV) (e : Ev) : Out (List RV) := ob (fr e) (fConsB r)
@[simp] theorem fCons_e : fCons fa fr e = ob (fa e) (fConsA fr) := rfl
@[simp] theorem fConsA_e : fConsA fr r e = ob (fr e) (fConsB r) := rfl
@[simp] theorem fConsB_v : fConsB (.val d) rs e = .ok (.val d :: rs) e := rfl
@[simp] theorem fConsB_o : fConsB (.own i) rs e = if okOwn e (.own i) = true then .ok (.own i :: rs) e else .bad := rfl
@[simp] theorem okOwn_o : okOwn e (.own i) = (match e[i]? with | some (some w) => w.isOwn | _ => false) := rfl
@[simp] theorem isOwn_l {p : Bool} {xs : List PyData} : Sl.isOwn (.ol p xs) = true := rfl
@[simp] theorem isOwn_d {p : Bool} {xs : List (PyData × PyData)} : Sl.isOwn (.od p xs) = true := rfl
@[simp] theorem isOwn_f : Sl.isOwn (.fr d) = false := rfl
@[simp] theorem fNil_e : fNil e = .ok [] e := rfl
@[simp] theorem valsOf_n : valsOf [] = some [] := rfl
@[simp] theorem valsOf_c : valsOf (.val d :: rs) = (valsOf rs).map (d :: ·) := rfl
def fTupB : Option (List PyData) → Ev → Out RV
  | some ds, e => if ds.length ≤ sizeLine then .ok (.val (.tuple ds)) e else .bad
  | none, _ => .bad
@[simp] theorem fTupB_s : fTupB (some ds) e = if ds.length ≤ sizeLine then .ok (.val (.tuple ds)) e else .bad := rfl
def fTupA (rs : List RV) (e : Ev) : Out RV := fTupB (valsOf rs) e
@[simp] theorem fTupA_e : fTupA rs e = fTupB (valsOf rs) e := rfl
@[simp] theorem fTup_e : fTup fr e = ob (fr e) fTupA := by
  unfold fTup
  congr 1
  funext rs e1
  unfold fTupA fTupB
  cases valsOf rs <;> rfl
def fLstB : Option (List PyData) → Ev → Out RV
  | some ds, e => if ds.length ≤ sizeLine then .ok (.new (.ol false ds)) e else .bad
  | none, _ => .bad
@[simp] theorem fLstB_s : fLstB (some ds) e = if ds.length ≤ sizeLine then .ok (.new (.ol false ds)) e else .bad := rfl
def fLstA (rs : List RV) (e : Ev) : Out RV := fLstB (valsOf rs) e
@[simp] theorem fLstA_e : fLstA rs e = fLstB (valsOf rs) e := rfl
@[simp] theorem fLst_e : fLst fr e = ob (fr e) fLstA := by
  unfold fLst
  congr 1
  funext rs e1
  unfold fLstA fLstB
  cases valsOf rs <;> rfl
-- slices
variable {fl fh : FO?} {lo hi : Option Int}
def slD : Option PyData → Option Int → Option Int → Ev → Out RV
  | some d, lo, hi, e => f2D (gSl lo hi d) e
  | none, _, _, _ => .bad
@[simp] theorem slD_s : slD (some d) lo hi e = f2D (gSl lo hi d) e := rfl
def slC (ra : RV) (lo hi : Option Int) (e : Ev) : Out RV := slD (ra.data e) lo hi e
@[simp] theorem slC_e : slC ra lo hi e = slD (ra.data e) lo hi e := rfl
def slB (fh : FO?) (ra : RV) (lo : Option Int) (e : Ev) : Out RV := ob (fh e) (slC ra lo)
@[simp] theorem slB_e : slB fh ra lo e = ob (fh e) (slC ra lo) := rfl
def slA (fl fh : FO?) (ra : RV) (e : Ev) : Out RV := ob (fl e) (slB fh ra)
@[simp] theorem slA_e : slA fl fh ra e = ob (fl e) (slB fh ra) := rfl
@[simp] theorem fSl_e : fSl fa fl fh e = ob (bb fa e) (slA fl fh) := by
  unfold fSl
  congr 1
  funext ra e1
  unfold slA
  congr 1
  funext lo e2
  unfold slB
  congr 1
  funext hi e3
  unfold slC slD f2D
  cases ra.data e3 with
  | none => rfl
  | some d => simp only; cases gSl lo hi d <;> rfl
def someK : RV → Ev → Out (Option Int)
  | .val (.int i), e => .ok (some i) e
  | _, _ => .bad
@[simp] theorem someK_i {k : Int} : someK (.val (.int k)) e = .ok (some k) e := rfl
@[simp] theorem fNo_e : fNo e = .ok none e := rfl
@[simp] theorem fSome_e : fSome f e = ob (f e) someK := by
  unfold fSome
  congr 1
  funext r e1
  unfold someK
  cases r with
  | val d => cases d <;> rfl
  | own i => rfl
  | new w => rfl
-- own ones
def owK : RV → Ev → Out RV
  | .own i, e => .ok (.own i) e
  | _, _ => .bad
@[simp] theorem owK_o : owK (.own i) e = .ok (.own i) e := rfl
@[simp] theorem ow_e : ow f e = ob (f e) owK := by
  unfold ow
  congr 1
  funext r e1
  unfold owK
  cases r with
  | val d => cases d <;> rfl
  | own i => rfl
  | new w => rfl
-- statements
variable {k : RV → Ev → SO} {s s2 : FS}
@[simp] theorem ofE_ok : ofE (.ok r e) k = k r e := rfl
@[simp] theorem ofE_exc {x : Str} : ofE (.exc x e) k = .exc x e := rfl
@[simp] theorem ofE_bad : ofE .bad k = .bad := rfl
@[simp] theorem sSet_e : sSet i f e = ofE (nn f e) (setK i) := rfl
@[simp] theorem nn_e : nn f e = ob (f e) nnK := rfl
@[simp] theorem nnK_v : nnK (.val d) e = .ok (.val d) e := rfl
@[simp] theorem nnK_n {w : Sl} : nnK (.new w) e = .ok (.new w) e := rfl
@[simp] theorem setK_v : setK i (.val d) e = .nx (e.set i (some (.fr d))) := rfl
@[simp] theorem setK_n {w : Sl} : setK i (.new w) e = .nx (e.set i (some w)) := rfl
@[simp] theorem sSetLc_e : sSetLc i f e = ofE (f e) (setK i) := rfl
def seqK : SO → FS → SO
  | .nx e, g => g e
  | o, _ => o
@[simp] theorem seqK_n : seqK (.nx e) s = s e := rfl
@[simp] theorem seqK_r : seqK (.rt r e) s = .rt r e := rfl
@[simp] theorem seqK_b : seqK (.bk e) s = .bk e := rfl
@[simp] theorem seqK_c : seqK (.ct e) s = .ct e := rfl
@[simp] theorem seqK_x {x : Str} : seqK (.exc x e) s = .exc x e := rfl
@[simp] theorem seqK_0 : seqK .bad s = .bad := rfl
@[simp] theorem sSeq_e : sSeq s s2 e = seqK (s e) s2 := by
  unfold sSeq seqK
  cases s e <;> rfl
@[simp] theorem sNx_e : sNx e = .nx e := rfl
@[simp] theorem sBk_e : sBk e = .bk e := rfl
@[simp] theorem sCt_e : sCt e = .ct e := rfl
def dropK (_ : RV) (e : Ev) : SO := .nx e
@[simp] theorem dropK_e : dropK r e = .nx e := rfl
@[simp] theorem sDrop_e : sDrop f e = ofE (f e) dropK := rfl
@[simp] theorem sRet_e : sRet f e = ofE (f e) retK := rfl
@[simp] theorem retK_v : retK (.val d) e = .rt (.val d) e := rfl
@[simp] theorem retK_n {w : Sl} : retK (.new w) e = .rt (.new w) e := rfl
@[simp] theorem retK_o : retK (.own i) e = (match e[i]? with
    | some (some (.ol false xs)) => .rt (.new (.ol false xs)) (e.set i none)
    | some (some (.od false kvs)) => .rt (.new (.od false kvs)) (e.set i none)
    | _ => .bad) := rfl
@[simp] theorem sRetN_e : sRetN e = .rt (.val .none) e := rfl
@[simp] theorem sRaise_e {x : Str} : sRaise x e = .exc x e := rfl
def sIfK : Out Bool → FS → FS → SO
  | .ok true e, f, _ => f e
  | .ok false e, _, g => g e
  | .exc x e, _, _ => .exc x e
  | .bad, _, _ => .bad
@[simp] theorem sIfK_t : sIfK (.ok true e) s s2 = s e := rfl
@[simp] theorem sIfK_f : sIfK (.ok false e) s s2 = s2 e := rfl
@[simp] theorem sIfK_x {x : Str} : sIfK (.exc x e) s s2 = .exc x e := rfl
@[simp] theorem sIf_e : sIf t s s2 e = sIfK (t e) s s2 := by
  unfold sIf sIfK
  cases t e with
  | ok b e1 => cases b <;> rfl
  | exc x e1 => rfl
  | bad => rfl
-- targets, assignments
@[simp] theorem setT_n : setT (.nm i) d e = some (e.set i (some (.fr d))) := by simp only [setT]
@[simp] theorem setT_t {l : List Tg} : setT (.tp l) (.tuple ds) e = setTs l ds e := by simp only [setT]
@[simp] theorem setT_l {l : List Tg} : setT (.tp l) (.list ds) e = setTs l ds e := by simp only [setT]
@[simp] theorem setTs_n : setTs [] [] e = some e := by simp only [setTs]
def setTsK (l : List Tg) (ds : List PyData) : Option Ev → Option Ev
  | some e => setTs l ds e
  | none => none
@[simp] theorem setTsK_s {l : List Tg} : setTsK l ds (some e) = setTs l ds e := rfl
@[simp] theorem setTs_c {l : List Tg} : setTs (T :: l) (d :: ds) e = setTsK l ds (setT T d e) := by
  simp only [setTs]
  unfold setTsK
  cases setT T d e <;> rfl
def unpC : Option Ev → SO
  | some e => .nx e
  | none => .bad
@[simp] theorem unpC_s : unpC (some e) = .nx e := rfl
def unpB : Option PyData → Tg → Ev → SO
  | some d, T, e => unpC (setT T d e)
  | none, _, _ => .bad
@[simp] theorem unpB_s : unpB (some d) T e = unpC (setT T d e) := rfl
def unpA (T : Tg) (r : RV) (e : Ev) : SO := unpB (r.data e) T e
@[simp] theorem unpA_e : unpA T r e = unpB (r.data e) T e := rfl
theorem ofE_congr {o : Out RV} {k k' : RV → Ev → SO} (h : ∀ r e, k r e = k' r e) : ofE o k = ofE o k' := by
  cases o with
  | ok r e => exact h r e
  | exc x e => rfl
  | bad => rfl
@[simp] theorem sUnp_e : sUnp T f e = ofE (bb f e) (unpA T) := by
  unfold sUnp
  refine ofE_congr fun r e1 => ?_
  unfold unpA unpB unpC
  cases r.data e1 with
  | none => rfl
  | some d => simp only <;> (cases setT T d e1 <;> rfl)
def parB (i j : Nat) : RV → RV → Ev → SO
  | .val d, .val d', e => .nx ((e.set i (some (.fr d))).set j (some (.fr d')))
  | _, _, _ => .bad
def parA (i j : Nat) (fb : FE) (ra : RV) (e : Ev) : SO := ofE (vv fb e) (parB i j ra)
@[simp] theorem parB_v {i j : Nat} : parB i j (.val d) (.val d2) e = .nx ((e.set i (some (.fr d))).set j (some (.fr d2))) := rfl
@[simp] theorem parA_e {i j : Nat} : parA i j fb ra e = ofE (vv fb e) (parB i j ra) := rfl
@[simp] theorem sPar_e {i j : Nat} : sPar i j fa fb e = ofE (vv fa e) (parA i j fb) := by
  unfold sPar
  refine ofE_congr fun ra e1 => ?_
  unfold parA
  refine ofE_congr fun rb e2 => ?_
  cases ra <;> cases rb <;> rfl
variable {fo fi fv : FE}
def siD : Option (Option Sl) → RV → Nat → RV → Ev → SO
  | some (some (.ol p xs)), .val d, t, .val (.int k), e => (match ixN xs.length k with
      | some j => .nx (e.set t (some (.ol p (xs.set j d))))
      | none => .bad)
  | _, _, _, _, _ => .bad
def siC (rv ro ri : RV) (e : Ev) : SO := match ro with
  | .own t => siD e[t]? rv t ri e
  | _ => .bad
def siB (fi : FE) (rv ro : RV) (e : Ev) : SO := ofE (fi e) (siC rv ro)
def siA (fo fi : FE) (rv : RV) (e : Ev) : SO := ofE (ow fo e) (siB fi rv)
@[simp] theorem siA_e {rv : RV} : siA fo fi rv e = ofE (ow fo e) (siB fi rv) := rfl
@[simp] theorem siB_e {rv ro : RV} : siB fi rv ro e = ofE (fi e) (siC rv ro) := rfl
@[simp] theorem siC_e {rv ri : RV} {t : Nat} : siC rv (.own t) ri e = siD e[t]? rv t ri e := rfl
@[simp] theorem siD_e {p : Bool} {xs : List PyData} {t : Nat} {k : Int} : siD (some (some (.ol p xs))) (.val d) t (.val (.int k)) e = (match ixN xs.length k with
      | some j => .nx (e.set t (some (.ol p (xs.set j d))))
      | none => .bad) := rfl
@[simp] theorem sSetIx_e : sSetIx fo fi fv e = ofE (vv fv e) (siA fo fi) := by
  unfold sSetIx
  refine ofE_congr fun rv e1 => ?_
  unfold siA
  refine ofE_congr fun ro e2 => ?_
  unfold siB
  refine ofE_congr fun ri e3 => ?_
  cases rv with
  | own i => unfold siC siD; cases ro <;> first | rfl | (simp only; split <;> first | rfl | simp_all)
  | new w => unfold siC siD; cases ro <;> first | rfl | (simp only; split <;> first | rfl | simp_all)
  | val d =>
    cases ro with
    | val d => rfl
    | new w => rfl
    | own t =>
      cases ri with
      | own i => unfold siC siD; simp only; split <;> first | rfl | simp_all
      | new w => unfold siC siD; simp only; split <;> first | rfl | simp_all
      | val d2 =>
        cases d2 with
        | int k =>
          unfold siC siD
          simp only
          cases e3[t]? with
          | none => rfl
          | some w =>
            cases w with
            | none => rfl
            | some w => cases w <;> rfl
        | _ => unfold siC siD; simp only; split <;> first | rfl | simp_all
end
end DL

namespace DL
open PySem PyProof.Rows L2
theorem ob_congr {α β : Type} {o : Out α} {k k' : α → Ev → Out β} (h : ∀ r e, k r e = k' r e) : ob o k = ob o k' := by
  cases o with
  | ok r e => exact h r e
  | exc x e => rfl
  | bad => rfl
section
variable {e e1 : Ev} {d d2 : PyData} {i : Nat} {f fa fb fc fo fi fv : FE} {r ra rb : RV} {T : Tg} {t t2 : Ev → Out Bool} {fr : FA} {rs : List RV} {ds : List PyData} {s s2 : FS} {m : List Sl → FO} {as ps : List Sl} {p : Bool} {xs : List PyData} {kvs : List (PyData × PyData)}
-- x[i] op= v
def augE : RV → Option (Option Sl) → Nat → Int → Int → (Int → Int → Int) → Ev → SO
  | .val (.int b), some (some (.ol p ys)), t, k, a, g, e => (match ixN ys.length k with
            | some j => .nx (e.set t (some (.ol p (ys.set j (.int (g a b))))))
            | none => .bad)
  | _, _, _, _, _, _, _ => .bad
def augD (t : Nat) (k a : Int) (g : Int → Int → Int) (rv : RV) (e : Ev) : SO := augE rv e[t]? t k a g e
def augC : Option PyData → FE → Nat → Int → (Int → Int → Int) → Ev → SO
  | some (.int a), fv, t, k, g, e => ofE (fv e) (augD t k a g)
  | _, _, _, _, _, _ => .bad
def augB : Option (Option Sl) → RV → FE → Nat → (Int → Int → Int) → Ev → SO
  | some (some (.ol _ xs)), .val (.int k), fv, t, g, e => augC (atI xs k) fv t k g e
  | _, _, _, _, _, _ => .bad
def augA2 (g : Int → Int → Int) (fv : FE) (ro ri : RV) (e : Ev) : SO := match ro with
  | .own t => augB e[t]? ri fv t g e
  | _ => .bad
def augA (g : Int → Int → Int) (fi fv : FE) (ro : RV) (e : Ev) : SO := ofE (fi e) (augA2 g fv ro)
variable {g : Int → Int → Int}
@[simp] theorem augA_e : augA g fi fv r e = ofE (fi e) (augA2 g fv r) := rfl
@[simp] theorem augA2_e {t : Nat} : augA2 g fv (.own t) r e = augB e[t]? r fv t g e := rfl
@[simp] theorem augB_e {t : Nat} {k : Int} : augB (some (some (.ol p xs))) (.val (.int k)) fv t g e = augC (atI xs k) fv t k g e := rfl
@[simp] theorem augC_e {t : Nat} {k a : Int} : augC (some (.int a)) fv t k g e = ofE (fv e) (augD t k a g) := rfl
@[simp] theorem augD_e {t : Nat} {k a : Int} : augD t k a g r e = augE r e[t]? t k a g e := rfl
@[simp] theorem augE_e {t : Nat} {k a b : Int} : augE (.val (.int b)) (some (some (.ol p xs))) t k a g e = (match ixN xs.length k with
            | some j => .nx (e.set t (some (.ol p (xs.set j (.int (g a b))))))
            | none => .bad) := rfl
@[simp] theorem sAugIx_e : sAugIx g fo fi fv e = ofE (ow fo e) (augA g fi fv) := by
  unfold sAugIx
  refine ofE_congr fun ro e1 => ?_
  unfold augA
  refine ofE_congr fun ri e2 => ?_
  unfold augA2 augB
  cases ro with
  | val d => rfl
  | new w => rfl
  | own t =>
    cases ri with
    | own i => simp only; split <;> first | rfl | simp_all
    | new w => simp only; split <;> first | rfl | simp_all
    | val d2 =>
      cases d2 with
      | int k =>
        simp only
        cases e2[t]? with
        | none => rfl
        | some w =>
          cases w with
          | none => rfl
          | some w =>
            cases w with
            | fr d => rfl
            | od p kvs => rfl
            | ol p xs =>
              simp only
              unfold augC
              cases atI xs k with
              | none => rfl
              | some y =>
                cases y <;> try rfl
                simp only
                refine ofE_congr fun rv e3 => ?_
                unfold augD augE
                cases rv with
                | own i => rfl
                | new w => rfl
                | val d =>
                  cases d <;> try rfl
                  simp only
                  cases e3[t]? with
                  | none => rfl
                  | some w =>
                    cases w with
                    | none => rfl
                    | some w => cases w <;> rfl
      | _ => simp only; split <;> first | rfl | simp_all
-- append
def appC : Option (Option Sl) → Nat → PyData → Ev → Out RV
  | some (some (.ol p xs)), t, d, e => if xs.length < sizeLine then .ok (.val .none) (e.set t (some (.ol p (xs ++ [d])))) else .bad
  | _, _, _, _ => .bad
def appB (t : Nat) : RV → Ev → Out RV
  | .val d, e => appC e[t]? t d e
  | _, _ => .bad
def appA (fv : FE) : RV → Ev → Out RV
  | .own t, e => if listAt e t = true then ob (vv fv e) (appB t) else .bad
  | _, _ => .bad
@[simp] theorem appA_e {t : Nat} : appA fv (.own t) e = if listAt e t = true then ob (vv fv e) (appB t) else .bad := rfl
@[simp] theorem appB_e {t : Nat} : appB t (.val d) e = appC e[t]? t d e := rfl
@[simp] theorem appC_e {t : Nat} : appC (some (some (.ol p xs))) t d e = if xs.length < sizeLine then .ok (.val .none) (e.set t (some (.ol p (xs ++ [d])))) else .bad := rfl
@[simp] theorem fAppend_e : fAppend' fo fv e = ob (ow fo e) (appA fv) := by
  unfold fAppend'
  refine ob_congr fun ro e1 => ?_
  cases ro with
  | val d => rfl
  | new w => rfl
  | own t =>
    simp only [appA_e]
    split
    · refine ob_congr fun rv e2 => ?_
      cases rv with
      | own i => rfl
      | new w => rfl
      | val d =>
        simp only [appB_e]
        cases e2[t]? with
        | none => rfl
        | some w =>
          cases w with
          | none => rfl
          | some w => cases w <;> rfl
    · rfl
-- calls
def callC : FO → List RV → Ev → Out RV
  | .ret r post, rs, e => .ok r (backE e rs post)
  | .exc x post, rs, e => .exc x (backE e rs post)
  | .bad, _, _ => .bad
def callB : Option (List Sl) → (List Sl → FO) → List RV → Ev → Out RV
  | some as, m, rs, e => if distinct rs = true then callC (m as) rs e else .bad
  | none, _, _, _ => .bad
def callA (m : List Sl → FO) (rs : List RV) (e : Ev) : Out RV := callB (argsOf e rs) m rs e
@[simp] theorem callA_e : callA m rs e = callB (argsOf e rs) m rs e := rfl
@[simp] theorem callB_e : callB (some as) m rs e = if distinct rs = true then callC (m as) rs e else .bad := rfl
@[simp] theorem callC_r : callC (.ret r ps) rs e = .ok r (backE e rs ps) := rfl
@[simp] theorem callC_x {x : Str} : callC (.exc x ps) rs e = .exc x (backE e rs ps) := rfl
@[simp] theorem fCall_e : fCall m fr e = ob (fr e) (callA m) := by
  unfold fCall
  refine ob_congr fun rs e1 => ?_
  unfold callA callB
  cases argsOf e1 rs with
  | none => rfl
  | some as =>
    simp only
    split
    · unfold callC
      cases m as <;> rfl
    · rfl
@[simp] theorem argsOf_n : argsOf e [] = some [] := rfl
@[simp] theorem argsOf_v : argsOf e (.val d :: rs) = (argsOf e rs).map (Sl.fr d :: ·) := rfl
def argO : Option (Option Sl) → Option Sl
  | some (some (.ol _ xs)) => some (.ol true xs)
  | some (some (.od _ xs)) => some (.od true xs)
  | _ => none
@[simp] theorem argO_l : argO (some (some (.ol p xs))) = some (.ol true xs) := rfl
@[simp] theorem argO_d : argO (some (some (.od p kvs))) = some (.od true kvs) := rfl
def argsK (l : Option (List Sl)) : Option Sl → Option (List Sl)
  | some a => l.map (a :: ·)
  | none => none
@[simp] theorem argsK_s {l : Option (List Sl)} {a : Sl} : argsK l (some a) = l.map (a :: ·) := rfl
@[simp] theorem argsOf_o : argsOf e (.own i :: rs) = argsK (argsOf e rs) (argO e[i]?) := by
  have h : argOf e (.own i) = argO e[i]? := by
    simp only [argOf]
    cases e[i]? with
    | none => rfl
    | some w =>
      cases w with
      | none => rfl
      | some w => cases w <;> rfl
  simp only [argsOf]
  rw [h]
  cases argO e[i]? <;> rfl
@[simp] theorem distinct_n : distinct [] = true := rfl
@[simp] theorem distinct_v : distinct (.val d :: rs) = distinct rs := rfl
@[simp] theorem distinct_o : distinct (.own i :: rs) = ((!rs.any (RV.isOwnB i)) && distinct rs) := rfl
@[simp] theorem isOwnB_v : RV.isOwnB i (.val d) = false := rfl
@[simp] theorem isOwnB_o {j : Nat} : RV.isOwnB i (.own j) = decide (i = j) := rfl
variable {w : Sl} {ws : List Sl}
@[simp] theorem backE_n : backE e [] ws = e := by cases ws <;> rfl
@[simp] theorem backE_v : backE e (.val d :: rs) (w :: ws) = backE e rs ws := rfl
@[simp] theorem backE_o : backE e (.own i :: rs) (w :: ws) = (backE e rs ws).set i (some (w.withPar (parAt e i))) := rfl
@[simp] theorem withPar_l {q : Bool} : Sl.withPar q (.ol p xs) = .ol q xs := rfl
@[simp] theorem withPar_d {q : Bool} : Sl.withPar q (.od p kvs) = .od q kvs := rfl
def parO : Option (Option Sl) → Bool
  | some (some w) => w.par
  | _ => false
@[simp] theorem parAt_e : parAt e i = parO e[i]? := rfl
@[simp] theorem parO_l : parO (some (some (.ol p xs))) = p := by cases p <;> rfl
@[simp] theorem parO_d : parO (some (some (.od p kvs))) = p := by cases p <;> rfl
-- the end of a def
def outK : Option (List Sl) → RV → FO
  | some ps, r => .ret r ps
  | none, _ => .bad
def outX : Option (List Sl) → Str → FO
  | some ps, x => .exc x ps
  | none, _ => .bad
@[simp] theorem outK_s : outK (some ps) r = .ret r ps := rfl
@[simp] theorem outX_s {x : Str} : outX (some ps) x = .exc x ps := rfl
@[simp] theorem outF_n : outF as (.nx e) = outK (backs as e) (.val .none) := by unfold outF outK; simp only; cases backs as e <;> rfl
@[simp] theorem outF_v : outF as (.rt (.val d) e) = outK (backs as e) (.val d) := by unfold outF outK; simp only; cases backs as e <;> rfl
@[simp] theorem outF_w : outF as (.rt (.new w) e) = outK (backs as e) (.new w) := by unfold outF outK; simp only; cases backs as e <;> rfl
@[simp] theorem outF_x {x : Str} : outF as (.exc x e) = outX (backs as e) x := by unfold outF outX; simp only; cases backs as e <;> rfl
@[simp] theorem backs_n : backs [] e = some [] := by unfold backs; rfl
@[simp] theorem backs_f {o : Option Sl} : backs (.fr d :: as) (o :: e) = (backs as e).map (Sl.fr d :: ·) := by simp only [backs]
@[simp] theorem backs_l {q : Bool} {ys : List PyData} : backs (.ol q ys :: as) (some (.ol p xs) :: e) = if p = true then (backs as e).map (Sl.ol p xs :: ·) else none := by
  cases p <;> simp [backs, Sl.isOwn, Sl.par]
@[simp] theorem defM_e {n : Nat} : defM n s as = outF as (s (startE n as)) := rfl
-- what is walked
def iSeqB : Option (List PyData) → Ev → Out (List PyData)
  | some xs, e => .ok xs e
  | none, _ => .bad
def iSeqA : RV → Ev → Out (List PyData)
  | .val d, e => iSeqB (itemsOf d) e
  | _, _ => .bad
@[simp] theorem iSeqA_v : iSeqA (.val d) e = iSeqB (itemsOf d) e := rfl
@[simp] theorem iSeqB_s : iSeqB (some xs) e = .ok xs e := rfl
@[simp] theorem itemsOf_l : itemsOf (.list xs) = some xs := rfl
@[simp] theorem itemsOf_t : itemsOf (.tuple xs) = some xs := rfl
@[simp] theorem iSeq_e : iSeq f e = ob (vv f e) iSeqA := by
  unfold iSeq
  refine ob_congr fun r e1 => ?_
  cases r with
  | own i => rfl
  | new w => rfl
  | val d => simp only [iSeqA_v]; unfold iSeqB; cases itemsOf d <;> rfl
def iR1B : Option Int → Ev → Out (List PyData)
  | some j, e => if sm j = true then .ok (rngD 0 j.toNat) e else .bad
  | none, _ => .bad
def iR1A (rs : List RV) (e : Ev) : Out (List PyData) := iR1B ((a1 rs).bind asI) e
@[simp] theorem iR1A_e : iR1A rs e = iR1B ((a1 rs).bind asI) e := rfl
@[simp] theorem iR1B_s {j : Int} : iR1B (some j) e = if sm j = true then .ok (rngD 0 j.toNat) e else .bad := rfl
@[simp] theorem iRng1_e : iRng1' f e = ob (fCons (vv f) fNil e) iR1A := by
  unfold iRng1'
  refine ob_congr fun rs e1 => ?_
  unfold iR1A iR1B
  cases (a1 rs).bind asI <;> rfl
@[simp] theorem a1_e : a1 [.val d] = some d := rfl
@[simp] theorem a2_e : a2 [.val d, .val d2] = some (d, d2) := rfl
@[simp] theorem asI_e {k : Int} : asI (.int k) = some k := rfl
@[simp] theorem seqOf_l : seqOf (.list xs) = some (.l, xs) := rfl
@[simp] theorem seqOf_t : seqOf (.tuple xs) = some (.t, xs) := rfl
def iEnB : Option (Kd × List PyData) → Ev → Out (List PyData)
  | some (_, xs), e => .ok (xs.zipIdx.map fun p => PyData.tuple [.int (p.2 : Nat), p.1]) e
  | none, _ => .bad
def iEnA (rs : List RV) (e : Ev) : Out (List PyData) := iEnB ((a1 rs).bind seqOf) e
@[simp] theorem iEnA_e : iEnA rs e = iEnB ((a1 rs).bind seqOf) e := rfl
@[simp] theorem iEnB_s {k : Kd} : iEnB (some (k, xs)) e = .ok (xs.zipIdx.map fun p => PyData.tuple [.int (p.2 : Nat), p.1]) e := rfl
@[simp] theorem iEnum_e : iEnum f e = ob (fCons (vv f) fNil e) iEnA := by
  unfold iEnum
  refine ob_congr fun rs e1 => ?_
  unfold iEnA iEnB
  cases (a1 rs).bind seqOf <;> rfl
def iZiB : Option ((Kd × List PyData) × (Kd × List PyData)) → Ev → Out (List PyData)
  | some (i, j), e => .ok ((i.2.zip j.2).map fun p => PyData.tuple [p.1, p.2]) e
  | none, _ => .bad
def iZiA (rs : List RV) (e : Ev) : Out (List PyData) := iZiB ((a2 rs).bind (fun p => (seqOf p.1).bind fun i => (seqOf p.2).map fun j => (i, j))) e
@[simp] theorem iZiA_e : iZiA rs e = iZiB ((a2 rs).bind (fun p => (seqOf p.1).bind fun i => (seqOf p.2).map fun j => (i, j))) e := rfl
@[simp] theorem iZiB_s {i j : Kd × List PyData} : iZiB (some (i, j)) e = .ok ((i.2.zip j.2).map fun p => PyData.tuple [p.1, p.2]) e := rfl
@[simp] theorem iZip_e : iZip fa fb e = ob (fCons (vv fa) (fCons (vv fb) fNil) e) iZiA := by
  unfold iZip
  refine ob_congr fun rs e1 => ?_
  unfold iZiA iZiB
  cases (a2 rs).bind (fun p => (seqOf p.1).bind fun i => (seqOf p.2).map fun j => (i, j)) <;> rfl
-- loops
variable {fI : FI}
def forA : Out (List PyData) → Tg → FS → SO
  | .ok xs e, T, s => forL T s xs e
  | .exc x e, _, _ => .exc x e
  | .bad, _, _ => .bad
@[simp] theorem forA_e : forA (.ok xs e) T s = forL T s xs e := rfl
@[simp] theorem sFor_e : sFor T fI s e = forA (fI e) T s := by unfold sFor forA; cases fI e <;> rfl
/-- the environments st i, one turn leading to the next -/
theorem forL_go (st : Nat → Ev) : ∀ (xs : List PyData) (i0 : Nat), (∀ i d, xs[i]? = some d → ∃ e1, setT T d (st (i0 + i)) = some e1 ∧ (s e1 = .nx (st (i0 + i + 1)) ∨ s e1 = .ct (st (i0 + i + 1)))) → forL T s xs (st i0) = .nx (st (i0 + xs.length))
  | [], i0, h => rfl
  | d :: xs, i0, h => by
    obtain ⟨e1, h1, h2⟩ := h 0 d rfl
    rw [Nat.add_zero] at h1 h2
    unfold forL
    rw [h1]
    have k := forL_go st xs (i0 + 1) fun i d hd => by
      have := h (i + 1) d hd
      rw [show i0 + (i + 1) = i0 + 1 + i by omega] at this
      exact this
    have e3 : i0 + 1 + xs.length = i0 + (d :: xs).length := by simp only [List.length_cons]; omega
    rcases h2 with h2 | h2
    · simp only [h2]
      rw [← e3]
      exact k
    · simp only [h2]
      rw [← e3]
      exact k
def lcB : Out (List PyData) → Ev → List Nat → Out RV
  | .ok ds e2, e1, vs => .ok (.new (.ol false ds)) (restE e1 e2 vs)
  | _, _, _ => .bad
def lcA : Out (List PyData) → Tg → List Nat → (Ev → Out Bool) → FE → Out RV
  | .ok xs e1, T, vs, tc, fe => lcB (lcL T vs tc fe xs (wipeE e1 vs) []) e1 vs
  | .exc x e1, _, _, _, _ => .exc x e1
  | .bad, _, _, _, _ => .bad
variable {vs : List Nat}
@[simp] theorem lcA_e : lcA (.ok xs e) T vs t f = lcB (lcL T vs t f xs (wipeE e vs) []) e vs := rfl
@[simp] theorem lcB_e : lcB (.ok xs e1) e vs = .ok (.new (.ol false xs)) (restE e e1 vs) := rfl
@[simp] theorem fLc_e : fLc T vs fI t f e = lcA (fI e) T vs t f := by
  unfold fLc lcA
  cases fI e with
  | bad => rfl
  | exc x e1 => rfl
  | ok xs e1 => simp only; unfold lcB; cases lcL T vs t f xs (wipeE e1 vs) [] <;> rfl
@[simp] theorem tYesB_e : tYesB e = .ok true e := rfl
@[simp] theorem wipeE_n : wipeE e [] = e := rfl
@[simp] theorem wipeE_c {v : Nat} : wipeE e (v :: vs) = (wipeE e vs).set v none := rfl
@[simp] theorem restE_n : restE e e1 [] = e1 := rfl
@[simp] theorem restE_c {v : Nat} : restE e e1 (v :: vs) = (restE e e1 vs).set v (frAt e v) := rfl
def frO : Option (Option Sl) → Option Sl
  | some (some (.fr d)) => some (.fr d)
  | _ => none
@[simp] theorem frAt_e {v : Nat} : frAt e v = frO e[v]? := by
  unfold frAt
  cases e[v]? with
  | none => rfl
  | some w =>
    cases w with
    | none => rfl
    | some w => cases w <;> rfl
@[simp] theorem frO_f : frO (some (some (.fr d))) = some (.fr d) := rfl
@[simp] theorem frO_n : frO (some none) = none := rfl
@[simp] theorem frO_l : frO (some (some (.ol p xs))) = none := rfl
@[simp] theorem frO_d : frO (some (some (.od p kvs))) = none := rfl
/-- a comprehension whose turns leave e as it is: which pass, and what they give -/
theorem lcL_map {q : PyData → Bool} {v : PyData → PyData} (e : Ev) : ∀ (ds acc : List PyData), acc.length + ds.length ≤ sizeLine → (∀ d ∈ ds, ∃ e1, setT T d e = some e1 ∧ ∃ e2, t e1 = .ok (q d) e2 ∧ (q d = false → wipeE e2 vs = e) ∧ (q d = true → ∃ e3, vv f e2 = .ok (.val (v d)) e3 ∧ wipeE e3 vs = e)) →
    lcL T vs t f ds e acc = .ok (acc ++ (ds.filter q).map v) e
  | [], acc, hl, h => by simp [lcL]
  | d :: ds, acc, hl, h => by
    obtain ⟨e1, h1, e2, h2, h3, h4⟩ := h d List.mem_cons_self
    unfold lcL
    rw [h1]
    simp only [List.length_cons] at hl
    cases hq : q d with
    | false =>
      rw [hq] at h2
      simp only [h2]
      rw [h3 hq, lcL_map e ds acc (by omega) fun x hx => h x (List.mem_cons_of_mem _ hx), List.filter_cons_of_neg (by simp [hq])]
    | true =>
      rw [hq] at h2
      obtain ⟨e3, h5, h6⟩ := h4 hq
      simp only [h2, h5]
      rw [if_pos (by omega), h6, lcL_map e ds (acc ++ [v d]) (by simp only [List.length_append, List.length_cons, List.length_nil]; omega) fun x hx => h x (List.mem_cons_of_mem _ hx), List.filter_cons_of_pos hq, List.map_cons, List.append_assoc]
      rfl
-- all, any
def genB : Option Bool → Ev → Out RV
  | some b, e => .ok (.val (.bool b)) e
  | none, _ => .bad
def genA : Out (List PyData) → Bool → Tg → List (Option Nat) → FE → Out RV
  | .ok xs e, q, T, src, f => genB (quantL q T f xs (capE src e)) e
  | .exc x e, _, _, _, _ => .exc x e
  | .bad, _, _, _, _ => .bad
variable {q : Bool} {src : List (Option Nat)}
@[simp] theorem genA_e : genA (.ok xs e) q T src f = genB (quantL q T f xs (capE src e)) e := rfl
@[simp] theorem genB_e {b : Bool} : genB (some b) e = .ok (.val (.bool b)) e := rfl
@[simp] theorem fGen_e : fGen q T src fI f e = genA (fI e) q T src f := by
  unfold fGen genA
  cases fI e with
  | bad => rfl
  | exc x e1 => rfl
  | ok xs e1 => simp only; unfold genB; cases quantL q T f xs (capE src e1) <;> rfl
theorem quantL_all {v : PyData → Bool} {C : Ev → Prop} (h : ∀ d e, d ∈ ds → C e → ∃ e1, setT T d e = some e1 ∧ ∃ e2, f e1 = .ok (.val (.bool (v d))) e2 ∧ C e2) : ∀ (e : Ev), C e → quantL true T f ds e = some (ds.all v) := by
  induction ds with
  | nil => intro e _; rfl
  | cons d ds ih =>
    intro e hc
    obtain ⟨e1, h1, e2, h2, h3⟩ := h d e List.mem_cons_self hc
    unfold quantL
    simp only [h1, h2]
    cases hv : v d with
    | true => rw [if_pos rfl, ih (fun d e hd => h d e (List.mem_cons_of_mem _ hd)) e2 h3, List.all_cons, hv, Bool.true_and]
    | false => rw [if_neg Bool.false_ne_true, List.all_cons, hv, Bool.false_and]
theorem quantL_any {v : PyData → Bool} {C : Ev → Prop} (h : ∀ d e, d ∈ ds → C e → ∃ e1, setT T d e = some e1 ∧ ∃ e2, f e1 = .ok (.val (.bool (v d))) e2 ∧ C e2) : ∀ (e : Ev), C e → quantL false T f ds e = some (ds.any v) := by
  induction ds with
  | nil => intro e _; rfl
  | cons d ds ih =>
    intro e hc
    obtain ⟨e1, h1, e2, h2, h3⟩ := h d e List.mem_cons_self hc
    unfold quantL
    simp only [h1, h2]
    cases hv : v d with
    | false => rw [if_pos rfl, ih (fun d e hd => h d e (List.mem_cons_of_mem _ hd)) e2 h3, List.any_cons, hv, Bool.false_or]
    | true => rw [if_neg (fun z => by cases z), List.any_cons, hv, Bool.true_or]
end
end DL

/-! plain facts for the laws -/
namespace DL
open PySem PyProof.Rows L2
theorem ixN_nat {n p : Nat} (h : p < n) : ixN n (p : Int) = some p := by
  unfold ixN
  rw [if_pos (by omega), if_pos (by omega)]
  simp
theorem atI_map {α β : Type} (f : α → β) (xs : List α) (k : Int) : atI (xs.map f) k = (atI xs k).map f := by
  unfold atI
  rw [List.length_map]
  cases ixN xs.length k with
  | none => rfl
  | some j => simp
theorem atN {α : Type} {xs : List α} {p : Nat} (h : p < xs.length) : atI xs (p : Int) = some xs[p] := by
  unfold atI
  rw [ixN_nat h]
  simp [h]
@[simp] theorem atI_0 {α : Type} {x : α} {xs : List α} : atI (x :: xs) 0 = some x := by
  have := atN (xs := x :: xs) (p := 0) (by simp)
  simpa using this
@[simp] theorem atI_1 {α : Type} {x y : α} {xs : List α} : atI (x :: y :: xs) 1 = some y := by
  have := atN (xs := x :: y :: xs) (p := 1) (by simp)
  simpa using this
@[simp] theorem atI_2 {α : Type} {x y z : α} {xs : List α} : atI (x :: y :: z :: xs) 2 = some z := by
  have := atN (xs := x :: y :: z :: xs) (p := 2) (by simp)
  simpa using this
@[simp] theorem gIx_l {xs : List PyData} {k : Int} : gIx (.list xs) (.int k) = (atI xs k).map RV.val := rfl
@[simp] theorem gIx_t {xs : List PyData} {k : Int} : gIx (.tuple xs) (.int k) = (atI xs k).map RV.val := rfl
@[simp] theorem gAdd_i {i j : Int} : gAdd (.int i) (.int j) = some (.val (.int (i + j))) := rfl
@[simp] theorem gAdd_l {xs ys : List PyData} : gAdd (.list xs) (.list ys) = if xs.length + ys.length ≤ sizeLine then some (.new (.ol false (xs ++ ys))) else none := rfl
@[simp] theorem gAdd_t {xs ys : List PyData} : gAdd (.tuple xs) (.tuple ys) = if xs.length + ys.length ≤ sizeLine then some (.val (.tuple (xs ++ ys))) else none := rfl
@[simp] theorem gSub_i {i j : Int} : gSub (.int i) (.int j) = some (.val (.int (i - j))) := rfl
@[simp] theorem gXor_i {i j : Int} : gXor (.int i) (.int j) = some (.val (.int (Builtin.bitXor i j))) := rfl
theorem gFdiv_i {i j : Int} (h : okDiv i j = true) : gFdiv (.int i) (.int j) = some (.val (.int (i / j))) := if_pos h
theorem gMod_i {i j : Int} (h : 0 < j) : gMod (.int i) (.int j) = some (.val (.int (i % j))) := if_pos (decide_eq_true h)
theorem gPow_i {i j : Int} (h : okPow i j = true) : gPow (.int i) (.int j) = some (.val (.int (i ^ j.toNat))) := if_pos h
theorem gShr_i {i j : Int} (h : 0 ≤ j) : gShr (.int i) (.int j) = some (.val (.int (i / 2 ^ j.toNat))) := if_pos (decide_eq_true h)
theorem gMul_i {i j : Int} (h : okMul i j = true) : gMul (.int i) (.int j) = some (.val (.int (i * j))) := if_pos h
@[simp] theorem gNeg_i {i : Int} : gNeg (.int i) = some (.val (.int (-i))) := rfl
@[simp] theorem gLt_i {i j : Int} : gLt (.int i) (.int j) = some (.val (.bool (decide (i < j)))) := rfl
@[simp] theorem gLe_i {i j : Int} : gLe (.int i) (.int j) = some (.val (.bool (decide (i ≤ j)))) := rfl
@[simp] theorem gGt_i {i j : Int} : gGt (.int i) (.int j) = some (.val (.bool (decide (j < i)))) := rfl
@[simp] theorem gGe_i {i j : Int} : gGe (.int i) (.int j) = some (.val (.bool (decide (j ≤ i)))) := rfl
@[simp] theorem gMin2_i {i j : Int} : gMin2 (.int i) (.int j) = some (.val (.int (if j < i then j else i))) := rfl
@[simp] theorem gMax2_i {i j : Int} : gMax2 (.int i) (.int j) = some (.val (.int (if j > i then j else i))) := rfl
@[simp] theorem gList_l {xs : List PyData} : gList (.list xs) = some (.new (.ol false xs)) := rfl
@[simp] theorem gList_t {xs : List PyData} : gList (.tuple xs) = some (.new (.ol false xs)) := rfl
@[simp] theorem gTuple_l {xs : List PyData} : gTuple (.list xs) = some (.val (.tuple xs)) := rfl
@[simp] theorem gTuple_t {xs : List PyData} : gTuple (.tuple xs) = some (.val (.tuple xs)) := rfl
@[simp] theorem gLen_l {xs : List PyData} : gLen (.list xs) = some (.val (.int xs.length)) := rfl
@[simp] theorem gLen_t {xs : List PyData} : gLen (.tuple xs) = some (.val (.int xs.length)) := rfl
@[simp] theorem gInt_i {i : Int} : gInt (.int i) = some (.val (.int i)) := rfl
@[simp] theorem gAbs_i {i : Int} : gAbs (.int i) = some (.val (.int (if i < 0 then -i else i))) := rfl
@[simp] theorem gSl_l {xs : List PyData} {lo hi : Option Int} : gSl lo hi (.list xs) = some (.new (.ol false (cutD xs lo hi))) := rfl
@[simp] theorem gSl_t {xs : List PyData} {lo hi : Option Int} : gSl lo hi (.tuple xs) = some (.val (.tuple (cutD xs lo hi))) := rfl
theorem cutD_map {α β : Type} (f : α → β) (xs : List α) (lo hi : Option Int) : cutD (xs.map f) lo hi = (cutD xs lo hi).map f := by
  unfold cutD
  rw [List.length_map, List.map_take, List.map_drop]
theorem cutD_to {α : Type} {xs : List α} {k : Nat} (h : k ≤ xs.length) : cutD xs none (some (k : Int)) = xs.take k := by
  unfold cutD
  rw [HT.sIx_nat, HT.sIx_none, Nat.min_eq_left h]
  simp
theorem cutD_from {α : Type} {xs : List α} {k : Nat} (h : k ≤ xs.length) : cutD xs (some (k : Int)) none = xs.drop k := by
  unfold cutD
  rw [HT.sIx_nat, HT.sIx_none, Nat.min_eq_left h]
  exact List.take_of_length_le (by simp)
theorem le_size {n : Nat} (h : n ≤ 1000000) : n ≤ sizeLine := by rw [sizeLine_eq]; omega
theorem lt_size {n : Nat} (h : n < 1000000) : n < sizeLine := by rw [sizeLine_eq]; omega
theorem sm_nat {n : Nat} (h : n ≤ 1000000) : sm (n : Int) = true := by
  unfold sm
  rw [Bool.and_eq_true, decide_eq_true_eq, decide_eq_true_eq]
  omega
theorem rngD_0 (n : Nat) : rngD 0 n = (List.range n).map fun (i : Nat) => PyData.int i := by
  unfold rngD
  apply List.map_congr_left
  intro i _
  rw [Int.zero_add]
section
variable {α : Type} {e : Ev} {f : FE} {T : Tg} {t : Ev → Out Bool} {s : FS} {vs : List Nat} {d : PyData}
/-! one turn of a loop, of a comprehension, of all and any -/
def turnK : Option Ev → FS → SO
  | some e1, s => s e1
  | none, _ => .bad
@[simp] theorem turnK_s : turnK (some e) s = s e := rfl
def turnS (T : Tg) (s : FS) (d : PyData) (e : Ev) : SO := turnK (setT T d e) s
@[simp] theorem turnS_e : turnS T s d e = turnK (setT T d e) s := rfl
def lcTC : Out RV → List Nat → Out (Option PyData)
  | .ok (.val y) e3, vs => .ok (some y) (wipeE e3 vs)
  | _, _ => .bad
def lcTB : Out Bool → List Nat → FE → Out (Option PyData)
  | .ok true e2, vs, f => lcTC (vv f e2) vs
  | .ok false e2, vs, _ => .ok none (wipeE e2 vs)
  | _, _, _ => .bad
def lcTA : Option Ev → List Nat → (Ev → Out Bool) → FE → Out (Option PyData)
  | some e1, vs, t, f => lcTB (t e1) vs f
  | none, _, _, _ => .bad
def lcTurn (T : Tg) (vs : List Nat) (t : Ev → Out Bool) (f : FE) (d : PyData) (e : Ev) : Out (Option PyData) := lcTA (setT T d e) vs t f
@[simp] theorem lcTC_e : lcTC (.ok (.val d) e) vs = .ok (some d) (wipeE e vs) := rfl
@[simp] theorem lcTB_t : lcTB (.ok true e) vs f = lcTC (vv f e) vs := rfl
@[simp] theorem lcTB_f : lcTB (.ok false e) vs f = .ok none (wipeE e vs) := rfl
@[simp] theorem lcTA_e : lcTA (some e) vs t f = lcTB (t e) vs f := rfl
@[simp] theorem lcTurn_e : lcTurn T vs t f d e = lcTA (setT T d e) vs t f := rfl
theorem lcL_none {ds : List PyData} {acc : List PyData} {e' : Ev} (h : lcTurn T vs t f d e = .ok none e') : lcL T vs t f (d :: ds) e acc = lcL T vs t f ds e' acc := by
  unfold lcTurn lcTA lcTB lcTC at h
  conv => lhs; unfold lcL
  cases h1 : setT T d e with
  | none => rw [h1] at h; cases h
  | some e1 =>
    simp only [h1] at h ⊢
    cases h2 : t e1 with
    | bad => rw [h2] at h; cases h
    | exc x e2 => rw [h2] at h; cases h
    | ok b e2 =>
      cases b with
      | false => rw [h2] at h; cases h; rfl
      | true =>
        simp only [h2] at h
        cases h3 : vv f e2 with
        | bad => rw [h3] at h; cases h
        | exc x e3 => rw [h3] at h; cases h
        | ok r e3 => rw [h3] at h; cases r <;> cases h
theorem lcL_some {ds : List PyData} {acc : List PyData} {e' : Ev} {y : PyData} (h : lcTurn T vs t f d e = .ok (some y) e') (hl : acc.length < sizeLine) : lcL T vs t f (d :: ds) e acc = lcL T vs t f ds e' (acc ++ [y]) := by
  unfold lcTurn lcTA lcTB lcTC at h
  conv => lhs; unfold lcL
  cases h1 : setT T d e with
  | none => rw [h1] at h; cases h
  | some e1 =>
    simp only [h1] at h ⊢
    cases h2 : t e1 with
    | bad => rw [h2] at h; cases h
    | exc x e2 => rw [h2] at h; cases h
    | ok b e2 =>
      cases b with
      | false => rw [h2] at h; cases h
      | true =>
        simp only [h2] at h ⊢
        cases h3 : vv f e2 with
        | bad => rw [h3] at h; cases h
        | exc x e3 => rw [h3] at h; cases h
        | ok r e3 =>
          rw [h3] at h
          cases r <;> cases h
          simp only
          rw [if_pos hl]
/-- .. over xs.map enc -/
theorem lcL_enc {enc : α → PyData} (q : α → Bool) (v : α → PyData) (e : Ev) : ∀ (xs : List α) (acc : List PyData), acc.length + xs.length ≤ sizeLine → (∀ x ∈ xs, lcTurn T vs t f (enc x) e = .ok (if q x = true then some (v x) else none) e) →
    lcL T vs t f (xs.map enc) e acc = .ok (acc ++ (xs.filter q).map v) e
  | [], acc, hl, h => by simp [lcL]
  | d :: ds, acc, hl, h => by
    have h1 := h d List.mem_cons_self
    rw [List.map_cons]
    simp only [List.length_cons] at hl
    cases hq : q d with
    | false =>
      rw [hq, if_neg Bool.false_ne_true] at h1
      rw [lcL_none h1, lcL_enc q v e ds acc (by omega) fun x hx => h x (List.mem_cons_of_mem _ hx), List.filter_cons_of_neg (by simp [hq])]
    | true =>
      rw [hq, if_pos rfl] at h1
      rw [lcL_some h1 (by omega), lcL_enc q v e ds (acc ++ [v d]) (by simp only [List.length_append, List.length_cons, List.length_nil]; omega) fun x hx => h x (List.mem_cons_of_mem _ hx), List.filter_cons_of_pos hq, List.map_cons, List.append_assoc]
      rfl
/-- .. without a test -/
theorem lcL_all {enc : α → PyData} (v : α → PyData) (e : Ev) (xs : List α) (hl : xs.length ≤ sizeLine) (h : ∀ x ∈ xs, lcTurn T vs tYesB f (enc x) e = .ok (some (v x)) e) :
    lcL T vs tYesB f (xs.map enc) e [] = .ok (xs.map v) e := by
  have := lcL_enc (T := T) (f := f) (t := tYesB) (vs := vs) (enc := enc) (fun _ => true) v e xs [] (by simpa using hl) fun x hx => by rw [if_pos rfl]; exact h x hx
  rw [this, List.filter_eq_self.mpr (fun _ _ => rfl)]
  rfl
/-- turns that change a state: mk s is the environment -/
theorem lcL_fold {σ : Type} {enc : α → PyData} (mk : σ → Ev) (I : σ → Prop) (V : PyData → Prop) : ∀ (xs : List α) (s : σ) (acc : List PyData), I s → acc.length + xs.length ≤ sizeLine → (∀ s x, x ∈ xs → I s → ∃ s' y, lcTurn T vs tYesB f (enc x) (mk s) = .ok (some y) (mk s') ∧ I s' ∧ V y) →
    ∃ ds s', lcL T vs tYesB f (xs.map enc) (mk s) acc = .ok (acc ++ ds) (mk s') ∧ I s' ∧ ds.length = xs.length ∧ ∀ d ∈ ds, V d
  | [], s, acc, hi, hl, h => ⟨[], s, by simp [lcL], hi, rfl, fun d hd => by cases hd⟩
  | x :: xs, s, acc, hi, hl, h => by
    obtain ⟨s1, y, h1, h2, h3⟩ := h s x List.mem_cons_self hi
    simp only [List.length_cons] at hl
    obtain ⟨ds, s', k1, k2, k3, k4⟩ := lcL_fold mk I V xs s1 (acc ++ [y]) h2 (by simp only [List.length_append, List.length_cons, List.length_nil]; omega) fun s y hy => h s y (List.mem_cons_of_mem _ hy)
    refine ⟨y :: ds, s', ?_, k2, congrArg Nat.succ k3, fun d hd => ?_⟩
    · rw [List.map_cons, lcL_some h1 (by omega), k1, List.append_assoc]
      rfl
    · rcases List.mem_cons.mp hd with rfl | hd
      · exact h3
      · exact k4 d hd
/-- a for loop that changes a state; o: what the loop's own names hold -/
theorem forL_fold {σ ω : Type} {enc : α → PyData} (mk : σ → ω → Ev) (step : σ → α → σ) (I : σ → Prop) : ∀ (xs : List α) (st : σ) (o : ω), I st → (∀ st o x, x ∈ xs → I st → ∃ o', turnS T s (enc x) (mk st o) = .nx (mk (step st x) o') ∧ I (step st x)) →
    ∃ o', forL T s (xs.map enc) (mk st o) = .nx (mk (xs.foldl step st) o') ∧ I (xs.foldl step st)
  | [], st, o, hi, h => ⟨o, rfl, hi⟩
  | x :: xs, st, o, hi, h => by
    obtain ⟨o1, h2, h3⟩ := h st o x List.mem_cons_self hi
    obtain ⟨o', k1, k2⟩ := forL_fold mk step I xs (step st x) o1 h3 fun st o y hy => h st o y (List.mem_cons_of_mem _ hy)
    refine ⟨o', ?_, k2⟩
    rw [List.map_cons]
    unfold turnS at h2
    unfold forL
    cases q : setT T (enc x) (mk st o) with
    | none => rw [q] at h2; cases h2
    | some e1 =>
      rw [q] at h2
      have h2' : s e1 = .nx (mk (step st x) o1) := h2
      simp only [h2']
      rw [k1]
      rfl
def qB : Out RV → Out Bool
  | .ok (.val (.bool b)) e => .ok b e
  | _ => .bad
def qA : Option Ev → FE → Out Bool
  | some e1, f => qB (f e1)
  | none, _ => .bad
def qTurn (T : Tg) (f : FE) (d : PyData) (e : Ev) : Out Bool := qA (setT T d e) f
@[simp] theorem qB_e {b : Bool} : qB (.ok (.val (.bool b)) e) = .ok b e := rfl
@[simp] theorem qA_e : qA (some e) f = qB (f e) := rfl
@[simp] theorem qTurn_e : qTurn T f d e = qA (setT T d e) f := rfl
theorem quant_step {q b : Bool} {ds : List PyData} {e' : Ev} (h : qTurn T f d e = .ok b e') : quantL q T f (d :: ds) e = if b = q then quantL q T f ds e' else some b := by
  unfold qTurn qA qB at h
  conv => lhs; unfold quantL
  cases h1 : setT T d e with
  | none => rw [h1] at h; cases h
  | some e1 =>
    simp only [h1] at h ⊢
    cases h2 : f e1 with
    | bad => rw [h2] at h; cases h
    | exc x e2 => rw [h2] at h; cases h
    | ok r e2 =>
      rw [h2] at h
      cases r with
      | own i => cases h
      | new w => cases h
      | val y => cases y <;> cases h; rfl
theorem quant_all {enc : α → PyData} (v : α → Bool) (C : Ev → Prop) : ∀ (xs : List α) (e : Ev), C e → (∀ x e, x ∈ xs → C e → ∃ e2, qTurn T f (enc x) e = .ok (v x) e2 ∧ C e2) → quantL true T f (xs.map enc) e = some (xs.all v)
  | [], e, _, _ => rfl
  | x :: xs, e, hc, h => by
    obtain ⟨e2, h1, h2⟩ := h x e List.mem_cons_self hc
    rw [List.map_cons, quant_step h1, List.all_cons]
    cases hv : v x with
    | true => rw [if_pos rfl, quant_all v C xs e2 h2 fun y e hy => h y e (List.mem_cons_of_mem _ hy), Bool.true_and]
    | false => rw [if_neg Bool.false_ne_true, Bool.false_and]
theorem quant_any {enc : α → PyData} (v : α → Bool) (C : Ev → Prop) : ∀ (xs : List α) (e : Ev), C e → (∀ x e, x ∈ xs → C e → ∃ e2, qTurn T f (enc x) e = .ok (v x) e2 ∧ C e2) → quantL false T f (xs.map enc) e = some (xs.any v)
  | [], e, _, _ => rfl
  | x :: xs, e, hc, h => by
    obtain ⟨e2, h1, h2⟩ := h x e List.mem_cons_self hc
    rw [List.map_cons, quant_step h1, List.any_cons]
    cases hv : v x with
    | false => rw [if_pos rfl, quant_any v C xs e2 h2 fun y e hy => h y e (List.mem_cons_of_mem _ hy), Bool.false_or]
    | true => rw [if_neg (fun z => by cases z), Bool.true_or]
end
end DL

/-! more turn lemmas -/
namespace DL
open PySem PyProof.Rows L2
section
variable {α : Type} {e e1 e2 e3 : Ev} {f : FE} {T : Tg} {t : Ev → Out Bool} {s : FS} {vs : List Nat} {d : PyData}
theorem forL_cons {x : α} {xs : List α} {enc : α → PyData} {e1 : Ev} (h : turnS T s (enc x) e = .nx e1) : forL T s ((x :: xs).map enc) e = forL T s (xs.map enc) e1 := by
  rw [List.map_cons]
  unfold turnS at h
  conv => lhs; unfold forL
  cases q : setT T (enc x) e with
  | none => rw [q] at h; cases h
  | some e2 =>
    rw [q] at h
    have h2 : s e2 = .nx e1 := h
    simp only [h2]
/-- a turn that ends the def -/
theorem forL_ret {x : α} {xs : List α} {enc : α → PyData} {e1 : Ev} {r : RV} (h : turnS T s (enc x) e = .rt r e1) : forL T s ((x :: xs).map enc) e = .rt r e1 := by
  rw [List.map_cons]
  unfold turnS at h
  conv => lhs; unfold forL
  cases q : setT T (enc x) e with
  | none => rw [q] at h; cases h
  | some e2 =>
    rw [q] at h
    have h2 : s e2 = .rt r e1 := h
    simp only [h2]
theorem forL_pre {σ ω : Type} {enc : α → PyData} (mk : σ → ω → Ev) (step : σ → α → σ) (xs : List α) (st0 : σ) (h : ∀ pre x post o, xs = pre ++ x :: post → ∃ o', turnS T s (enc x) (mk (pre.foldl step st0) o) = .nx (mk (step (pre.foldl step st0) x) o')) (o : ω) :
    ∃ o', forL T s (xs.map enc) (mk st0 o) = .nx (mk (xs.foldl step st0) o') := by
  have key : ∀ suf pre o, xs = pre ++ suf → ∃ o', forL T s (suf.map enc) (mk (pre.foldl step st0) o) = .nx (mk (xs.foldl step st0) o') := by
    intro suf
    induction suf with
    | nil =>
      intro pre o hx
      rw [List.append_nil] at hx
      rw [hx]
      exact ⟨o, rfl⟩
    | cons x suf ih =>
      intro pre o hx
      obtain ⟨o1, h1⟩ := h pre x suf o hx
      obtain ⟨o2, h2⟩ := ih (pre ++ [x]) o1 (by rw [hx, List.append_assoc]; rfl)
      rw [List.foldl_append] at h2
      exact ⟨o2, by rw [forL_cons h1]; exact h2⟩
  exact key xs [] o rfl
/-- while -/
theorem while_end {n : Nat} (h : t e = .ok false e1) : whileL t s (n + 1) e = .nx e1 := by
  unfold whileL
  rw [h]
theorem while_go {n : Nat} (h : t e = .ok true e1) (h2 : s e1 = .nx e2) : whileL t s (n + 1) e = whileL t s n e2 := by
  conv => lhs; unfold whileL
  rw [h]
  simp only [h2]
theorem snoc_ind {P : List α → Prop} (h0 : P []) (h1 : ∀ q x, P q → P (q ++ [x])) (q : List α) : P q := by
  have h : ∀ l : List α, P l.reverse := fun l => by
    induction l with
    | nil => exact h0
    | cons x l ih => rw [List.reverse_cons]; exact h1 _ _ ih
  have := h q.reverse
  rwa [List.reverse_reverse] at this
theorem setd_ok {fo fk fv : FE} {t : Nat} {p0 p : Bool} {kvs0 kvs : List (PyData × PyData)} {k v : PyData} (h0 : ow fo e = .ok (.own t) e1) (h1 : dAt e1 t = some (p0, kvs0)) (h2 : allS kvs0 = true) (h3 : vv fk e1 = .ok (.val k) e2) (h4 : simple k = true) (h5 : vv fv e2 = .ok (.val v) e3) (h6 : dAt e3 t = some (p, kvs)) (h7 : kvs.length < sizeLine) (h8 : allS kvs = true) :
    fSetd fo fk fv e = match dGet kvs k with
      | some d => .ok (.val d) e3
      | none => .ok (.val v) (e3.set t (some (.od p (kvs ++ [(k, v)])))) := by
  unfold fSetd
  rw [h0]
  simp only [ob_ok, ownIx', Option.bind_some, h1, Option.map_some, h2, if_true, h3, h5, valD, h4, h6, h7, h8, and_self] <;> (cases dGet kvs k <;> rfl)
theorem sortV_ok {fo : FE} {t : Nat} {ns : List Int} (h0 : ow fo e = .ok (.own t) e1) (h1 : dVals e1 t = some ns) : fSortV fo e = .ok (.new (.ol false ((sortI ns).map .int))) e1 := by
  unfold fSortV
  rw [h0]
  simp only [ob_ok, ownIx', Option.bind_some, h1]
theorem intsOf_n (l : List Int) : intsOf (l.map PyData.int) = some l := by
  induction l with
  | nil => rfl
  | cons a l ih => simp [intsOf, ih]
theorem sort_nats {l : List Nat} (h : l.Pairwise (· ≤ ·)) : sortI (l.map (fun n : Nat => (n : Int))) = l.map (fun n : Nat => (n : Int)) := by
  haveI : Inhabited Tbx := ⟨⟨[]⟩⟩
  refine ord_unique (sortI_perm _) (sortI_ord _) ?_
  rw [List.pairwise_map]
  exact h.imp fun h => by omega
theorem key_nat {a b : Nat} : DL.keyOf (.int (a : Nat)) = DL.keyOf (.int (b : Nat)) ↔ a = b := by
  constructor
  · intro h
    have h1 : (some (Sum.inl (a : Int)) : Option Key) = some (Sum.inl (b : Int)) := h
    injection h1 with h1
    injection h1 with h1
    omega
  · intro h; rw [h]
def fRepB : RV → List PyData → Ev → Out RV
  | .val (.int k), xs, e => if sm k = true ∧ xs.length * k.toNat ≤ sizeLine then .ok (.new (.ol false (List.replicate k.toNat xs).flatten)) e else .bad
  | _, _, _ => .bad
def fRepA (fb : FE) : RV → Ev → Out RV
  | .new (.ol false xs), e => ob (vv fb e) fun r e => fRepB r xs e
  | _, _ => .bad
theorem fRep_e {fa fb : FE} : fRep fa fb e = ob (fa e) (fRepA fb) := by
  unfold fRep ob fRepA
  cases fa e with
  | bad => rfl
  | exc x e => rfl
  | ok r e =>
    cases r with
    | val d => rfl
    | own i => rfl
    | new w =>
      cases w with
      | fr d => rfl
      | od p k => rfl
      | ol p xs =>
        cases p with
        | true => rfl
        | false =>
          simp only [ob]
          cases vv fb e with
          | bad => rfl
          | exc x e => rfl
          | ok r e =>
            cases r with
            | own i => rfl
            | new w => rfl
            | val d => cases d <;> rfl
theorem fRepA_e {fb : FE} {xs : List PyData} : fRepA fb (.new (.ol false xs)) e = ob (vv fb e) fun r e => fRepB r xs e := rfl
theorem fRepB_e {k : Int} {xs : List PyData} : fRepB (.val (.int k)) xs e = if sm k = true ∧ xs.length * k.toNat ≤ sizeLine then .ok (.new (.ol false (List.replicate k.toNat xs).flatten)) e else .bad := rfl
end
end DL

/-! equality and membership of plain data -/
namespace DL
open PySem PyProof.Rows L2
def shp (n : Nat) (d : PyData) : Prop := d.canLay0 = true ∧ d.depth ≤ n
theorem shp_ok {n : Nat} {d : PyData} (h : shp n d) (hn : n ≤ 64) : SeqAt.shaped d = true := by
  unfold SeqAt.shaped
  rw [h.1, Bool.true_and, decide_eq_true_eq]
  exact Nat.le_trans h.2 hn
theorem shp_i {n : Nat} {k : Int} : shp n (.int k) := ⟨rfl, by simp [PyData.depth]⟩
theorem shp_b {n : Nat} {k : Bool} : shp n (.bool k) := ⟨rfl, by simp [PyData.depth]⟩
theorem shp_n {n : Nat} : shp n .none := ⟨rfl, by simp [PyData.depth]⟩
theorem shp_all {n : Nat} : ∀ {ds : List PyData}, (∀ d ∈ ds, shp n d) → PyData.canLayAll0 ds = true ∧ PyData.depthAll ds ≤ n
  | [], _ => ⟨rfl, by simp [PyData.depthAll]⟩
  | d :: ds, h => by
    have h1 := h d List.mem_cons_self
    have h2 := shp_all fun x hx => h x (List.mem_cons_of_mem _ hx)
    refine ⟨by simp only [PyData.canLayAll0, h1.1, h2.1, Bool.and_self], ?_⟩
    have h3 := h1.2
    have h4 := h2.2
    simp only [PyData.depthAll]
    omega
theorem shp_t {n : Nat} {ds : List PyData} (h : ∀ d ∈ ds, shp n d) : shp (n + 1) (.tuple ds) := by
  have h2 := shp_all h
  refine ⟨by simp only [PyData.canLay0, h2.1], ?_⟩
  have h4 := h2.2
  simp only [PyData.depth]
  omega
theorem shp_l {n : Nat} {ds : List PyData} (h : ∀ d ∈ ds, shp n d) : shp (n + 1) (.list ds) := by
  have h2 := shp_all h
  refine ⟨by simp only [PyData.canLay0, h2.1], ?_⟩
  have h4 := h2.2
  simp only [PyData.depth]
  omega
theorem shp_map {α : Type} {n : Nat} {enc : α → PyData} {xs : List α} (h : ∀ x, shp n (enc x)) : ∀ d ∈ xs.map enc, shp n d := fun d hd => by
  obtain ⟨x, _, rfl⟩ := List.mem_map.mp hd
  exact h x
@[simp] theorem shaped_i {k : Int} : SeqAt.shaped (.int k) = true := shp_ok (n := 0) shp_i (by omega)
@[simp] theorem eqv_i {a b : Int} : PyData.eqv (.int a) (.int b) = decide (a = b) := by
  simp only [PyData.eqv]
  by_cases h : a = b
  · simp [h]
  · simp [h]
theorem eqvAll_map {α : Type} [DecidableEq α] {enc : α → PyData} (h : ∀ x y, PyData.eqv (enc x) (enc y) = decide (x = y)) : ∀ (xs ys : List α), PyData.eqvAll (xs.map enc) (ys.map enc) = decide (xs = ys)
  | [], [] => rfl
  | [], y :: ys => rfl
  | x :: xs, [] => rfl
  | x :: xs, y :: ys => by
    simp only [List.map_cons, PyData.eqvAll, h, eqvAll_map h xs ys]
    by_cases h1 : x = y <;> by_cases h2 : xs = ys <;> simp [h1, h2]
theorem eqv_t {xs ys : List PyData} : PyData.eqv (.tuple xs) (.tuple ys) = PyData.eqvAll xs ys := by simp only [PyData.eqv]
theorem eqv_l {xs ys : List PyData} : PyData.eqv (.list xs) (.list ys) = PyData.eqvAll xs ys := by simp only [PyData.eqv]
@[simp] theorem gEq_i {a b : Int} : gEq (.int a) (.int b) = some (.val (.bool (decide (a = b)))) := by
  unfold gEq
  rw [if_pos ⟨shaped_i, shaped_i⟩, eqv_i]
@[simp] theorem gNe_i {a b : Int} : gNe (.int a) (.int b) = some (.val (.bool (!decide (a = b)))) := by
  unfold gNe
  rw [if_pos ⟨shaped_i, shaped_i⟩, eqv_i]
section
variable {α : Type} [DecidableEq α] {enc : α → PyData} {n : Nat}
theorem gEq_t (hs : ∀ x, shp n (enc x)) (hn : n + 1 ≤ 64) (h : ∀ x y, PyData.eqv (enc x) (enc y) = decide (x = y)) {xs ys : List α} : gEq (.tuple (xs.map enc)) (.tuple (ys.map enc)) = some (.val (.bool (decide (xs = ys)))) := by
  unfold gEq
  rw [if_pos ⟨shp_ok (shp_t (shp_map hs)) hn, shp_ok (shp_t (shp_map hs)) hn⟩, eqv_t, eqvAll_map h]
theorem gNe_t (hs : ∀ x, shp n (enc x)) (hn : n + 1 ≤ 64) (h : ∀ x y, PyData.eqv (enc x) (enc y) = decide (x = y)) {xs ys : List α} : gNe (.tuple (xs.map enc)) (.tuple (ys.map enc)) = some (.val (.bool (!decide (xs = ys)))) := by
  unfold gNe
  rw [if_pos ⟨shp_ok (shp_t (shp_map hs)) hn, shp_ok (shp_t (shp_map hs)) hn⟩, eqv_t, eqvAll_map h]
theorem gEq_ls (hs : ∀ x, shp n (enc x)) (hn : n + 1 ≤ 64) (h : ∀ x y, PyData.eqv (enc x) (enc y) = decide (x = y)) {xs ys : List α} : gEq (.list (xs.map enc)) (.list (ys.map enc)) = some (.val (.bool (decide (xs = ys)))) := by
  unfold gEq
  rw [if_pos ⟨shp_ok (shp_l (shp_map hs)) hn, shp_ok (shp_l (shp_map hs)) hn⟩, eqv_l, eqvAll_map h]
theorem gNe_ls (hs : ∀ x, shp n (enc x)) (hn : n + 1 ≤ 64) (h : ∀ x y, PyData.eqv (enc x) (enc y) = decide (x = y)) {xs ys : List α} : gNe (.list (xs.map enc)) (.list (ys.map enc)) = some (.val (.bool (!decide (xs = ys)))) := by
  unfold gNe
  rw [if_pos ⟨shp_ok (shp_l (shp_map hs)) hn, shp_ok (shp_l (shp_map hs)) hn⟩, eqv_l, eqvAll_map h]
theorem isIn_l {x : PyData} {ds : List PyData} : isIn x (.list ds) = if SeqAt.shaped x = true ∧ SeqAt.shaped (.list ds) = true then some (ds.any fun z => PyData.eqv z x) else none := by unfold isIn; rfl
theorem isIn_t {x : PyData} {ds : List PyData} : isIn x (.tuple ds) = if SeqAt.shaped x = true ∧ SeqAt.shaped (.tuple ds) = true then some (ds.any fun z => PyData.eqv z x) else none := by unfold isIn; rfl
theorem gIn_ls (hs : ∀ x, shp n (enc x)) (hn : n + 1 ≤ 64) (h : ∀ x y, PyData.eqv (enc x) (enc y) = decide (x = y)) {x : α} {xs : List α} : gIn (enc x) (.list (xs.map enc)) = some (.val (.bool (xs.any fun y => decide (y = x)))) := by
  unfold gIn
  rw [isIn_l, if_pos ⟨shp_ok (hs x) (by omega), shp_ok (shp_l (shp_map hs)) hn⟩, List.any_map]
  simp only [Option.map_some, Function.comp_def, h]
theorem gNotIn_ls (hs : ∀ x, shp n (enc x)) (hn : n + 1 ≤ 64) (h : ∀ x y, PyData.eqv (enc x) (enc y) = decide (x = y)) {x : α} {xs : List α} : gNotIn (enc x) (.list (xs.map enc)) = some (.val (.bool (!xs.any fun y => decide (y = x)))) := by
  unfold gNotIn
  rw [isIn_l, if_pos ⟨shp_ok (hs x) (by omega), shp_ok (shp_l (shp_map hs)) hn⟩, List.any_map]
  simp only [Option.map_some, Function.comp_def, h]
theorem gNotIn_t (hs : ∀ x, shp n (enc x)) (hn : n + 1 ≤ 64) (h : ∀ x y, PyData.eqv (enc x) (enc y) = decide (x = y)) {x : α} {xs : List α} : gNotIn (enc x) (.tuple (xs.map enc)) = some (.val (.bool (!xs.any fun y => decide (y = x)))) := by
  unfold gNotIn
  rw [isIn_t, if_pos ⟨shp_ok (hs x) (by omega), shp_ok (shp_t (shp_map hs)) hn⟩, List.any_map]
  simp only [Option.map_some, Function.comp_def, h]
end
theorem gNotIn_i {x : Int} {xs : List Int} : gNotIn (.int x) (.list (xs.map .int)) = some (.val (.bool (!xs.any fun y => decide (y = x)))) := gNotIn_ls (enc := PyData.int) (n := 0) (fun _ => shp_i) (by omega) fun _ _ => eqv_i
theorem gEq_is {xs ys : List Int} : gEq (.tuple (xs.map .int)) (.tuple (ys.map .int)) = some (.val (.bool (decide (xs = ys)))) := gEq_t (enc := PyData.int) (n := 0) (fun _ => shp_i) (by omega) fun _ _ => eqv_i
theorem gNe_is {xs ys : List Int} : gNe (.tuple (xs.map .int)) (.tuple (ys.map .int)) = some (.val (.bool (!decide (xs = ys)))) := gNe_t (enc := PyData.int) (n := 0) (fun _ => shp_i) (by omega) fun _ _ => eqv_i
theorem eqv_nat {a b : Nat} : PyData.eqv (.int (a : Nat)) (.int (b : Nat)) = decide (a = b) := by
  rw [eqv_i]
  by_cases h : a = b
  · rw [h]; simp
  · rw [decide_eq_false h, decide_eq_false (by omega)]
/-! is, of truths -/
@[simp] theorem gIs_b {a b : Bool} : gIs (.bool a) (.bool b) = some (.val (.bool (decide (a = b)))) := rfl
@[simp] theorem gIsNot_b {a b : Bool} : gIsNot (.bool a) (.bool b) = some (.val (.bool (!decide (a = b)))) := rfl
theorem minL_ge {ns : List Int} {k : Int} (h : ns ≠ []) : (k ≤ minL ns) ↔ ∀ n ∈ ns, k ≤ n := by
  have key : ∀ (ns : List Int) (n : Int), (k ≤ ns.foldl min n) ↔ k ≤ n ∧ ∀ m ∈ ns, k ≤ m := by
    intro ns
    induction ns with
    | nil => intro n; simp
    | cons a ns ih =>
      intro n
      rw [List.foldl_cons, ih]
      simp only [List.mem_cons, forall_eq_or_imp]
      constructor
      · rintro ⟨h1, h2⟩
        exact ⟨by omega, by omega, h2⟩
      · rintro ⟨h1, h2, h3⟩
        exact ⟨by omega, h3⟩
  cases ns with
  | nil => exact absurd rfl h
  | cons n ns =>
    show (k ≤ ns.foldl min n) ↔ _
    rw [key]
    simp only [List.mem_cons, forall_eq_or_imp]
theorem gMinA_t {ns : List Int} (h : ns ≠ []) : gMinA (.tuple (ns.map .int)) = some (.val (.int (minL ns))) := by
  unfold gMinA
  have e : (lstOf (.tuple (ns.map PyData.int))).bind intsOf = some ns := by
    show intsOf (ns.map PyData.int) = some ns
    exact intsOf_n ns
  rw [e]
  simp only
  rw [if_pos (List.length_pos_iff.mpr h)]
end DL

/-! loops with a count -/
namespace DL
open PySem PyProof.Rows L2
section
variable {α σ : Type} {e e1 e2 e3 : Ev} {f : FE} {T : Tg} {t : Ev → Out Bool} {s : FS} {vs : List Nat} {d : PyData}
theorem forL_ex {enc : α → PyData} (mk : σ → Ev) (I : Nat → σ → Prop) : ∀ (xs : List α) (n : Nat) (st : σ), I n st → (∀ m st x, x ∈ xs → m < n + xs.length → I m st → ∃ st', turnS T s (enc x) (mk st) = .nx (mk st') ∧ I (m + 1) st') →
    ∃ st', forL T s (xs.map enc) (mk st) = .nx (mk st') ∧ I (n + xs.length) st'
  | [], n, st, hi, h => ⟨st, rfl, hi⟩
  | x :: xs, n, st, hi, h => by
    obtain ⟨s1, h1, h2⟩ := h n st x List.mem_cons_self (by simp only [List.length_cons]; omega) hi
    obtain ⟨s2, k1, k2⟩ := forL_ex mk I xs (n + 1) s1 h2 fun m st y hy hm hi => h m st y (List.mem_cons_of_mem _ hy) (by simp only [List.length_cons]; omega) hi
    refine ⟨s2, ?_, ?_⟩
    · rw [forL_cons h1]
      exact k1
    · have : n + (x :: xs).length = n + 1 + xs.length := by simp only [List.length_cons]; omega
      rw [this]
      exact k2
theorem lcL_ex {β : Type} {enc : α → PyData} {out : β → PyData} (mk : σ → Ev) (I : Nat → σ → Prop) (V : β → Prop) : ∀ (xs : List α) (n : Nat) (st : σ) (acc : List PyData), I n st → acc.length + xs.length ≤ sizeLine → (∀ m st x, x ∈ xs → m < n + xs.length → I m st → ∃ st' y, lcTurn T vs tYesB f (enc x) (mk st) = .ok (some (out y)) (mk st') ∧ I (m + 1) st' ∧ V y) →
    ∃ (ys : List β) (st' : σ), lcL T vs tYesB f (xs.map enc) (mk st) acc = .ok (acc ++ ys.map out) (mk st') ∧ I (n + xs.length) st' ∧ ys.length = xs.length ∧ ∀ y ∈ ys, V y
  | [], n, st, acc, hi, hl, h => ⟨[], st, by simp [lcL], hi, rfl, fun d hd => by cases hd⟩
  | x :: xs, n, st, acc, hi, hl, h => by
    obtain ⟨s1, y, h1, h2, h3⟩ := h n st x List.mem_cons_self (by simp only [List.length_cons]; omega) hi
    simp only [List.length_cons] at hl
    obtain ⟨ds, s', k1, k2, k3, k4⟩ := lcL_ex mk I V xs (n + 1) s1 (acc ++ [out y]) h2 (by simp only [List.length_append, List.length_cons, List.length_nil]; omega) fun m st z hz hm hi => h m st z (List.mem_cons_of_mem _ hz) (by simp only [List.length_cons]; omega) hi
    refine ⟨y :: ds, s', ?_, ?_, congrArg Nat.succ k3, fun d hd => ?_⟩
    · rw [List.map_cons, lcL_some h1 (by omega), k1, List.append_assoc]
      rfl
    · have : n + (x :: xs).length = n + 1 + xs.length := by simp only [List.length_cons]; omega
      rw [this]
      exact k2
    · rcases List.mem_cons.mp hd with rfl | hd
      · exact h3
      · exact k4 d hd
end
theorem log2_lt' {n k : Nat} (hk : 0 < k) (h : n < 2 ^ k) : n.log2 < k := by
  by_cases h0 : n = 0
  · subst h0
    simpa using hk
  · exact (Nat.log2_lt h0).mpr h
theorem okM {i j : Int} (h1 : i.natAbs < 2 ^ 100) (h2 : j.natAbs < 2 ^ 100) : okMul i j = true := by
  unfold okMul
  rw [decide_eq_true_eq]
  have a := log2_lt' (by omega) h1
  have b := log2_lt' (by omega) h2
  omega
theorem okD {i j : Int} (h1 : 0 < j) (h2 : j.natAbs < 2 ^ 100) : okDiv i j = true := by
  unfold okDiv
  rw [decide_eq_true_eq]
  have b := log2_lt' (by omega) h2
  exact ⟨h1, by omega⟩
theorem okP2 {j : Int} {i : Int} (h0 : 0 ≤ j) (h1 : j ≤ 1000) (h2 : i.natAbs < 2 ^ 64) : okPow i j = true := by
  unfold okPow
  rw [decide_eq_true_eq]
  exact ⟨h0, by omega, h2⟩
theorem xor_abs {x y : Int} (hx : 0 ≤ x) (hy : 0 ≤ y) : (Builtin.bitXor x y).natAbs ≤ (x + y).natAbs := by
  rw [bitXor_and]
  have h1 := bitAnd_range x hy
  have h2 := bitAnd_range y hx
  rw [bitAnd_comm] at h2
  omega
end DL

namespace Zk48
open PySem PySem.Spec PyProof.Rows L2 DL
def top (i : Nat) : Stmt := PySem.Challenge.pw_matchedandcleared_k48_whole_helps.main.body.getD i (.Pass ⟨0, 0, 0, 0⟩)
abbrev FnD (K : PySem.W.Frag) (x : Str) (i : Nat) (fd : FuncData) : Prop := FunD K x x (defArgs (top i)) (defBody (top i)) (defScope (top i)) [] [] (He.fAd K (x, none)) fd
structure Fx (K : PySem.W.Frag) (mg : Str → Option Value) : Prop where
  b_abs : mg "abs" = none
  b_all : mg "all" = none
  b_bool : mg "bool" = none
  b_enumerate : mg "enumerate" = none
  b_int : mg "int" = none
  b_isinstance : mg "isinstance" = none
  b_len : mg "len" = none
  b_list : mg "list" = none
  b_max : mg "max" = none
  b_min : mg "min" = none
  b_range : mg "range" = none
  b_sorted : mg "sorted" = none
  b_tuple : mg "tuple" = none
  b_zip : mg "zip" = none
  x_Refused : PySem.W.excIn K (He.ga K "Refused") He.veBase "ValueError.__new__" = true ∧ PySem.W.keepIn K (.ref (He.ga K "Refused")) = true ∧ PySem.W.subIn K (.ref (He.ga K "Refused")) (.type "BaseException") = some true ∧ PySem.W.typeIn K (.ref (He.ga K "Refused")) = some (.type "type")
  y_Refused : mg "Refused" = some (.ref (He.ga K "Refused"))
  g__law_paid : mg "_law_paid" = some (.ref (He.fAd K ("_law_paid", none)))
  g__law_all : mg "_law_all" = some (.ref (He.fAd K ("_law_all", none)))
  g__law_mixed : mg "_law_mixed" = some (.ref (He.fAd K ("_law_mixed", none)))
  g__law_draw : mg "_law_draw" = some (.ref (He.fAd K ("_law_draw", none)))
  g__law_open : mg "_law_open" = some (.ref (He.fAd K ("_law_open", none)))
  g__law_can : mg "_law_can" = some (.ref (He.fAd K ("_law_can", none)))
  g__law_rest : mg "_law_rest" = some (.ref (He.fAd K ("_law_rest", none)))
  g__law_same : mg "_law_same" = some (.ref (He.fAd K ("_law_same", none)))
  g__law_state : mg "_law_state" = some (.ref (He.fAd K ("_law_state", none)))
  g__law_with : mg "_law_with" = some (.ref (He.fAd K ("_law_with", none)))
  g_firsts : mg "firsts" = some (.ref (He.fAd K ("firsts", none)))
  g_can_settle : mg "can_settle" = some (.ref (He.fAd K ("can_settle", none)))
  g_paid : mg "paid" = some (.ref (He.fAd K ("paid", none)))
  g_settled : mg "settled" = some (.ref (He.fAd K ("settled", none)))
  g_at_rest : mg "at_rest" = some (.ref (He.fAd K ("at_rest", none)))
  g_helped : mg "helped" = some (.ref (He.fAd K ("helped", none)))
  g_comes_through : mg "comes_through" = some (.ref (He.fAd K ("comes_through", none)))
  g_of_banks : mg "of_banks" = some (.ref (He.fAd K ("of_banks", none)))
  g_all_of : mg "all_of" = some (.ref (He.fAd K ("all_of", none)))
  g_balances_behind : mg "balances_behind" = some (.ref (He.fAd K ("balances_behind", none)))
  g_is_number : mg "is_number" = some (.ref (He.fAd K ("is_number", none)))
  g_is_batch : mg "is_batch" = some (.ref (He.fAd K ("is_batch", none)))
  g_is_enough : mg "is_enough" = some (.ref (He.fAd K ("is_enough", none)))
  g_least_help : mg "least_help" = some (.ref (He.fAd K ("least_help", none)))
  g_row_help : mg "row_help" = some (.ref (He.fAd K ("row_help", none)))
  g_law : mg "law" = some (.ref (He.fAd K ("law", none)))
def N__law_paid : List Str := ["balances", "payment", "told"]
def P__law_paid : List Str := ["balances", "payment"]
theorem sc__law_paid : FnScope N__law_paid P__law_paid (defScope (top 29)) := ⟨rfl, rfl, rfl, by decide +kernel, rfl, by decide +kernel, by decide +kernel⟩
def fb__law_paid : FS := (sSeq (sSet 2 (f1 gList (fVar 0)))
  (sSeq (sAugIx (fun i j => i - j) (fVar 2) (f2 gIx (fVar 1) (fC (.int 0))) (f2 gIx (fVar 1) (fC (.int 2))))
  (sSeq (sAugIx (fun i j => i + j) (fVar 2) (f2 gIx (fVar 1) (fC (.int 1))) (f2 gIx (fVar 1) (fC (.int 2))))
  (sRet (f1 gTuple (fVar 2))))))
def m__law_paid : List Sl → FO := defM N__law_paid.length fb__law_paid
def N__law_all : List Str := ["state", "balances", "payment"]
def P__law_all : List Str := ["state"]
theorem sc__law_all : FnScope N__law_all P__law_all (defScope (top 33)) := ⟨rfl, rfl, rfl, by decide +kernel, rfl, by decide +kernel, by decide +kernel⟩
def fb__law_all : FS := (sSeq (sSet 1 (f2 gIx (fVar 0) (fC (.int 0))))
  (sSeq (sFor (.nm 2) (iSeq (f2 gIx (fVar 0) (fC (.int 1)))) (sSet 1 (fCall m__law_paid (fCons (vv (fVar 1)) (fCons (vv (fVar 2)) fNil)))))
  (sRet (fVar 1))))
def m__law_all : List Sl → FO := defM N__law_all.length fb__law_all
def N__law_mixed : List Str := ["cell", "turn", "number"]
def P__law_mixed : List Str := ["cell", "turn"]
theorem sc__law_mixed : FnScope N__law_mixed P__law_mixed (defScope (top 24)) := ⟨rfl, rfl, rfl, by decide +kernel, rfl, by decide +kernel, by decide +kernel⟩
def fb__law_mixed : FS := (sSeq (sSet 2 (f2 gMod (f2 gAdd (f2 gAdd (f2 gMul (f2 gMod (fVar 0) (f2 gSub (f2 gPow (fC (.int 2)) (fC (.int 61))) (fC (.int 1)))) (fC (.int 6364136223846793005))) (f2 gMul (fVar 1) (fC (.int 1442695040888963407)))) (fC (.int 97))) (f2 gPow (fC (.int 2)) (fC (.int 61)))))
  (sSeq (sSet 2 (f2 gMod (f2 gMul (f2 gXor (fVar 2) (f2 gShr (fVar 2) (fC (.int 29)))) (fC (.int 3935559000370003845))) (f2 gPow (fC (.int 2)) (fC (.int 61)))))
  (sRet (f2 gMod (f2 gMul (f2 gXor (fVar 2) (f2 gShr (fVar 2) (fC (.int 31)))) (fC (.int 2862933555777941757))) (f2 gPow (fC (.int 2)) (fC (.int 61)))))))
def m__law_mixed : List Sl → FO := defM N__law_mixed.length fb__law_mixed
def N__law_draw : List Str := ["draws", "size", "turn", "left", "cells", "cell"]
def P__law_draw : List Str := ["draws", "size"]
theorem sc__law_draw : FnScope N__law_draw P__law_draw (defScope (top 25)) := ⟨rfl, rfl, rfl, by decide +kernel, rfl, by decide +kernel, by decide +kernel⟩
def fb__law_draw : FS := (sSeq (sUnp (.tp [(.nm 2), (.nm 3), (.nm 4)]) (fVar 0))
  (sSeq (sIf (asB (f2 gLt (fVar 3) (fVar 1))) (sSeq (sSet 5 (f2 gIx (fVar 4) (f2 gMod (fVar 2) (f1 gLen (fVar 4)))))
  (sSeq (sSet 3 (fIf (tAndB (asB (f2 gLt (fVar 2) (f1 gLen (fVar 4)))) (asB (f2 gGe (fVar 5) (f2 gPow (fC (.int 10)) (fC (.int 18)))))) (fVar 5) (fCall m__law_mixed (fCons (vv (fVar 5)) (fCons (vv (fVar 2)) fNil)))))
  (sSet 2 (f2 gAdd (fVar 2) (fC (.int 1)))))) sNx)
  (sSeq (sSetIx (fVar 0) (fC (.int 0)) (fVar 2))
  (sSeq (sSetIx (fVar 0) (fC (.int 1)) (f2 gFdiv (fVar 3) (fVar 1)))
  (sRet (f2 gMod (fVar 3) (fVar 1)))))))
def m__law_draw : List Sl → FO := defM N__law_draw.length fb__law_draw
def N__law_open : List Str := ["script", "cells", "cell"]
def P__law_open : List Str := ["script"]
theorem sc__law_open : FnScope N__law_open P__law_open (defScope (top 23)) := ⟨rfl, rfl, rfl, by decide +kernel, rfl, by decide +kernel, by decide +kernel⟩
def fb__law_open : FS := (sSeq (sSetLc 1 (fLc (.nm 2) [2] (iSeq (fSl (fVar 0) fNo (fSome (fC (.int 63))))) tYesB (f1 gAbs (f1 gInt (fVar 2)))))
  (sRet (fLst (fCons (vv (fC (.int 0))) (fCons (vv (fC (.int 0))) (fCons (vv (f2 gAdd (fVar 1) (fLst (fCons (vv (fC (.int 0))) fNil)))) fNil))))))
def m__law_open : List Sl → FO := defM N__law_open.length fb__law_open
def N__law_can : List Str := ["state", "balances", "queue", "k", "one"]
def P__law_can : List Str := ["state"]
theorem sc__law_can : FnScope N__law_can P__law_can (defScope (top 30)) := ⟨rfl, rfl, rfl, by decide +kernel, rfl, by decide +kernel, by decide +kernel⟩
def fb__law_can : FS := (sSeq (sUnp (.tp [(.nm 1), (.nm 2)]) (fVar 0))
  (sRet (fLc (.nm 3) [3] (iRng1' (f1 gLen (fVar 2))) (tAndB (asB (f2 gNotIn (f2 gIx (f2 gIx (fVar 2) (fVar 3)) (fC (.int 0))) (fLc (.nm 4) [4] (iSeq (fSl (fVar 2) fNo (fSome (fVar 3)))) tYesB (f2 gIx (fVar 4) (fC (.int 0)))))) (asB (f2 gGe (f2 gIx (fVar 1) (f2 gIx (f2 gIx (fVar 2) (fVar 3)) (fC (.int 0)))) (f2 gIx (f2 gIx (fVar 2) (fVar 3)) (fC (.int 2)))))) (fVar 3))))
def m__law_can : List Sl → FO := defM N__law_can.length fb__law_can
def N__law_rest : List Str := ["state", "back", "found", "turn", "k"]
def P__law_rest : List Str := ["state", "back"]
theorem sc__law_rest : FnScope N__law_rest P__law_rest (defScope (top 31)) := ⟨rfl, rfl, rfl, by decide +kernel, rfl, by decide +kernel, by decide +kernel⟩
def fb__law_rest : FS := (sSeq (sSet 2 (fCall m__law_can (fCons (vv (fVar 0)) fNil)))
  (sSeq (sFor (.nm 3) (iRng1' (fC (.int 40))) (sIf (asB (f2 gNe (fVar 2) (fLst fNil))) (sSeq (sSet 4 (fIf (tT1 (fVar 1)) (f2 gIx (fVar 2) (f1 gNeg (fC (.int 1)))) (f2 gIx (fVar 2) (fC (.int 0)))))
  (sSeq (sSet 0 (fTup (fCons (vv (fCall m__law_paid (fCons (vv (f2 gIx (fVar 0) (fC (.int 0)))) (fCons (vv (f2 gIx (f2 gIx (fVar 0) (fC (.int 1))) (fVar 4))) fNil)))) (fCons (vv (f2 gAdd (fSl (f2 gIx (fVar 0) (fC (.int 1))) fNo (fSome (fVar 4))) (fSl (f2 gIx (fVar 0) (fC (.int 1))) (fSome (f2 gAdd (fVar 4) (fC (.int 1)))) fNo))) fNil))))
  (sSet 2 (fCall m__law_can (fCons (vv (fVar 0)) fNil))))) sNx))
  (sRet (fVar 0))))
def m__law_rest : List Sl → FO := defM N__law_rest.length fb__law_rest
def N__law_same : List Str := ["told", "due"]
def P__law_same : List Str := ["told", "due"]
theorem sc__law_same : FnScope N__law_same P__law_same (defScope (top 27)) := ⟨rfl, rfl, rfl, by decide +kernel, rfl, by decide +kernel, by decide +kernel⟩
def fb__law_same : FS := (sRet (fIf (tT1 (fVar 1)) (f2 gIs (fVar 0) (fC (.bool true))) (f2 gIs (fVar 0) (fC (.bool false)))))
def m__law_same : List Sl → FO := defM N__law_same.length fb__law_same
def N__law_state : List Str := ["draws", "most", "many", "top", "balances", "bank", "queue", "turn", "one"]
def P__law_state : List Str := ["draws", "most"]
theorem sc__law_state : FnScope N__law_state P__law_state (defScope (top 28)) := ⟨rfl, rfl, rfl, by decide +kernel, rfl, by decide +kernel, by decide +kernel⟩
def fb__law_state : FS := (sSeq (sSet 2 (f2 gAdd (fC (.int 2)) (fCall m__law_draw (fCons (ow (fVar 0)) (fCons (vv (fC (.int 5))) fNil)))))
  (sSeq (sSet 3 (f2 gIx (fLst (fCons (vv (fC (.int 3))) (fCons (vv (fC (.int 10))) (fCons (vv (fC (.int 60))) fNil)))) (fCall m__law_draw (fCons (ow (fVar 0)) (fCons (vv (fC (.int 3))) fNil)))))
  (sSeq (sSet 4 (f1 gTuple (fLc (.nm 5) [5] (iRng1' (fVar 2)) tYesB (fIf (asB (f2 gEq (fCall m__law_draw (fCons (ow (fVar 0)) (fCons (vv (fC (.int 2))) fNil))) (fC (.int 0)))) (fCall m__law_draw (fCons (ow (fVar 0)) (fCons (vv (fVar 3)) fNil))) (fC (.int 0))))))
  (sSeq (sSet 6 (fLst fNil))
  (sSeq (sFor (.nm 7) (iRng1' (fCall m__law_draw (fCons (ow (fVar 0)) (fCons (vv (f2 gAdd (fVar 1) (fC (.int 1)))) fNil)))) (sSeq (sSet 8 (fCall m__law_draw (fCons (ow (fVar 0)) (fCons (vv (fVar 2)) fNil))))
  (sDrop (fAppend' (fVar 6) (fTup (fCons (vv (fVar 8)) (fCons (vv (f2 gMod (f1 gInt (f2 gAdd (f2 gAdd (fVar 8) (fC (.int 1))) (fCall m__law_draw (fCons (ow (fVar 0)) (fCons (vv (f2 gSub (fVar 2) (fC (.int 1)))) fNil))))) (fVar 2))) (fCons (vv (f2 gAdd (fC (.int 1)) (fCall m__law_draw (fCons (ow (fVar 0)) (fCons (vv (fVar 3)) fNil))))) fNil))))))))
  (sRet (fTup (fCons (vv (fVar 4)) (fCons (vv (f1 gTuple (fVar 6))) fNil)))))))))
def m__law_state : List Sl → FO := defM N__law_state.length fb__law_state
def N__law_with : List Str := ["state", "more", "k"]
def P__law_with : List Str := ["state", "more"]
theorem sc__law_with : FnScope N__law_with P__law_with (defScope (top 32)) := ⟨rfl, rfl, rfl, by decide +kernel, rfl, by decide +kernel, by decide +kernel⟩
def fb__law_with : FS := (sRet (fTup (fCons (vv (f1 gTuple (fLc (.nm 2) [2] (iRng1' (f1 gLen (fVar 1))) tYesB (f2 gAdd (f2 gIx (f2 gIx (fVar 0) (fC (.int 0))) (fVar 2)) (f2 gIx (fVar 1) (fVar 2)))))) (fCons (vv (f2 gIx (fVar 0) (fC (.int 1)))) fNil))))
def m__law_with : List Sl → FO := defM N__law_with.length fb__law_with
def N_firsts : List Str := ["queue", "seen", "number", "payment"]
def P_firsts : List Str := ["queue"]
theorem sc_firsts : FnScope N_firsts P_firsts (defScope (top 6)) := ⟨rfl, rfl, rfl, by decide +kernel, rfl, by decide +kernel, by decide +kernel⟩
def fb_firsts : FS := (sSeq (sSet 1 fDict0)
  (sSeq (sFor (.tp [(.nm 2), (.nm 3)]) (iEnum (fVar 0)) (sDrop (fSetd (fVar 1) (f2 gIx (fVar 3) (fC (.int 0))) (fVar 2))))
  (sRet (fSortV (fVar 1)))))
def m_firsts : List Sl → FO := defM N_firsts.length fb_firsts
def N_can_settle : List Str := ["state", "balances", "queue", "number"]
def P_can_settle : List Str := ["state"]
theorem sc_can_settle : FnScope N_can_settle P_can_settle (defScope (top 7)) := ⟨rfl, rfl, rfl, by decide +kernel, rfl, by decide +kernel, by decide +kernel⟩
def fb_can_settle : FS := (sSeq (sUnp (.tp [(.nm 1), (.nm 2)]) (fVar 0))
  (sRet (f1 gTuple (fLc (.nm 3) [3] (iSeq (fCall m_firsts (fCons (vv (fVar 2)) fNil))) (asB (f2 gGe (f2 gIx (fVar 1) (f2 gIx (f2 gIx (fVar 2) (fVar 3)) (fC (.int 0)))) (f2 gIx (f2 gIx (fVar 2) (fVar 3)) (fC (.int 2))))) (fVar 3)))))
def m_can_settle : List Sl → FO := defM N_can_settle.length fb_can_settle
def N_paid : List Str := ["balances", "payment", "payer", "getter", "amount", "told"]
def P_paid : List Str := ["balances", "payment"]
theorem sc_paid : FnScope N_paid P_paid (defScope (top 8)) := ⟨rfl, rfl, rfl, by decide +kernel, rfl, by decide +kernel, by decide +kernel⟩
def fb_paid : FS := (sSeq (sUnp (.tp [(.nm 2), (.nm 3), (.nm 4)]) (fVar 1))
  (sSeq (sSet 5 (f1 gList (fVar 0)))
  (sSeq (sSetIx (fVar 5) (fVar 2) (f2 gSub (f2 gIx (fVar 5) (fVar 2)) (fVar 4)))
  (sSeq (sSetIx (fVar 5) (fVar 3) (f2 gAdd (f2 gIx (fVar 5) (fVar 3)) (fVar 4)))
  (sRet (f1 gTuple (fVar 5)))))))
def m_paid : List Sl → FO := defM N_paid.length fb_paid
def N_settled : List Str := ["state", "number", "balances", "queue"]
def P_settled : List Str := ["state", "number"]
theorem sc_settled : FnScope N_settled P_settled (defScope (top 9)) := ⟨rfl, rfl, rfl, by decide +kernel, rfl, by decide +kernel, by decide +kernel⟩
def fb_settled : FS := (sSeq (sIf (asB (f2 gNotIn (fVar 1) (fCall m_can_settle (fCons (vv (fVar 0)) fNil)))) (sRaise "Refused") sNx)
  (sSeq (sUnp (.tp [(.nm 2), (.nm 3)]) (fVar 0))
  (sRet (fTup (fCons (vv (fCall m_paid (fCons (vv (fVar 2)) (fCons (vv (f2 gIx (fVar 3) (fVar 1))) fNil)))) (fCons (vv (f2 gAdd (fSl (fVar 3) fNo (fSome (fVar 1))) (fSl (fVar 3) (fSome (f2 gAdd (fVar 1) (fC (.int 1)))) fNo))) fNil))))))
def m_settled : List Sl → FO := defM N_settled.length fb_settled
def N_at_rest : List Str := ["state", "found"]
def P_at_rest : List Str := ["state"]
theorem sc_at_rest : FnScope N_at_rest P_at_rest (defScope (top 10)) := ⟨rfl, rfl, rfl, by decide +kernel, rfl, by decide +kernel, by decide +kernel⟩
def fb_at_rest : FS := (sSeq (sSet 1 (fCall m_can_settle (fCons (vv (fVar 0)) fNil)))
  (sSeq (whileL (asB (f2 gNe (fVar 1) (fTup fNil))) (sSeq (sSet 0 (fCall m_settled (fCons (vv (fVar 0)) (fCons (vv (f2 gIx (fVar 1) (fC (.int 0)))) fNil))))
  (sSet 1 (fCall m_can_settle (fCons (vv (fVar 0)) fNil)))) 100000)
  (sRet (fVar 0))))
def m_at_rest : List Sl → FO := defM N_at_rest.length fb_at_rest
def N_helped : List Str := ["state", "help_given", "one", "more"]
def P_helped : List Str := ["state", "help_given"]
theorem sc_helped : FnScope N_helped P_helped (defScope (top 19)) := ⟨rfl, rfl, rfl, by decide +kernel, rfl, by decide +kernel, by decide +kernel⟩
def fb_helped : FS := (sRet (fTup (fCons (vv (f1 gTuple (fLc (.tp [(.nm 2), (.nm 3)]) [2, 3] (iZip (f2 gIx (fVar 0) (fC (.int 0))) (fVar 1)) tYesB (f2 gAdd (fVar 2) (fVar 3))))) (fCons (vv (f2 gIx (fVar 0) (fC (.int 1)))) fNil))))
def m_helped : List Sl → FO := defM N_helped.length fb_helped
def N_comes_through : List Str := ["state", "help_given"]
def P_comes_through : List Str := ["state", "help_given"]
theorem sc_comes_through : FnScope N_comes_through P_comes_through (defScope (top 21)) := ⟨rfl, rfl, rfl, by decide +kernel, rfl, by decide +kernel, by decide +kernel⟩
def fb_comes_through : FS := (sRet (f2 gEq (f2 gIx (fCall m_at_rest (fCons (vv (fCall m_helped (fCons (vv (fVar 0)) (fCons (vv (fVar 1)) fNil)))) fNil)) (fC (.int 1))) (fTup fNil)))
def m_comes_through : List Sl → FO := defM N_comes_through.length fb_comes_through
def N_of_banks : List Str := ["state", "balances", "queue", "payment", "bank"]
def P_of_banks : List Str := ["state"]
theorem sc_of_banks : FnScope N_of_banks P_of_banks (defScope (top 12)) := ⟨rfl, rfl, rfl, by decide +kernel, rfl, by decide +kernel, by decide +kernel⟩
def fb_of_banks : FS := (sSeq (sUnp (.tp [(.nm 1), (.nm 2)]) (fVar 0))
  (sRet (fLc (.nm 4) [4] (iRng1' (f1 gLen (fVar 1))) tYesB (fLc (.nm 3) [3] (iSeq (fVar 2)) (asB (f2 gEq (f2 gIx (fVar 3) (fC (.int 0))) (fVar 4))) (fVar 3)))))
def m_of_banks : List Sl → FO := defM N_of_banks.length fb_of_banks
def N_all_of : List Str := ["state", "row"]
def P_all_of : List Str := ["state"]
theorem sc_all_of : FnScope N_all_of P_all_of (defScope (top 13)) := ⟨rfl, rfl, rfl, by decide +kernel, rfl, by decide +kernel, by decide +kernel⟩
def fb_all_of : FS := (sRet (f1 gTuple (fLc (.nm 1) [1] (iSeq (fCall m_of_banks (fCons (vv (fVar 0)) fNil))) tYesB (f1 gLen (fVar 1)))))
def m_all_of : List Sl → FO := defM N_all_of.length fb_all_of
def N_balances_behind : List Str := ["state", "batch", "told", "bank", "row", "payment"]
def P_balances_behind : List Str := ["state", "batch"]
theorem sc_balances_behind : FnScope N_balances_behind P_balances_behind (defScope (top 14)) := ⟨rfl, rfl, rfl, by decide +kernel, rfl, by decide +kernel, by decide +kernel⟩
def fb_balances_behind : FS := (sSeq (sSet 2 (f2 gIx (fVar 0) (fC (.int 0))))
  (sSeq (sFor (.tp [(.nm 3), (.nm 4)]) (iEnum (fCall m_of_banks (fCons (vv (fVar 0)) fNil))) (sFor (.nm 5) (iSeq (fSl (fVar 4) fNo (fSome (f2 gIx (fVar 1) (fVar 3))))) (sSet 2 (fCall m_paid (fCons (vv (fVar 2)) (fCons (vv (fVar 5)) fNil))))))
  (sRet (fVar 2))))
def m_balances_behind : List Sl → FO := defM N_balances_behind.length fb_balances_behind
def N_is_number : List Str := ["value", "least", "most"]
def P_is_number : List Str := ["value", "least", "most"]
theorem sc_is_number : FnScope N_is_number P_is_number (defScope (top 1)) := ⟨rfl, rfl, rfl, by decide +kernel, rfl, by decide +kernel, by decide +kernel⟩
def fb_is_number : FS := (sRet (fAnd (f1 (gIsi "int") (fVar 0)) (fAnd (fNot (f1 (gIsi "bool") (fVar 0))) (f3 gLe gLe (fVar 1) (fVar 0) (fVar 2)))))
def m_is_number : List Sl → FO := defM N_is_number.length fb_is_number
def N_is_batch : List Str := ["state", "value", "most"]
def P_is_batch : List Str := ["state", "value"]
theorem sc_is_batch : FnScope N_is_batch P_is_batch (defScope (top 15)) := ⟨rfl, rfl, rfl, by decide +kernel, rfl, by decide +kernel, by decide +kernel⟩
def Ng_is_batch_1 : List Str := ["one", "top"]
theorem ndNg_is_batch_1 : Ng_is_batch_1.Nodup := by decide +kernel
def fb_is_batch : FS := (sSeq (sSet 2 (fCall m_all_of (fCons (vv (fVar 0)) fNil)))
  (sSeq (sIf (tOrB (tNotB (tT1 (f1 (gIsi "tuple") (fVar 1)))) (asB (f2 gNe (f1 gLen (fVar 1)) (f1 gLen (fVar 2))))) (sRet (fC (.bool false))) sNx)
  (sSeq (sIf (tNotB (tT1 (fGen true (.tp [(.nm 0), (.nm 1)]) [none, none] (iZip (fVar 1) (fVar 2)) (fCall m_is_number (fCons (vv (fVar 0)) (fCons (vv (fC (.int 0))) (fCons (vv (fVar 1)) fNil))))))) (sRet (fC (.bool false))) sNx)
  (sRet (f2 gGe (f1 gMinA (fCall m_balances_behind (fCons (vv (fVar 0)) (fCons (vv (fVar 1)) fNil)))) (fC (.int 0)))))))
def m_is_batch : List Sl → FO := defM N_is_batch.length fb_is_batch
def N_is_enough : List Str := ["state", "help_given"]
def P_is_enough : List Str := ["state", "help_given"]
theorem sc_is_enough : FnScope N_is_enough P_is_enough (defScope (top 20)) := ⟨rfl, rfl, rfl, by decide +kernel, rfl, by decide +kernel, by decide +kernel⟩
def fb_is_enough : FS := (sRet (fCall m_is_batch (fCons (vv (fCall m_helped (fCons (vv (fVar 0)) (fCons (vv (fVar 1)) fNil)))) (fCons (vv (fCall m_all_of (fCons (vv (fVar 0)) fNil))) fNil))))
def m_is_enough : List Sl → FO := defM N_is_enough.length fb_is_enough
def N_least_help : List Str := ["state", "one"]
def P_least_help : List Str := ["state"]
theorem sc_least_help : FnScope N_least_help P_least_help (defScope (top 17)) := ⟨rfl, rfl, rfl, by decide +kernel, rfl, by decide +kernel, by decide +kernel⟩
def fb_least_help : FS := (sRet (f1 gTuple (fLc (.nm 1) [1] (iSeq (fCall m_balances_behind (fCons (vv (fVar 0)) (fCons (vv (fCall m_all_of (fCons (vv (fVar 0)) fNil))) fNil)))) tYesB (f2 gMax2 (fC (.int 0)) (f1 gNeg (fVar 1))))))
def m_least_help : List Sl → FO := defM N_least_help.length fb_least_help
def N_row_help : List Str := ["state", "told", "one", "balances", "payment", "balance"]
def P_row_help : List Str := ["state"]
theorem sc_row_help : FnScope N_row_help P_row_help (defScope (top 18)) := ⟨rfl, rfl, rfl, by decide +kernel, rfl, by decide +kernel, by decide +kernel⟩
def fb_row_help : FS := (sSeq (sSetLc 1 (fLc (.nm 2) [2] (iSeq (f2 gIx (fVar 0) (fC (.int 0)))) tYesB (fC (.int 0))))
  (sSeq (sSet 3 (f2 gIx (fVar 0) (fC (.int 0))))
  (sSeq (sFor (.nm 4) (iSeq (f2 gIx (fVar 0) (fC (.int 1)))) (sSeq (sSet 3 (fCall m_paid (fCons (vv (fVar 3)) (fCons (vv (fVar 4)) fNil))))
  (sSetLc 1 (fLc (.tp [(.nm 2), (.nm 5)]) [2, 5] (iZip (fVar 1) (fVar 3)) tYesB (f2 gMax2 (fVar 2) (f1 gNeg (fVar 5)))))))
  (sRet (f1 gTuple (fVar 1))))))
def m_row_help : List Sl → FO := defM N_row_help.length fb_row_help
def N_law : List Str := ["script", "draws", "state", "many", "due", "one", "row", "balances", "payment", "k", "told", "other", "helps", "turn", "bank", "enough"]
def P_law : List Str := ["script"]
theorem sc_law : FnScope N_law P_law (defScope (top 34)) := ⟨rfl, rfl, rfl, by decide +kernel, rfl, by decide +kernel, by decide +kernel⟩
def fb_law : FS := (sSeq (sSet 1 (fCall m__law_open (fCons (vv (fVar 0)) fNil)))
  (sSeq (sSet 2 (fCall m__law_state (fCons (ow (fVar 1)) (fCons (vv (fC (.int 9))) fNil))))
  (sSeq (sSet 3 (f1 gLen (f2 gIx (fVar 2) (fC (.int 0)))))
  (sSeq (sSet 4 (f1 gTuple (fLc (.nm 5) [5] (iSeq (fCall m__law_all (fCons (vv (fVar 2)) fNil))) tYesB (f2 gMax2 (fC (.int 0)) (f1 gNeg (fVar 5))))))
  (sSeq (sUnp (.tp [(.nm 6), (.nm 7)]) (fTup (fCons (vv (fRep (fLst (fCons (vv (fC (.int 0))) fNil)) (fVar 3))) (fCons (vv (f2 gIx (fVar 2) (fC (.int 0)))) fNil))))
  (sSeq (sFor (.nm 8) (iSeq (f2 gIx (fVar 2) (fC (.int 1)))) (sSeq (sSet 7 (fCall m__law_paid (fCons (vv (fVar 7)) (fCons (vv (fVar 8)) fNil))))
  (sSet 6 (fLc (.nm 9) [9] (iRng1' (fVar 3)) tYesB (f2 gMax2 (f2 gIx (fVar 6) (fVar 9)) (f1 gNeg (f2 gIx (fVar 7) (fVar 9))))))))
  (sSeq (sUnp (.tp [(.nm 10), (.nm 11)]) (fTup (fCons (vv (fCall m_least_help (fCons (vv (fVar 2)) fNil))) (fCons (vv (fCall m_row_help (fCons (vv (fVar 2)) fNil))) fNil))))
  (sSeq (sIf (tOrB (asB (f2 gNe (fVar 10) (fVar 4))) (tOrB (asB (f2 gNe (fVar 11) (f1 gTuple (fVar 6)))) (tOrB (asB (f2 gNe (fLc (.nm 9) [9] (iRng1' (fVar 3)) (asB (f2 gLt (f2 gIx (fVar 11) (fVar 9)) (f2 gIx (fVar 10) (fVar 9)))) (fVar 9)) (fLst fNil))) (tOrB (asB (f2 gIsNot (fCall m_is_enough (fCons (vv (fVar 2)) (fCons (vv (fVar 10)) fNil))) (fC (.bool true)))) (asB (f2 gIsNot (fCall m_comes_through (fCons (vv (fVar 2)) (fCons (vv (fVar 11)) fNil))) (fC (.bool true)))))))) (sRet (fC (.bool false))) sNx)
  (sSeq (sSet 12 (fLst (fCons (vv (fVar 10)) (fCons (vv (fVar 11)) (fCons (vv (f2 gMul (fTup (fCons (vv (fC (.int 0))) fNil)) (fVar 3))) (fCons (vv (f1 gTuple (fLc (.nm 5) [5] (iSeq (fVar 10)) tYesB (f2 gAdd (fVar 5) (fC (.int 1)))))) (fCons (vv (f1 gTuple (fLc (.nm 5) [5] (iSeq (fVar 10)) tYesB (f2 gMax2 (fC (.int 0)) (f2 gSub (fVar 5) (fC (.int 1))))))) (fCons (vv (f1 gTuple (fLc (.nm 5) [5] (iSeq (fVar 11)) tYesB (f2 gMax2 (fC (.int 0)) (f2 gSub (fVar 5) (fC (.int 1))))))) fNil))))))))
  (sSeq (sFor (.nm 13) (iRng1' (fC (.int 5))) (sSeq (sSet 9 (fCall m__law_draw (fCons (ow (fVar 1)) (fCons (vv (fVar 3)) fNil))))
  (sSeq (sDrop (fAppend' (fVar 12) (f1 gTuple (fLc (.nm 14) [14] (iRng1' (fVar 3)) tYesB (fCall m__law_draw (fCons (ow (fVar 1)) (fCons (vv (fC (.int 8))) fNil)))))))
  (sDrop (fAppend' (fVar 12) (f2 gAdd (f2 gAdd (fSl (fVar 10) fNo (fSome (fVar 9))) (fTup (fCons (vv (f2 gMax2 (fC (.int 0)) (f2 gSub (f2 gIx (fVar 10) (fVar 9)) (fC (.int 1))))) fNil))) (fSl (fVar 10) (fSome (f2 gAdd (fVar 9) (fC (.int 1)))) fNo)))))))
  (sSeq (sFor (.nm 5) (iSeq (fVar 12)) (sSeq (sSet 15 (f2 gGe (f1 gMinA (fCall m__law_all (fCons (vv (fCall m__law_with (fCons (vv (fVar 2)) (fCons (vv (fVar 5)) fNil)))) fNil))) (fC (.int 0))))
  (sSeq (sIf (tOrB (tNotB (tT1 (fCall m__law_same (fCons (vv (fCall m_is_enough (fCons (vv (fVar 2)) (fCons (vv (fVar 5)) fNil)))) (fCons (vv (fVar 15)) fNil))))) (tAndB (tT1 (fVar 15)) (asB (f2 gNe (fLc (.nm 9) [9] (iRng1' (fVar 3)) (asB (f2 gLt (f2 gIx (fVar 5) (fVar 9)) (f2 gIx (fVar 10) (fVar 9)))) (fVar 9)) (fLst fNil))))) (sRet (fC (.bool false))) sNx)
  (sIf (tOrB (tNotB (tT1 (fCall m__law_same (fCons (vv (fCall m_comes_through (fCons (vv (fVar 2)) (fCons (vv (fVar 5)) fNil)))) (fCons (vv (f2 gEq (f2 gIx (fCall m__law_rest (fCons (vv (fCall m__law_with (fCons (vv (fVar 2)) (fCons (vv (fVar 5)) fNil)))) (fCons (vv (fC (.bool false))) fNil))) (fC (.int 1))) (fTup fNil))) fNil))))) (tAndB (tT1 (fCall m_comes_through (fCons (vv (fVar 2)) (fCons (vv (fVar 5)) fNil)))) (tNotB (tT1 (fVar 15))))) (sRet (fC (.bool false))) sNx))))
  (sRet (fC (.bool true))))))))))))))
def m_law : List Sl → FO := defM N_law.length fb_law
section
variable [Inhabited Tbx] {P : Program} {w : World} {K : PySem.W.Frag} {mg : Str → Option Value} {base : Heap}
abbrev OkF (P : Program) (w : World) (K : PySem.W.Frag) (mg : Str → Option Value) (base : Heap) (k : Nat) (x : Str) (fd : FuncData) (ps : List Str) (m : List Sl → FO) : Prop := FnOk P w K mg base (L2.CX P w) k (He.fAd K (x, none)) fd ps (spD K (xnm mg) ps.length m)
theorem ok__law_paid (fx : Fx K mg) {fd__law_paid : FuncData} (F__law_paid : FnD K "_law_paid" 29 fd__law_paid) : OkF P w K mg base 1 "_law_paid" fd__law_paid P__law_paid m__law_paid := by
  refine fn_def F__law_paid sc__law_paid fun cdv A outer s H E hr => ?_
  unfold fb__law_paid
  exact (dss_cons (ds_set (i := 2) sc__law_paid.nd rfl (by first | exact Or.inl rfl | exact Or.inr rfl) (de_t1 call_list_of una_list rfl fx.b_list (by decide +kernel) (de_var 0)))
    (dss_cons (ds_augIx ip_sub (de_var 2) (de_ix ix_seq bin_ix (de_var 1) de_int) (de_ix ix_seq bin_ix (de_var 1) de_int))
    (dss_cons (ds_augIx ip_add (de_var 2) (de_ix ix_seq bin_ix (de_var 1) de_int) (de_ix ix_seq bin_ix (de_var 1) de_int))
    (dss_one (ds_ret (de_t1 call_tuple_of una_tuple rfl fx.b_tuple (by decide +kernel) (de_var 2)))))))
theorem ok__law_all (fx : Fx K mg) {fd__law_all : FuncData} (F__law_all : FnD K "_law_all" 33 fd__law_all) {fd__law_paid : FuncData} (F__law_paid : FnD K "_law_paid" 29 fd__law_paid) (G__law_paid : OkF P w K mg base 1 "_law_paid" fd__law_paid P__law_paid m__law_paid) : OkF P w K mg base 2 "_law_all" fd__law_all P__law_all m__law_all := by
  have gx__law_paid := fx.g__law_paid
  have kp__law_paid := F__law_paid.kp
  have bn__law_paid : Binds K fd__law_paid P__law_paid [] := F__law_paid.bindsN fun _ _ _ _ _ _ us hl => match us, hl with | [_, _], _ => rfl
  refine fn_def F__law_all sc__law_all fun cdv A outer s H E hr => ?_
  unfold fb__law_all
  exact (dss_cons (ds_set (i := 1) sc__law_all.nd rfl (by first | exact Or.inl rfl | exact Or.inr rfl) (de_ix ix_seq bin_ix (de_var 0) de_int))
    (dss_cons (ds_for (passes_of rfl) rfl (di_seq (de_ix ix_seq bin_ix (de_var 0) de_int)) (dgf_name (i := 2) sc__law_all.nd rfl (by first | exact Or.inl rfl | exact Or.inr rfl)) (dss_one (ds_set (i := 1) sc__law_all.nd rfl (by first | exact Or.inl rfl | exact Or.inr rfl) (de_call (G__law_paid.mono (by decide)) (takes_of rfl rfl rfl rfl) hr rfl gx__law_paid kp__law_paid bn__law_paid (da_cons (de_v (de_var 1)) (da_cons (de_v (de_var 2)) da_nil)) (fl_cons (fl_cons fl_nil))))))
    (dss_one (ds_ret (de_var 1)))))
theorem ok__law_mixed (fx : Fx K mg) {fd__law_mixed : FuncData} (F__law_mixed : FnD K "_law_mixed" 24 fd__law_mixed) : OkF P w K mg base 1 "_law_mixed" fd__law_mixed P__law_mixed m__law_mixed := by
  refine fn_def F__law_mixed sc__law_mixed fun cdv A outer s H E hr => ?_
  unfold fb__law_mixed
  exact (dss_cons (ds_set (i := 2) sc__law_mixed.nd rfl (by first | exact Or.inl rfl | exact Or.inr rfl) (de_op op_mod bin_mod (de_op op_addAll bin_add (de_op op_addAll bin_add (de_op op_mulAll bin_mul (de_op op_mod bin_mod (de_var 0) (de_op op_sub bin_sub (de_op op_pow bin_pow de_int de_int) de_int)) de_int) (de_op op_mulAll bin_mul (de_var 1) de_int)) de_int) (de_op op_pow bin_pow de_int de_int)))
    (dss_cons (ds_set (i := 2) sc__law_mixed.nd rfl (by first | exact Or.inl rfl | exact Or.inr rfl) (de_op op_mod bin_mod (de_op op_mulAll bin_mul (de_op op_xor bin_xor (de_var 2) (de_op op_shr bin_shr (de_var 2) de_int)) de_int) (de_op op_pow bin_pow de_int de_int)))
    (dss_one (ds_ret (de_op op_mod bin_mod (de_op op_mulAll bin_mul (de_op op_xor bin_xor (de_var 2) (de_op op_shr bin_shr (de_var 2) de_int)) de_int) (de_op op_pow bin_pow de_int de_int))))))
theorem ok__law_draw (fx : Fx K mg) {fd__law_draw : FuncData} (F__law_draw : FnD K "_law_draw" 25 fd__law_draw) {fd__law_mixed : FuncData} (F__law_mixed : FnD K "_law_mixed" 24 fd__law_mixed) (G__law_mixed : OkF P w K mg base 1 "_law_mixed" fd__law_mixed P__law_mixed m__law_mixed) : OkF P w K mg base 2 "_law_draw" fd__law_draw P__law_draw m__law_draw := by
  have gx__law_mixed := fx.g__law_mixed
  have kp__law_mixed := F__law_mixed.kp
  have bn__law_mixed : Binds K fd__law_mixed P__law_mixed [] := F__law_mixed.bindsN fun _ _ _ _ _ _ us hl => match us, hl with | [_, _], _ => rfl
  refine fn_def F__law_draw sc__law_draw fun cdv A outer s H E hr => ?_
  unfold fb__law_draw
  exact (dss_cons (ds_unp (de_var 0) (dg_tup rfl (dgs_cons (dgf_name (i := 2) sc__law_draw.nd rfl (by first | exact Or.inl rfl | exact Or.inr rfl)) (dgs_cons (dgf_name (i := 3) sc__law_draw.nd rfl (by first | exact Or.inl rfl | exact Or.inr rfl)) (dgs_cons (dgf_name (i := 4) sc__law_draw.nd rfl (by first | exact Or.inl rfl | exact Or.inr rfl)) dgs_nil)))))
    (dss_cons (ds_if (dt_cmp (op_ltAll (hu_of hr)) bin_lt (de_var 3) (de_var 1)) (dss_cons (ds_set (i := 5) sc__law_draw.nd rfl (by first | exact Or.inl rfl | exact Or.inr rfl) (de_ix ix_seq bin_ix (de_var 4) (de_op op_mod bin_mod (de_var 2) (de_b1 call_len una_len rfl fx.b_len (by decide +kernel) (de_var 4)))))
    (dss_cons (ds_set (i := 3) sc__law_draw.nd rfl (by first | exact Or.inl rfl | exact Or.inr rfl) (de_if (dt_w (dw_and (dt_cmp (op_ltAll (hu_of hr)) bin_lt (de_var 2) (de_b1 call_len una_len rfl fx.b_len (by decide +kernel) (de_var 4))) (dw_and1 (dt_cmp op_ge bin_ge (de_var 5) (de_op op_pow bin_pow de_int de_int))))) (de_var 5) (de_call (G__law_mixed.mono (by decide)) (takes_of rfl rfl rfl rfl) hr rfl gx__law_mixed kp__law_mixed bn__law_mixed (da_cons (de_v (de_var 5)) (da_cons (de_v (de_var 2)) da_nil)) (fl_cons (fl_cons fl_nil)))))
    (dss_one (ds_set (i := 2) sc__law_draw.nd rfl (by first | exact Or.inl rfl | exact Or.inr rfl) (de_op op_addAll bin_add (de_var 2) de_int))))) dss_nil)
    (dss_cons (ds_setIx (de_var 0) de_int (de_var 2))
    (dss_cons (ds_setIx (de_var 0) de_int (de_op op_fdivW bin_fdiv (de_var 3) (de_var 1)))
    (dss_one (ds_ret (de_op op_mod bin_mod (de_var 3) (de_var 1))))))))
theorem ok__law_open (fx : Fx K mg) {fd__law_open : FuncData} (F__law_open : FnD K "_law_open" 23 fd__law_open) : OkF P w K mg base 1 "_law_open" fd__law_open P__law_open m__law_open := by
  refine fn_def F__law_open sc__law_open fun cdv A outer s H E hr => ?_
  unfold fb__law_open
  exact (dss_cons (ds_setLc (own := [("cell", 2)]) (i := 1) rfl sc__law_open.nd rfl rfl (blkOk_by (own := [("cell", 2)]) (N := N__law_open) (sc := (defScope (top 23))) (by decide +kernel)) (by decide) (di_seq (de_sl (de_var 0) do_none (do_some de_int))) (fun _ _ _ _ _ => (dgf_name (i := 2) sc__law_open.nd rfl (by first | exact Or.inl rfl | exact Or.inr rfl))) (fun _ _ _ _ _ => dts_nil) (fun _ _ _ _ _ => (de_b1 call_abs una_abs rfl fx.b_abs (by decide +kernel) (de_t1 call_int1 una_int rfl fx.b_int (by decide +kernel) (de_var 2)))) (sw_true rfl rfl rfl (by decide +kernel)))
    (dss_one (ds_ret (de_lst (da_cons (de_v de_int) (da_cons (de_v de_int) (da_cons (de_v (de_op op_addAll bin_add (de_var 1) (de_lst (da_cons (de_v de_int) da_nil)))) da_nil)))))))
theorem ok__law_can (fx : Fx K mg) {fd__law_can : FuncData} (F__law_can : FnD K "_law_can" 30 fd__law_can) : OkF P w K mg base 1 "_law_can" fd__law_can P__law_can m__law_can := by
  refine fn_def F__law_can sc__law_can fun cdv A outer s H E hr => ?_
  unfold fb__law_can
  exact (dss_cons (ds_unp (de_var 0) (dg_tup rfl (dgs_cons (dgf_name (i := 1) sc__law_can.nd rfl (by first | exact Or.inl rfl | exact Or.inr rfl)) (dgs_cons (dgf_name (i := 2) sc__law_can.nd rfl (by first | exact Or.inl rfl | exact Or.inr rfl)) dgs_nil))))
    (dss_one (ds_ret (de_lc (own := [("k", 3)]) rfl sc__law_can.nd (blkOk_by (own := [("k", 3)]) (N := N__law_can) (sc := (defScope (top 30))) (by decide +kernel)) (by decide) (di_range1 rfl fx.b_range (de_b1 call_len una_len rfl fx.b_len (by decide +kernel) (de_var 2))) (fun _ _ _ _ _ => (dgf_name (i := 3) sc__law_can.nd rfl (by first | exact Or.inl rfl | exact Or.inr rfl))) (fun _ _ _ _ _ => (dts_one (dt_w (dw_and (dt_cmp (op_notInAll (hu_of hr)) bin_notIn (de_ix ix_seq bin_ix (de_ix ix_seq bin_ix (de_var 2) (de_var 3)) de_int) (de_lc (own := [("one", 4)]) rfl sc__law_can.nd (blkOk_by (own := [("one", 4)]) (N := N__law_can) (sc := (relS _ (defScope (top 30)))) (by decide +kernel)) (by decide) (di_seq (de_sl (de_var 2) do_none (do_some (de_var 3)))) (fun _ _ _ _ _ => (dgf_name (i := 4) sc__law_can.nd rfl (by first | exact Or.inl rfl | exact Or.inr rfl))) (fun _ _ _ _ _ => dts_nil) (fun _ _ _ _ _ => (de_ix ix_seq bin_ix (de_var 4) de_int)))) (dw_and1 (dt_cmp op_ge bin_ge (de_ix ix_seq bin_ix (de_var 1) (de_ix ix_seq bin_ix (de_ix ix_seq bin_ix (de_var 2) (de_var 3)) de_int)) (de_ix ix_seq bin_ix (de_ix ix_seq bin_ix (de_var 2) (de_var 3)) de_int))))))) (fun _ _ _ _ _ => (de_var 3))))))
theorem ok__law_rest (fx : Fx K mg) {fd__law_rest : FuncData} (F__law_rest : FnD K "_law_rest" 31 fd__law_rest) {fd__law_can : FuncData} (F__law_can : FnD K "_law_can" 30 fd__law_can) (G__law_can : OkF P w K mg base 1 "_law_can" fd__law_can P__law_can m__law_can) {fd__law_paid : FuncData} (F__law_paid : FnD K "_law_paid" 29 fd__law_paid) (G__law_paid : OkF P w K mg base 1 "_law_paid" fd__law_paid P__law_paid m__law_paid) : OkF P w K mg base 2 "_law_rest" fd__law_rest P__law_rest m__law_rest := by
  have gx__law_can := fx.g__law_can
  have kp__law_can := F__law_can.kp
  have bn__law_can : Binds K fd__law_can P__law_can [] := F__law_can.bindsN fun _ _ _ _ _ _ us hl => match us, hl with | [_], _ => rfl
  have gx__law_paid := fx.g__law_paid
  have kp__law_paid := F__law_paid.kp
  have bn__law_paid : Binds K fd__law_paid P__law_paid [] := F__law_paid.bindsN fun _ _ _ _ _ _ us hl => match us, hl with | [_, _], _ => rfl
  refine fn_def F__law_rest sc__law_rest fun cdv A outer s H E hr => ?_
  unfold fb__law_rest
  exact (dss_cons (ds_set (i := 2) sc__law_rest.nd rfl (by first | exact Or.inl rfl | exact Or.inr rfl) (de_call (G__law_can.mono (by decide)) (takes_of rfl rfl rfl rfl) hr rfl gx__law_can kp__law_can bn__law_can (da_cons (de_v (de_var 0)) da_nil) (fl_cons fl_nil)))
    (dss_cons (ds_for (passes_of rfl) rfl (di_range1 rfl fx.b_range de_int) (dgf_name (i := 3) sc__law_rest.nd rfl (by first | exact Or.inl rfl | exact Or.inr rfl)) (dss_one (ds_if (dt_cmp (op_neU (hu_of hr)) bin_ne (de_var 2) (de_lst da_nil)) (dss_cons (ds_set (i := 4) sc__law_rest.nd rfl (by first | exact Or.inl rfl | exact Or.inr rfl) (de_if (dt_v (de_var 1)) (de_ix ix_seq bin_ix (de_var 2) (de_un un_neg una_neg de_int)) (de_ix ix_seq bin_ix (de_var 2) de_int)))
    (dss_cons (ds_set (i := 0) sc__law_rest.nd rfl (by first | exact Or.inl rfl | exact Or.inr rfl) (de_tup (da_cons (de_v (de_call (G__law_paid.mono (by decide)) (takes_of rfl rfl rfl rfl) hr rfl gx__law_paid kp__law_paid bn__law_paid (da_cons (de_v (de_ix ix_seq bin_ix (de_var 0) de_int)) (da_cons (de_v (de_ix ix_seq bin_ix (de_ix ix_seq bin_ix (de_var 0) de_int) (de_var 4))) da_nil)) (fl_cons (fl_cons fl_nil)))) (da_cons (de_v (de_op op_addAll bin_add (de_sl (de_ix ix_seq bin_ix (de_var 0) de_int) do_none (do_some (de_var 4))) (de_sl (de_ix ix_seq bin_ix (de_var 0) de_int) (do_some (de_op op_addAll bin_add (de_var 4) de_int)) do_none))) da_nil))))
    (dss_one (ds_set (i := 2) sc__law_rest.nd rfl (by first | exact Or.inl rfl | exact Or.inr rfl) (de_call (G__law_can.mono (by decide)) (takes_of rfl rfl rfl rfl) hr rfl gx__law_can kp__law_can bn__law_can (da_cons (de_v (de_var 0)) da_nil) (fl_cons fl_nil)))))) dss_nil)))
    (dss_one (ds_ret (de_var 0)))))
theorem ok__law_same (fx : Fx K mg) {fd__law_same : FuncData} (F__law_same : FnD K "_law_same" 27 fd__law_same) : OkF P w K mg base 1 "_law_same" fd__law_same P__law_same m__law_same := by
  refine fn_def F__law_same sc__law_same fun cdv A outer s H E hr => ?_
  unfold fb__law_same
  exact (dss_one (ds_ret (de_if (dt_v (de_var 1)) (de_cmp op_isAll bin_is (de_var 0) de_bl) (de_cmp op_isAll bin_is (de_var 0) de_bl))))
theorem ok__law_state (fx : Fx K mg) {fd__law_state : FuncData} (F__law_state : FnD K "_law_state" 28 fd__law_state) {fd__law_draw : FuncData} (F__law_draw : FnD K "_law_draw" 25 fd__law_draw) (G__law_draw : OkF P w K mg base 2 "_law_draw" fd__law_draw P__law_draw m__law_draw) : OkF P w K mg base 3 "_law_state" fd__law_state P__law_state m__law_state := by
  have gx__law_draw := fx.g__law_draw
  have kp__law_draw := F__law_draw.kp
  have bn__law_draw : Binds K fd__law_draw P__law_draw [] := F__law_draw.bindsN fun _ _ _ _ _ _ us hl => match us, hl with | [_, _], _ => rfl
  refine fn_def F__law_state sc__law_state fun cdv A outer s H E hr => ?_
  unfold fb__law_state
  exact (dss_cons (ds_set (i := 2) sc__law_state.nd rfl (by first | exact Or.inl rfl | exact Or.inr rfl) (de_op op_addAll bin_add de_int (de_call (G__law_draw.mono (by decide)) (takes_of rfl rfl rfl rfl) hr rfl gx__law_draw kp__law_draw bn__law_draw (da_cons (de_o (de_var 0)) (da_cons (de_v de_int) da_nil)) (fl_cons (fl_cons fl_nil)))))
    (dss_cons (ds_set (i := 3) sc__law_state.nd rfl (by first | exact Or.inl rfl | exact Or.inr rfl) (de_ix ix_seq bin_ix (de_lst (da_cons (de_v de_int) (da_cons (de_v de_int) (da_cons (de_v de_int) da_nil)))) (de_call (G__law_draw.mono (by decide)) (takes_of rfl rfl rfl rfl) hr rfl gx__law_draw kp__law_draw bn__law_draw (da_cons (de_o (de_var 0)) (da_cons (de_v de_int) da_nil)) (fl_cons (fl_cons fl_nil)))))
    (dss_cons (ds_set (i := 4) sc__law_state.nd rfl (by first | exact Or.inl rfl | exact Or.inr rfl) (de_t1 call_tuple_of una_tuple rfl fx.b_tuple (by decide +kernel) (de_lc (own := [("bank", 5)]) rfl sc__law_state.nd (blkOk_by (own := [("bank", 5)]) (N := N__law_state) (sc := (defScope (top 28))) (by decide +kernel)) (by decide) (di_range1 rfl fx.b_range (de_var 2)) (fun _ _ _ _ _ => (dgf_name (i := 5) sc__law_state.nd rfl (by first | exact Or.inl rfl | exact Or.inr rfl))) (fun _ _ _ _ _ => dts_nil) (fun _ _ _ _ _ => (de_if (dt_cmp (op_eqU (hu_of hr)) bin_eq (de_call (G__law_draw.mono (by decide)) takesF hr rfl gx__law_draw kp__law_draw bn__law_draw (da_cons (de_o (de_var 0)) (da_cons (de_v de_int) da_nil)) (fl_cons (fl_cons fl_nil))) de_int) (de_call (G__law_draw.mono (by decide)) takesF hr rfl gx__law_draw kp__law_draw bn__law_draw (da_cons (de_o (de_var 0)) (da_cons (de_v (de_var 3)) da_nil)) (fl_cons (fl_cons fl_nil))) de_int)))))
    (dss_cons (ds_set (i := 6) sc__law_state.nd rfl (by first | exact Or.inl rfl | exact Or.inr rfl) (de_lst da_nil))
    (dss_cons (ds_for (passes_of rfl) rfl (di_range1 rfl fx.b_range (de_call (G__law_draw.mono (by decide)) (takes_of rfl rfl rfl rfl) hr rfl gx__law_draw kp__law_draw bn__law_draw (da_cons (de_o (de_var 0)) (da_cons (de_v (de_op op_addAll bin_add (de_var 1) de_int)) da_nil)) (fl_cons (fl_cons fl_nil)))) (dgf_name (i := 7) sc__law_state.nd rfl (by first | exact Or.inl rfl | exact Or.inr rfl)) (dss_cons (ds_set (i := 8) sc__law_state.nd rfl (by first | exact Or.inl rfl | exact Or.inr rfl) (de_call (G__law_draw.mono (by decide)) (takes_of rfl rfl rfl rfl) hr rfl gx__law_draw kp__law_draw bn__law_draw (da_cons (de_o (de_var 0)) (da_cons (de_v (de_var 2)) da_nil)) (fl_cons (fl_cons fl_nil))))
    (dss_one (ds_expr (de_append (de_var 6) (de_tup (da_cons (de_v (de_var 8)) (da_cons (de_v (de_op op_mod bin_mod (de_t1 call_int1 una_int rfl fx.b_int (by decide +kernel) (de_op op_addAll bin_add (de_op op_addAll bin_add (de_var 8) de_int) (de_call (G__law_draw.mono (by decide)) (takes_of rfl rfl rfl rfl) hr rfl gx__law_draw kp__law_draw bn__law_draw (da_cons (de_o (de_var 0)) (da_cons (de_v (de_op op_sub bin_sub (de_var 2) de_int)) da_nil)) (fl_cons (fl_cons fl_nil))))) (de_var 2))) (da_cons (de_v (de_op op_addAll bin_add de_int (de_call (G__law_draw.mono (by decide)) (takes_of rfl rfl rfl rfl) hr rfl gx__law_draw kp__law_draw bn__law_draw (da_cons (de_o (de_var 0)) (da_cons (de_v (de_var 3)) da_nil)) (fl_cons (fl_cons fl_nil))))) da_nil)))))))))
    (dss_one (ds_ret (de_tup (da_cons (de_v (de_var 4)) (da_cons (de_v (de_t1 call_tuple_of una_tuple rfl fx.b_tuple (by decide +kernel) (de_var 6))) da_nil))))))))))
theorem ok__law_with (fx : Fx K mg) {fd__law_with : FuncData} (F__law_with : FnD K "_law_with" 32 fd__law_with) : OkF P w K mg base 1 "_law_with" fd__law_with P__law_with m__law_with := by
  refine fn_def F__law_with sc__law_with fun cdv A outer s H E hr => ?_
  unfold fb__law_with
  exact (dss_one (ds_ret (de_tup (da_cons (de_v (de_t1 call_tuple_of una_tuple rfl fx.b_tuple (by decide +kernel) (de_lc (own := [("k", 2)]) rfl sc__law_with.nd (blkOk_by (own := [("k", 2)]) (N := N__law_with) (sc := (defScope (top 32))) (by decide +kernel)) (by decide) (di_range1 rfl fx.b_range (de_b1 call_len una_len rfl fx.b_len (by decide +kernel) (de_var 1))) (fun _ _ _ _ _ => (dgf_name (i := 2) sc__law_with.nd rfl (by first | exact Or.inl rfl | exact Or.inr rfl))) (fun _ _ _ _ _ => dts_nil) (fun _ _ _ _ _ => (de_op op_addAll bin_add (de_ix ix_seq bin_ix (de_ix ix_seq bin_ix (de_var 0) de_int) (de_var 2)) (de_ix ix_seq bin_ix (de_var 1) (de_var 2))))))) (da_cons (de_v (de_ix ix_seq bin_ix (de_var 0) de_int)) da_nil)))))
theorem ok_firsts (fx : Fx K mg) {fd_firsts : FuncData} (F_firsts : FnD K "firsts" 6 fd_firsts) : OkF P w K mg base 1 "firsts" fd_firsts P_firsts m_firsts := by
  refine fn_def F_firsts sc_firsts fun cdv A outer s H E hr => ?_
  unfold fb_firsts
  exact (dss_cons (ds_set (i := 1) sc_firsts.nd rfl (by first | exact Or.inl rfl | exact Or.inr rfl) de_dict0)
    (dss_cons (ds_for (passes_of rfl) rfl (di_enum rfl fx.b_enumerate (de_var 0)) (dgf_tup rfl (dgs_cons (dgf_name (i := 2) sc_firsts.nd rfl (by first | exact Or.inl rfl | exact Or.inr rfl)) (dgs_cons (dgf_name (i := 3) sc_firsts.nd rfl (by first | exact Or.inl rfl | exact Or.inr rfl)) dgs_nil))) (dss_one (ds_expr (de_setd (de_var 1) (de_ix ix_seq bin_ix (de_var 3) de_int) (de_var 2) ⟨rfl, rfl, rfl, rfl⟩))))
    (dss_one (ds_ret (de_sortV rfl rfl fx.b_sorted (de_var 1))))))
theorem ok_can_settle (fx : Fx K mg) {fd_can_settle : FuncData} (F_can_settle : FnD K "can_settle" 7 fd_can_settle) {fd_firsts : FuncData} (F_firsts : FnD K "firsts" 6 fd_firsts) (G_firsts : OkF P w K mg base 1 "firsts" fd_firsts P_firsts m_firsts) : OkF P w K mg base 2 "can_settle" fd_can_settle P_can_settle m_can_settle := by
  have gx_firsts := fx.g_firsts
  have kp_firsts := F_firsts.kp
  have bn_firsts : Binds K fd_firsts P_firsts [] := F_firsts.bindsN fun _ _ _ _ _ _ us hl => match us, hl with | [_], _ => rfl
  refine fn_def F_can_settle sc_can_settle fun cdv A outer s H E hr => ?_
  unfold fb_can_settle
  exact (dss_cons (ds_unp (de_var 0) (dg_tup rfl (dgs_cons (dgf_name (i := 1) sc_can_settle.nd rfl (by first | exact Or.inl rfl | exact Or.inr rfl)) (dgs_cons (dgf_name (i := 2) sc_can_settle.nd rfl (by first | exact Or.inl rfl | exact Or.inr rfl)) dgs_nil))))
    (dss_one (ds_ret (de_t1 call_tuple_of una_tuple rfl fx.b_tuple (by decide +kernel) (de_lc (own := [("number", 3)]) rfl sc_can_settle.nd (blkOk_by (own := [("number", 3)]) (N := N_can_settle) (sc := (defScope (top 7))) (by decide +kernel)) (by decide) (di_seq (de_call (G_firsts.mono (by decide)) (takes_of rfl rfl rfl rfl) hr rfl gx_firsts kp_firsts bn_firsts (da_cons (de_v (de_var 2)) da_nil) (fl_cons fl_nil))) (fun _ _ _ _ _ => (dgf_name (i := 3) sc_can_settle.nd rfl (by first | exact Or.inl rfl | exact Or.inr rfl))) (fun _ _ _ _ _ => (dts_one (dt_cmp op_ge bin_ge (de_ix ix_seq bin_ix (de_var 1) (de_ix ix_seq bin_ix (de_ix ix_seq bin_ix (de_var 2) (de_var 3)) de_int)) (de_ix ix_seq bin_ix (de_ix ix_seq bin_ix (de_var 2) (de_var 3)) de_int)))) (fun _ _ _ _ _ => (de_var 3)))))))
theorem ok_paid (fx : Fx K mg) {fd_paid : FuncData} (F_paid : FnD K "paid" 8 fd_paid) : OkF P w K mg base 1 "paid" fd_paid P_paid m_paid := by
  refine fn_def F_paid sc_paid fun cdv A outer s H E hr => ?_
  unfold fb_paid
  exact (dss_cons (ds_unp (de_var 1) (dg_tup rfl (dgs_cons (dgf_name (i := 2) sc_paid.nd rfl (by first | exact Or.inl rfl | exact Or.inr rfl)) (dgs_cons (dgf_name (i := 3) sc_paid.nd rfl (by first | exact Or.inl rfl | exact Or.inr rfl)) (dgs_cons (dgf_name (i := 4) sc_paid.nd rfl (by first | exact Or.inl rfl | exact Or.inr rfl)) dgs_nil)))))
    (dss_cons (ds_set (i := 5) sc_paid.nd rfl (by first | exact Or.inl rfl | exact Or.inr rfl) (de_t1 call_list_of una_list rfl fx.b_list (by decide +kernel) (de_var 0)))
    (dss_cons (ds_setIx (de_var 5) (de_var 2) (de_op op_sub bin_sub (de_ix ix_seq bin_ix (de_var 5) (de_var 2)) (de_var 4)))
    (dss_cons (ds_setIx (de_var 5) (de_var 3) (de_op op_addAll bin_add (de_ix ix_seq bin_ix (de_var 5) (de_var 3)) (de_var 4)))
    (dss_one (ds_ret (de_t1 call_tuple_of una_tuple rfl fx.b_tuple (by decide +kernel) (de_var 5))))))))
theorem ok_settled (fx : Fx K mg) {fd_settled : FuncData} (F_settled : FnD K "settled" 9 fd_settled) {fd_can_settle : FuncData} (F_can_settle : FnD K "can_settle" 7 fd_can_settle) (G_can_settle : OkF P w K mg base 2 "can_settle" fd_can_settle P_can_settle m_can_settle) {fd_paid : FuncData} (F_paid : FnD K "paid" 8 fd_paid) (G_paid : OkF P w K mg base 1 "paid" fd_paid P_paid m_paid) : OkF P w K mg base 3 "settled" fd_settled P_settled m_settled := by
  have gx_can_settle := fx.g_can_settle
  have kp_can_settle := F_can_settle.kp
  have bn_can_settle : Binds K fd_can_settle P_can_settle [] := F_can_settle.bindsN fun _ _ _ _ _ _ us hl => match us, hl with | [_], _ => rfl
  have gx_paid := fx.g_paid
  have kp_paid := F_paid.kp
  have bn_paid : Binds K fd_paid P_paid [] := F_paid.bindsN fun _ _ _ _ _ _ us hl => match us, hl with | [_, _], _ => rfl
  refine fn_def F_settled sc_settled fun cdv A outer s H E hr => ?_
  unfold fb_settled
  exact (dss_cons (ds_if (dt_cmp (op_notInAll (hu_of hr)) bin_notIn (de_var 1) (de_call (G_can_settle.mono (by decide)) (takes_of rfl rfl rfl rfl) hr rfl gx_can_settle kp_can_settle bn_can_settle (da_cons (de_v (de_var 0)) da_nil) (fl_cons fl_nil))) (dss_one (ds_raise rfl (takes_of rfl rfl rfl rfl) PySem.F.excBase_ValueError fx.x_Refused.1 fx.y_Refused fx.x_Refused.2.1 (raises_own fx.x_Refused.2.2.1 fx.x_Refused.2.2.2) rfl fx.y_Refused)) dss_nil)
    (dss_cons (ds_unp (de_var 0) (dg_tup rfl (dgs_cons (dgf_name (i := 2) sc_settled.nd rfl (by first | exact Or.inl rfl | exact Or.inr rfl)) (dgs_cons (dgf_name (i := 3) sc_settled.nd rfl (by first | exact Or.inl rfl | exact Or.inr rfl)) dgs_nil))))
    (dss_one (ds_ret (de_tup (da_cons (de_v (de_call (G_paid.mono (by decide)) (takes_of rfl rfl rfl rfl) hr rfl gx_paid kp_paid bn_paid (da_cons (de_v (de_var 2)) (da_cons (de_v (de_ix ix_seq bin_ix (de_var 3) (de_var 1))) da_nil)) (fl_cons (fl_cons fl_nil)))) (da_cons (de_v (de_op op_addAll bin_add (de_sl (de_var 3) do_none (do_some (de_var 1))) (de_sl (de_var 3) (do_some (de_op op_addAll bin_add (de_var 1) de_int)) do_none))) da_nil)))))))
theorem ok_at_rest (fx : Fx K mg) {fd_at_rest : FuncData} (F_at_rest : FnD K "at_rest" 10 fd_at_rest) {fd_can_settle : FuncData} (F_can_settle : FnD K "can_settle" 7 fd_can_settle) (G_can_settle : OkF P w K mg base 2 "can_settle" fd_can_settle P_can_settle m_can_settle) {fd_settled : FuncData} (F_settled : FnD K "settled" 9 fd_settled) (G_settled : OkF P w K mg base 3 "settled" fd_settled P_settled m_settled) : OkF P w K mg base 4 "at_rest" fd_at_rest P_at_rest m_at_rest := by
  have gx_can_settle := fx.g_can_settle
  have kp_can_settle := F_can_settle.kp
  have bn_can_settle : Binds K fd_can_settle P_can_settle [] := F_can_settle.bindsN fun _ _ _ _ _ _ us hl => match us, hl with | [_], _ => rfl
  have gx_settled := fx.g_settled
  have kp_settled := F_settled.kp
  have bn_settled : Binds K fd_settled P_settled [] := F_settled.bindsN fun _ _ _ _ _ _ us hl => match us, hl with | [_, _], _ => rfl
  refine fn_def F_at_rest sc_at_rest fun cdv A outer s H E hr => ?_
  unfold fb_at_rest
  exact (dss_cons (ds_set (i := 1) sc_at_rest.nd rfl (by first | exact Or.inl rfl | exact Or.inr rfl) (de_call (G_can_settle.mono (by decide)) (takes_of rfl rfl rfl rfl) hr rfl gx_can_settle kp_can_settle bn_can_settle (da_cons (de_v (de_var 0)) da_nil) (fl_cons fl_nil)))
    (dss_cons (ds_while 100000 (passes_of rfl) (dt_cmp (op_neU (hu_of hr)) bin_ne (de_var 1) (de_tup da_nil)) (dss_cons (ds_set (i := 0) sc_at_rest.nd rfl (by first | exact Or.inl rfl | exact Or.inr rfl) (de_call (G_settled.mono (by decide)) (takes_of rfl rfl rfl rfl) hr rfl gx_settled kp_settled bn_settled (da_cons (de_v (de_var 0)) (da_cons (de_v (de_ix ix_seq bin_ix (de_var 1) de_int)) da_nil)) (fl_cons (fl_cons fl_nil))))
    (dss_one (ds_set (i := 1) sc_at_rest.nd rfl (by first | exact Or.inl rfl | exact Or.inr rfl) (de_call (G_can_settle.mono (by decide)) (takes_of rfl rfl rfl rfl) hr rfl gx_can_settle kp_can_settle bn_can_settle (da_cons (de_v (de_var 0)) da_nil) (fl_cons fl_nil))))))
    (dss_one (ds_ret (de_var 0)))))
theorem ok_helped (fx : Fx K mg) {fd_helped : FuncData} (F_helped : FnD K "helped" 19 fd_helped) : OkF P w K mg base 1 "helped" fd_helped P_helped m_helped := by
  refine fn_def F_helped sc_helped fun cdv A outer s H E hr => ?_
  unfold fb_helped
  exact (dss_one (ds_ret (de_tup (da_cons (de_v (de_t1 call_tuple_of una_tuple rfl fx.b_tuple (by decide +kernel) (de_lc (own := [("one", 2), ("more", 3)]) rfl sc_helped.nd (blkOk_by (own := [("one", 2), ("more", 3)]) (N := N_helped) (sc := (defScope (top 19))) (by decide +kernel)) (by decide) (di_zip rfl fx.b_zip (de_ix ix_seq bin_ix (de_var 0) de_int) (de_var 1)) (fun _ _ _ _ _ => (dgf_tup rfl (dgs_cons (dgf_name (i := 2) sc_helped.nd rfl (by first | exact Or.inl rfl | exact Or.inr rfl)) (dgs_cons (dgf_name (i := 3) sc_helped.nd rfl (by first | exact Or.inl rfl | exact Or.inr rfl)) dgs_nil)))) (fun _ _ _ _ _ => dts_nil) (fun _ _ _ _ _ => (de_op op_addAll bin_add (de_var 2) (de_var 3)))))) (da_cons (de_v (de_ix ix_seq bin_ix (de_var 0) de_int)) da_nil)))))
theorem ok_comes_through (fx : Fx K mg) {fd_comes_through : FuncData} (F_comes_through : FnD K "comes_through" 21 fd_comes_through) {fd_at_rest : FuncData} (F_at_rest : FnD K "at_rest" 10 fd_at_rest) (G_at_rest : OkF P w K mg base 4 "at_rest" fd_at_rest P_at_rest m_at_rest) {fd_helped : FuncData} (F_helped : FnD K "helped" 19 fd_helped) (G_helped : OkF P w K mg base 1 "helped" fd_helped P_helped m_helped) : OkF P w K mg base 5 "comes_through" fd_comes_through P_comes_through m_comes_through := by
  have gx_at_rest := fx.g_at_rest
  have kp_at_rest := F_at_rest.kp
  have bn_at_rest : Binds K fd_at_rest P_at_rest [] := F_at_rest.bindsN fun _ _ _ _ _ _ us hl => match us, hl with | [_], _ => rfl
  have gx_helped := fx.g_helped
  have kp_helped := F_helped.kp
  have bn_helped : Binds K fd_helped P_helped [] := F_helped.bindsN fun _ _ _ _ _ _ us hl => match us, hl with | [_, _], _ => rfl
  refine fn_def F_comes_through sc_comes_through fun cdv A outer s H E hr => ?_
  unfold fb_comes_through
  exact (dss_one (ds_ret (de_cmp (op_eqU (hu_of hr)) bin_eq (de_ix ix_seq bin_ix (de_call (G_at_rest.mono (by decide)) (takes_of rfl rfl rfl rfl) hr rfl gx_at_rest kp_at_rest bn_at_rest (da_cons (de_v (de_call (G_helped.mono (by decide)) (takes_of rfl rfl rfl rfl) hr rfl gx_helped kp_helped bn_helped (da_cons (de_v (de_var 0)) (da_cons (de_v (de_var 1)) da_nil)) (fl_cons (fl_cons fl_nil)))) da_nil) (fl_cons fl_nil)) de_int) (de_tup da_nil))))
theorem ok_of_banks (fx : Fx K mg) {fd_of_banks : FuncData} (F_of_banks : FnD K "of_banks" 12 fd_of_banks) : OkF P w K mg base 1 "of_banks" fd_of_banks P_of_banks m_of_banks := by
  refine fn_def F_of_banks sc_of_banks fun cdv A outer s H E hr => ?_
  unfold fb_of_banks
  exact (dss_cons (ds_unp (de_var 0) (dg_tup rfl (dgs_cons (dgf_name (i := 1) sc_of_banks.nd rfl (by first | exact Or.inl rfl | exact Or.inr rfl)) (dgs_cons (dgf_name (i := 2) sc_of_banks.nd rfl (by first | exact Or.inl rfl | exact Or.inr rfl)) dgs_nil))))
    (dss_one (ds_ret (de_lc (own := [("bank", 4)]) rfl sc_of_banks.nd (blkOk_by (own := [("bank", 4)]) (N := N_of_banks) (sc := (defScope (top 12))) (by decide +kernel)) (by decide) (di_range1 rfl fx.b_range (de_b1 call_len una_len rfl fx.b_len (by decide +kernel) (de_var 1))) (fun _ _ _ _ _ => (dgf_name (i := 4) sc_of_banks.nd rfl (by first | exact Or.inl rfl | exact Or.inr rfl))) (fun _ _ _ _ _ => dts_nil) (fun _ _ _ _ _ => (de_lc (own := [("payment", 3)]) rfl sc_of_banks.nd (blkOk_by (own := [("payment", 3)]) (N := N_of_banks) (sc := (relS _ (defScope (top 12)))) (by decide +kernel)) (by decide) (di_seq (de_var 2)) (fun _ _ _ _ _ => (dgf_name (i := 3) sc_of_banks.nd rfl (by first | exact Or.inl rfl | exact Or.inr rfl))) (fun _ _ _ _ _ => (dts_one (dt_cmp (op_eqU (hu_of hr)) bin_eq (de_ix ix_seq bin_ix (de_var 3) de_int) (de_var 4)))) (fun _ _ _ _ _ => (de_var 3))))))))
theorem ok_all_of (fx : Fx K mg) {fd_all_of : FuncData} (F_all_of : FnD K "all_of" 13 fd_all_of) {fd_of_banks : FuncData} (F_of_banks : FnD K "of_banks" 12 fd_of_banks) (G_of_banks : OkF P w K mg base 1 "of_banks" fd_of_banks P_of_banks m_of_banks) : OkF P w K mg base 2 "all_of" fd_all_of P_all_of m_all_of := by
  have gx_of_banks := fx.g_of_banks
  have kp_of_banks := F_of_banks.kp
  have bn_of_banks : Binds K fd_of_banks P_of_banks [] := F_of_banks.bindsN fun _ _ _ _ _ _ us hl => match us, hl with | [_], _ => rfl
  refine fn_def F_all_of sc_all_of fun cdv A outer s H E hr => ?_
  unfold fb_all_of
  exact (dss_one (ds_ret (de_t1 call_tuple_of una_tuple rfl fx.b_tuple (by decide +kernel) (de_lc (own := [("row", 1)]) rfl sc_all_of.nd (blkOk_by (own := [("row", 1)]) (N := N_all_of) (sc := (defScope (top 13))) (by decide +kernel)) (by decide) (di_seq (de_call (G_of_banks.mono (by decide)) (takes_of rfl rfl rfl rfl) hr rfl gx_of_banks kp_of_banks bn_of_banks (da_cons (de_v (de_var 0)) da_nil) (fl_cons fl_nil))) (fun _ _ _ _ _ => (dgf_name (i := 1) sc_all_of.nd rfl (by first | exact Or.inl rfl | exact Or.inr rfl))) (fun _ _ _ _ _ => dts_nil) (fun _ _ _ _ _ => (de_b1 call_len una_len rfl fx.b_len (by decide +kernel) (de_var 1)))))))
theorem ok_balances_behind (fx : Fx K mg) {fd_balances_behind : FuncData} (F_balances_behind : FnD K "balances_behind" 14 fd_balances_behind) {fd_of_banks : FuncData} (F_of_banks : FnD K "of_banks" 12 fd_of_banks) (G_of_banks : OkF P w K mg base 1 "of_banks" fd_of_banks P_of_banks m_of_banks) {fd_paid : FuncData} (F_paid : FnD K "paid" 8 fd_paid) (G_paid : OkF P w K mg base 1 "paid" fd_paid P_paid m_paid) : OkF P w K mg base 2 "balances_behind" fd_balances_behind P_balances_behind m_balances_behind := by
  have gx_of_banks := fx.g_of_banks
  have kp_of_banks := F_of_banks.kp
  have bn_of_banks : Binds K fd_of_banks P_of_banks [] := F_of_banks.bindsN fun _ _ _ _ _ _ us hl => match us, hl with | [_], _ => rfl
  have gx_paid := fx.g_paid
  have kp_paid := F_paid.kp
  have bn_paid : Binds K fd_paid P_paid [] := F_paid.bindsN fun _ _ _ _ _ _ us hl => match us, hl with | [_, _], _ => rfl
  refine fn_def F_balances_behind sc_balances_behind fun cdv A outer s H E hr => ?_
  unfold fb_balances_behind
  exact (dss_cons (ds_set (i := 2) sc_balances_behind.nd rfl (by first | exact Or.inl rfl | exact Or.inr rfl) (de_ix ix_seq bin_ix (de_var 0) de_int))
    (dss_cons (ds_for (passes_of rfl) rfl (di_enum rfl fx.b_enumerate (de_call (G_of_banks.mono (by decide)) (takes_of rfl rfl rfl rfl) hr rfl gx_of_banks kp_of_banks bn_of_banks (da_cons (de_v (de_var 0)) da_nil) (fl_cons fl_nil))) (dgf_tup rfl (dgs_cons (dgf_name (i := 3) sc_balances_behind.nd rfl (by first | exact Or.inl rfl | exact Or.inr rfl)) (dgs_cons (dgf_name (i := 4) sc_balances_behind.nd rfl (by first | exact Or.inl rfl | exact Or.inr rfl)) dgs_nil))) (dss_one (ds_for (passes_of rfl) rfl (di_seq (de_sl (de_var 4) do_none (do_some (de_ix ix_seq bin_ix (de_var 1) (de_var 3))))) (dgf_name (i := 5) sc_balances_behind.nd rfl (by first | exact Or.inl rfl | exact Or.inr rfl)) (dss_one (ds_set (i := 2) sc_balances_behind.nd rfl (by first | exact Or.inl rfl | exact Or.inr rfl) (de_call (G_paid.mono (by decide)) (takes_of rfl rfl rfl rfl) hr rfl gx_paid kp_paid bn_paid (da_cons (de_v (de_var 2)) (da_cons (de_v (de_var 5)) da_nil)) (fl_cons (fl_cons fl_nil))))))))
    (dss_one (ds_ret (de_var 2)))))
theorem ok_is_number (fx : Fx K mg) {fd_is_number : FuncData} (F_is_number : FnD K "is_number" 1 fd_is_number) : OkF P w K mg base 1 "is_number" fd_is_number P_is_number m_is_number := by
  refine fn_def F_is_number sc_is_number fun cdv A outer s H E hr => ?_
  unfold fb_is_number
  exact (dss_one (ds_ret (de_and (de_isi rfl fx.b_isinstance (by decide +kernel) rfl fx.b_int (by decide +kernel) (de_var 0)) (de_and (de_not (de_isi rfl fx.b_isinstance (by decide +kernel) rfl fx.b_bool (by decide +kernel) (de_var 0))) (de_one (de_chain op_leAll bin_le op_leAll bin_le (de_var 1) (de_var 0) (de_var 2)))))))
theorem ok_is_batch (fx : Fx K mg) {fd_is_batch : FuncData} (F_is_batch : FnD K "is_batch" 15 fd_is_batch) {fd_all_of : FuncData} (F_all_of : FnD K "all_of" 13 fd_all_of) (G_all_of : OkF P w K mg base 2 "all_of" fd_all_of P_all_of m_all_of) {fd_balances_behind : FuncData} (F_balances_behind : FnD K "balances_behind" 14 fd_balances_behind) (G_balances_behind : OkF P w K mg base 2 "balances_behind" fd_balances_behind P_balances_behind m_balances_behind) {fd_is_number : FuncData} (F_is_number : FnD K "is_number" 1 fd_is_number) (G_is_number : OkF P w K mg base 1 "is_number" fd_is_number P_is_number m_is_number) (tb : GxR.TabB base mg (He.codeOf K ("is_batch", none)) (He.tabOf K (He.codeOf K ("is_batch", none)))) (tm : He.tabOf K (He.codeOf K ("is_batch", none)) ∈ tabsI) : OkF P w K mg base 5 "is_batch" fd_is_batch P_is_batch m_is_batch := by
  have gx_all_of := fx.g_all_of
  have kp_all_of := F_all_of.kp
  have bn_all_of : Binds K fd_all_of P_all_of [] := F_all_of.bindsN fun _ _ _ _ _ _ us hl => match us, hl with | [_], _ => rfl
  have gx_balances_behind := fx.g_balances_behind
  have kp_balances_behind := F_balances_behind.kp
  have bn_balances_behind : Binds K fd_balances_behind P_balances_behind [] := F_balances_behind.bindsN fun _ _ _ _ _ _ us hl => match us, hl with | [_, _], _ => rfl
  have gx_is_number := fx.g_is_number
  have kp_is_number := F_is_number.kp
  have bn_is_number : Binds K fd_is_number P_is_number [] := F_is_number.bindsN fun _ _ _ _ _ _ us hl => match us, hl with | [_, _, _], _ => rfl
  refine fn_defT F_is_batch sc_is_batch fun A outer s H E hr => ?_
  unfold fb_is_batch
  exact (dss_cons (ds_set (i := 2) sc_is_batch.nd rfl (by first | exact Or.inl rfl | exact Or.inr rfl) (de_call (G_all_of.mono (by decide)) (takes_of rfl rfl rfl rfl) hr rfl gx_all_of kp_all_of bn_all_of (da_cons (de_v (de_var 0)) da_nil) (fl_cons fl_nil)))
    (dss_cons (ds_if (dt_w (dw_or (dt_not (dt_v (de_isi rfl fx.b_isinstance (by decide +kernel) rfl fx.b_tuple (by decide +kernel) (de_var 1)))) (dw_or1 (dt_cmp (op_neU (hu_of hr)) bin_ne (de_b1 call_len una_len rfl fx.b_len (by decide +kernel) (de_var 1)) (de_b1 call_len una_len rfl fx.b_len (by decide +kernel) (de_var 2)))))) (dss_one (ds_ret de_bl)) dss_nil)
    (dss_cons (ds_if (dt_not (dt_v (de_all (N := Ng_is_batch_1) (src := [none, none]) (T := (.tp [(.nm 0), (.nm 1)])) hr rfl rfl fx.b_all (by decide +kernel) tb tm rfl (genOk_by (XN := N_is_batch) (sc := (defScope (top 15))) (N := Ng_is_batch_1) (src := [none, none]) (by decide +kernel)) (di_zip rfl fx.b_zip (de_var 1) (de_var 2)) (fun _ _ _ _ _ _ _ _ => (dgf_tup rfl (dgs_cons (dgf_name (i := 0) ndNg_is_batch_1 rfl (by first | exact Or.inl rfl | exact Or.inr rfl)) (dgs_cons (dgf_name (i := 1) ndNg_is_batch_1 rfl (by first | exact Or.inl rfl | exact Or.inr rfl)) dgs_nil)))) (fun _ _ _ _ _ _ _ _ => (de_call (G_is_number.mono (by decide)) takesF (room_gen (hr) _) rfl gx_is_number kp_is_number bn_is_number (da_cons (de_v (de_var 0)) (da_cons (de_v de_int) (da_cons (de_v (de_var 1)) da_nil))) (fl_cons (fl_cons (fl_cons fl_nil)))))))) (dss_one (ds_ret de_bl)) dss_nil)
    (dss_one (ds_ret (de_cmp op_ge bin_ge (de_b1 (cr_minA rfl) una_minA rfl fx.b_min (by decide +kernel) (de_call (G_balances_behind.mono (by decide)) (takes_of rfl rfl rfl rfl) hr rfl gx_balances_behind kp_balances_behind bn_balances_behind (da_cons (de_v (de_var 0)) (da_cons (de_v (de_var 1)) da_nil)) (fl_cons (fl_cons fl_nil)))) de_int))))))
theorem ok_is_enough (fx : Fx K mg) {fd_is_enough : FuncData} (F_is_enough : FnD K "is_enough" 20 fd_is_enough) {fd_all_of : FuncData} (F_all_of : FnD K "all_of" 13 fd_all_of) (G_all_of : OkF P w K mg base 2 "all_of" fd_all_of P_all_of m_all_of) {fd_helped : FuncData} (F_helped : FnD K "helped" 19 fd_helped) (G_helped : OkF P w K mg base 1 "helped" fd_helped P_helped m_helped) {fd_is_batch : FuncData} (F_is_batch : FnD K "is_batch" 15 fd_is_batch) (G_is_batch : OkF P w K mg base 5 "is_batch" fd_is_batch P_is_batch m_is_batch) : OkF P w K mg base 6 "is_enough" fd_is_enough P_is_enough m_is_enough := by
  have gx_all_of := fx.g_all_of
  have kp_all_of := F_all_of.kp
  have bn_all_of : Binds K fd_all_of P_all_of [] := F_all_of.bindsN fun _ _ _ _ _ _ us hl => match us, hl with | [_], _ => rfl
  have gx_helped := fx.g_helped
  have kp_helped := F_helped.kp
  have bn_helped : Binds K fd_helped P_helped [] := F_helped.bindsN fun _ _ _ _ _ _ us hl => match us, hl with | [_, _], _ => rfl
  have gx_is_batch := fx.g_is_batch
  have kp_is_batch := F_is_batch.kp
  have bn_is_batch : Binds K fd_is_batch P_is_batch [] := F_is_batch.bindsN fun _ _ _ _ _ _ us hl => match us, hl with | [_, _], _ => rfl
  refine fn_def F_is_enough sc_is_enough fun cdv A outer s H E hr => ?_
  unfold fb_is_enough
  exact (dss_one (ds_ret (de_call (G_is_batch.mono (by decide)) (takes_of rfl rfl rfl rfl) hr rfl gx_is_batch kp_is_batch bn_is_batch (da_cons (de_v (de_call (G_helped.mono (by decide)) (takes_of rfl rfl rfl rfl) hr rfl gx_helped kp_helped bn_helped (da_cons (de_v (de_var 0)) (da_cons (de_v (de_var 1)) da_nil)) (fl_cons (fl_cons fl_nil)))) (da_cons (de_v (de_call (G_all_of.mono (by decide)) (takes_of rfl rfl rfl rfl) hr rfl gx_all_of kp_all_of bn_all_of (da_cons (de_v (de_var 0)) da_nil) (fl_cons fl_nil))) da_nil)) (fl_cons (fl_cons fl_nil)))))
theorem ok_least_help (fx : Fx K mg) {fd_least_help : FuncData} (F_least_help : FnD K "least_help" 17 fd_least_help) {fd_all_of : FuncData} (F_all_of : FnD K "all_of" 13 fd_all_of) (G_all_of : OkF P w K mg base 2 "all_of" fd_all_of P_all_of m_all_of) {fd_balances_behind : FuncData} (F_balances_behind : FnD K "balances_behind" 14 fd_balances_behind) (G_balances_behind : OkF P w K mg base 2 "balances_behind" fd_balances_behind P_balances_behind m_balances_behind) : OkF P w K mg base 3 "least_help" fd_least_help P_least_help m_least_help := by
  have gx_all_of := fx.g_all_of
  have kp_all_of := F_all_of.kp
  have bn_all_of : Binds K fd_all_of P_all_of [] := F_all_of.bindsN fun _ _ _ _ _ _ us hl => match us, hl with | [_], _ => rfl
  have gx_balances_behind := fx.g_balances_behind
  have kp_balances_behind := F_balances_behind.kp
  have bn_balances_behind : Binds K fd_balances_behind P_balances_behind [] := F_balances_behind.bindsN fun _ _ _ _ _ _ us hl => match us, hl with | [_, _], _ => rfl
  refine fn_def F_least_help sc_least_help fun cdv A outer s H E hr => ?_
  unfold fb_least_help
  exact (dss_one (ds_ret (de_t1 call_tuple_of una_tuple rfl fx.b_tuple (by decide +kernel) (de_lc (own := [("one", 1)]) rfl sc_least_help.nd (blkOk_by (own := [("one", 1)]) (N := N_least_help) (sc := (defScope (top 17))) (by decide +kernel)) (by decide) (di_seq (de_call (G_balances_behind.mono (by decide)) (takes_of rfl rfl rfl rfl) hr rfl gx_balances_behind kp_balances_behind bn_balances_behind (da_cons (de_v (de_var 0)) (da_cons (de_v (de_call (G_all_of.mono (by decide)) (takes_of rfl rfl rfl rfl) hr rfl gx_all_of kp_all_of bn_all_of (da_cons (de_v (de_var 0)) da_nil) (fl_cons fl_nil))) da_nil)) (fl_cons (fl_cons fl_nil)))) (fun _ _ _ _ _ => (dgf_name (i := 1) sc_least_help.nd rfl (by first | exact Or.inl rfl | exact Or.inr rfl))) (fun _ _ _ _ _ => dts_nil) (fun _ _ _ _ _ => (de_b2 (call_max2 rfl) bin_max rfl fx.b_max (by decide +kernel) de_int (de_un un_neg una_neg (de_var 1))))))))
theorem ok_row_help (fx : Fx K mg) {fd_row_help : FuncData} (F_row_help : FnD K "row_help" 18 fd_row_help) {fd_paid : FuncData} (F_paid : FnD K "paid" 8 fd_paid) (G_paid : OkF P w K mg base 1 "paid" fd_paid P_paid m_paid) : OkF P w K mg base 2 "row_help" fd_row_help P_row_help m_row_help := by
  have gx_paid := fx.g_paid
  have kp_paid := F_paid.kp
  have bn_paid : Binds K fd_paid P_paid [] := F_paid.bindsN fun _ _ _ _ _ _ us hl => match us, hl with | [_, _], _ => rfl
  refine fn_def F_row_help sc_row_help fun cdv A outer s H E hr => ?_
  unfold fb_row_help
  exact (dss_cons (ds_setLc (own := [("one", 2)]) (i := 1) rfl sc_row_help.nd rfl rfl (blkOk_by (own := [("one", 2)]) (N := N_row_help) (sc := (defScope (top 18))) (by decide +kernel)) (by decide) (di_seq (de_ix ix_seq bin_ix (de_var 0) de_int)) (fun _ _ _ _ _ => (dgf_name (i := 2) sc_row_help.nd rfl (by first | exact Or.inl rfl | exact Or.inr rfl))) (fun _ _ _ _ _ => dts_nil) (fun _ _ _ _ _ => de_int) (sw_true rfl rfl rfl (by decide +kernel)))
    (dss_cons (ds_set (i := 3) sc_row_help.nd rfl (by first | exact Or.inl rfl | exact Or.inr rfl) (de_ix ix_seq bin_ix (de_var 0) de_int))
    (dss_cons (ds_for (passes_of rfl) rfl (di_seq (de_ix ix_seq bin_ix (de_var 0) de_int)) (dgf_name (i := 4) sc_row_help.nd rfl (by first | exact Or.inl rfl | exact Or.inr rfl)) (dss_cons (ds_set (i := 3) sc_row_help.nd rfl (by first | exact Or.inl rfl | exact Or.inr rfl) (de_call (G_paid.mono (by decide)) (takes_of rfl rfl rfl rfl) hr rfl gx_paid kp_paid bn_paid (da_cons (de_v (de_var 3)) (da_cons (de_v (de_var 4)) da_nil)) (fl_cons (fl_cons fl_nil))))
    (dss_one (ds_setLc (own := [("one", 2), ("balance", 5)]) (i := 1) rfl sc_row_help.nd rfl rfl (blkOk_by (own := [("one", 2), ("balance", 5)]) (N := N_row_help) (sc := (defScope (top 18))) (by decide +kernel)) (by decide) (di_zip rfl fx.b_zip (de_var 1) (de_var 3)) (fun _ _ _ _ _ => (dgf_tup rfl (dgs_cons (dgf_name (i := 2) sc_row_help.nd rfl (by first | exact Or.inl rfl | exact Or.inr rfl)) (dgs_cons (dgf_name (i := 5) sc_row_help.nd rfl (by first | exact Or.inl rfl | exact Or.inr rfl)) dgs_nil)))) (fun _ _ _ _ _ => dts_nil) (fun _ _ _ _ _ => (de_b2 (call_max2 rfl) bin_max rfl fx.b_max (by decide +kernel) (de_var 2) (de_un un_neg una_neg (de_var 5)))) (sw_true rfl rfl rfl (by decide +kernel))))))
    (dss_one (ds_ret (de_t1 call_tuple_of una_tuple rfl fx.b_tuple (by decide +kernel) (de_var 1)))))))
theorem ok_law (fx : Fx K mg) {fd_law : FuncData} (F_law : FnD K "law" 34 fd_law) {fd__law_all : FuncData} (F__law_all : FnD K "_law_all" 33 fd__law_all) (G__law_all : OkF P w K mg base 2 "_law_all" fd__law_all P__law_all m__law_all) {fd__law_draw : FuncData} (F__law_draw : FnD K "_law_draw" 25 fd__law_draw) (G__law_draw : OkF P w K mg base 2 "_law_draw" fd__law_draw P__law_draw m__law_draw) {fd__law_open : FuncData} (F__law_open : FnD K "_law_open" 23 fd__law_open) (G__law_open : OkF P w K mg base 1 "_law_open" fd__law_open P__law_open m__law_open) {fd__law_paid : FuncData} (F__law_paid : FnD K "_law_paid" 29 fd__law_paid) (G__law_paid : OkF P w K mg base 1 "_law_paid" fd__law_paid P__law_paid m__law_paid) {fd__law_rest : FuncData} (F__law_rest : FnD K "_law_rest" 31 fd__law_rest) (G__law_rest : OkF P w K mg base 2 "_law_rest" fd__law_rest P__law_rest m__law_rest) {fd__law_same : FuncData} (F__law_same : FnD K "_law_same" 27 fd__law_same) (G__law_same : OkF P w K mg base 1 "_law_same" fd__law_same P__law_same m__law_same) {fd__law_state : FuncData} (F__law_state : FnD K "_law_state" 28 fd__law_state) (G__law_state : OkF P w K mg base 3 "_law_state" fd__law_state P__law_state m__law_state) {fd__law_with : FuncData} (F__law_with : FnD K "_law_with" 32 fd__law_with) (G__law_with : OkF P w K mg base 1 "_law_with" fd__law_with P__law_with m__law_with) {fd_comes_through : FuncData} (F_comes_through : FnD K "comes_through" 21 fd_comes_through) (G_comes_through : OkF P w K mg base 5 "comes_through" fd_comes_through P_comes_through m_comes_through) {fd_is_enough : FuncData} (F_is_enough : FnD K "is_enough" 20 fd_is_enough) (G_is_enough : OkF P w K mg base 6 "is_enough" fd_is_enough P_is_enough m_is_enough) {fd_least_help : FuncData} (F_least_help : FnD K "least_help" 17 fd_least_help) (G_least_help : OkF P w K mg base 3 "least_help" fd_least_help P_least_help m_least_help) {fd_row_help : FuncData} (F_row_help : FnD K "row_help" 18 fd_row_help) (G_row_help : OkF P w K mg base 2 "row_help" fd_row_help P_row_help m_row_help) : OkF P w K mg base 7 "law" fd_law P_law m_law := by
  have gx__law_all := fx.g__law_all
  have kp__law_all := F__law_all.kp
  have bn__law_all : Binds K fd__law_all P__law_all [] := F__law_all.bindsN fun _ _ _ _ _ _ us hl => match us, hl with | [_], _ => rfl
  have gx__law_draw := fx.g__law_draw
  have kp__law_draw := F__law_draw.kp
  have bn__law_draw : Binds K fd__law_draw P__law_draw [] := F__law_draw.bindsN fun _ _ _ _ _ _ us hl => match us, hl with | [_, _], _ => rfl
  have gx__law_open := fx.g__law_open
  have kp__law_open := F__law_open.kp
  have bn__law_open : Binds K fd__law_open P__law_open [] := F__law_open.bindsN fun _ _ _ _ _ _ us hl => match us, hl with | [_], _ => rfl
  have gx__law_paid := fx.g__law_paid
  have kp__law_paid := F__law_paid.kp
  have bn__law_paid : Binds K fd__law_paid P__law_paid [] := F__law_paid.bindsN fun _ _ _ _ _ _ us hl => match us, hl with | [_, _], _ => rfl
  have gx__law_rest := fx.g__law_rest
  have kp__law_rest := F__law_rest.kp
  have bn__law_rest : Binds K fd__law_rest P__law_rest [] := F__law_rest.bindsN fun _ _ _ _ _ _ us hl => match us, hl with | [_, _], _ => rfl
  have gx__law_same := fx.g__law_same
  have kp__law_same := F__law_same.kp
  have bn__law_same : Binds K fd__law_same P__law_same [] := F__law_same.bindsN fun _ _ _ _ _ _ us hl => match us, hl with | [_, _], _ => rfl
  have gx__law_state := fx.g__law_state
  have kp__law_state := F__law_state.kp
  have bn__law_state : Binds K fd__law_state P__law_state [] := F__law_state.bindsN fun _ _ _ _ _ _ us hl => match us, hl with | [_, _], _ => rfl
  have gx__law_with := fx.g__law_with
  have kp__law_with := F__law_with.kp
  have bn__law_with : Binds K fd__law_with P__law_with [] := F__law_with.bindsN fun _ _ _ _ _ _ us hl => match us, hl with | [_, _], _ => rfl
  have gx_comes_through := fx.g_comes_through
  have kp_comes_through := F_comes_through.kp
  have bn_comes_through : Binds K fd_comes_through P_comes_through [] := F_comes_through.bindsN fun _ _ _ _ _ _ us hl => match us, hl with | [_, _], _ => rfl
  have gx_is_enough := fx.g_is_enough
  have kp_is_enough := F_is_enough.kp
  have bn_is_enough : Binds K fd_is_enough P_is_enough [] := F_is_enough.bindsN fun _ _ _ _ _ _ us hl => match us, hl with | [_, _], _ => rfl
  have gx_least_help := fx.g_least_help
  have kp_least_help := F_least_help.kp
  have bn_least_help : Binds K fd_least_help P_least_help [] := F_least_help.bindsN fun _ _ _ _ _ _ us hl => match us, hl with | [_], _ => rfl
  have gx_row_help := fx.g_row_help
  have kp_row_help := F_row_help.kp
  have bn_row_help : Binds K fd_row_help P_row_help [] := F_row_help.bindsN fun _ _ _ _ _ _ us hl => match us, hl with | [_], _ => rfl
  refine fn_def F_law sc_law fun cdv A outer s H E hr => ?_
  unfold fb_law
  exact (dss_cons (ds_set (i := 1) sc_law.nd rfl (by first | exact Or.inl rfl | exact Or.inr rfl) (de_call (G__law_open.mono (by decide)) (takes_of rfl rfl rfl rfl) hr rfl gx__law_open kp__law_open bn__law_open (da_cons (de_v (de_var 0)) da_nil) (fl_cons fl_nil)))
    (dss_cons (ds_set (i := 2) sc_law.nd rfl (by first | exact Or.inl rfl | exact Or.inr rfl) (de_call (G__law_state.mono (by decide)) (takes_of rfl rfl rfl rfl) hr rfl gx__law_state kp__law_state bn__law_state (da_cons (de_o (de_var 1)) (da_cons (de_v de_int) da_nil)) (fl_cons (fl_cons fl_nil))))
    (dss_cons (ds_set (i := 3) sc_law.nd rfl (by first | exact Or.inl rfl | exact Or.inr rfl) (de_b1 call_len una_len rfl fx.b_len (by decide +kernel) (de_ix ix_seq bin_ix (de_var 2) de_int)))
    (dss_cons (ds_set (i := 4) sc_law.nd rfl (by first | exact Or.inl rfl | exact Or.inr rfl) (de_t1 call_tuple_of una_tuple rfl fx.b_tuple (by decide +kernel) (de_lc (own := [("one", 5)]) rfl sc_law.nd (blkOk_by (own := [("one", 5)]) (N := N_law) (sc := (defScope (top 34))) (by decide +kernel)) (by decide) (di_seq (de_call (G__law_all.mono (by decide)) (takes_of rfl rfl rfl rfl) hr rfl gx__law_all kp__law_all bn__law_all (da_cons (de_v (de_var 2)) da_nil) (fl_cons fl_nil))) (fun _ _ _ _ _ => (dgf_name (i := 5) sc_law.nd rfl (by first | exact Or.inl rfl | exact Or.inr rfl))) (fun _ _ _ _ _ => dts_nil) (fun _ _ _ _ _ => (de_b2 (call_max2 rfl) bin_max rfl fx.b_max (by decide +kernel) de_int (de_un un_neg una_neg (de_var 5)))))))
    (dss_cons (ds_unp (de_tup (da_cons (de_v (de_rep (de_lst (da_cons (de_v de_int) da_nil)) (de_var 3))) (da_cons (de_v (de_ix ix_seq bin_ix (de_var 2) de_int)) da_nil))) (dg_tup rfl (dgs_cons (dgf_name (i := 6) sc_law.nd rfl (by first | exact Or.inl rfl | exact Or.inr rfl)) (dgs_cons (dgf_name (i := 7) sc_law.nd rfl (by first | exact Or.inl rfl | exact Or.inr rfl)) dgs_nil))))
    (dss_cons (ds_for (passes_of rfl) rfl (di_seq (de_ix ix_seq bin_ix (de_var 2) de_int)) (dgf_name (i := 8) sc_law.nd rfl (by first | exact Or.inl rfl | exact Or.inr rfl)) (dss_cons (ds_set (i := 7) sc_law.nd rfl (by first | exact Or.inl rfl | exact Or.inr rfl) (de_call (G__law_paid.mono (by decide)) (takes_of rfl rfl rfl rfl) hr rfl gx__law_paid kp__law_paid bn__law_paid (da_cons (de_v (de_var 7)) (da_cons (de_v (de_var 8)) da_nil)) (fl_cons (fl_cons fl_nil))))
    (dss_one (ds_set (i := 6) sc_law.nd rfl (by first | exact Or.inl rfl | exact Or.inr rfl) (de_lc (own := [("k", 9)]) rfl sc_law.nd (blkOk_by (own := [("k", 9)]) (N := N_law) (sc := (defScope (top 34))) (by decide +kernel)) (by decide) (di_range1 rfl fx.b_range (de_var 3)) (fun _ _ _ _ _ => (dgf_name (i := 9) sc_law.nd rfl (by first | exact Or.inl rfl | exact Or.inr rfl))) (fun _ _ _ _ _ => dts_nil) (fun _ _ _ _ _ => (de_b2 (call_max2 rfl) bin_max rfl fx.b_max (by decide +kernel) (de_ix ix_seq bin_ix (de_var 6) (de_var 9)) (de_un un_neg una_neg (de_ix ix_seq bin_ix (de_var 7) (de_var 9))))))))))
    (dss_cons (ds_unp (de_tup (da_cons (de_v (de_call (G_least_help.mono (by decide)) (takes_of rfl rfl rfl rfl) hr rfl gx_least_help kp_least_help bn_least_help (da_cons (de_v (de_var 2)) da_nil) (fl_cons fl_nil))) (da_cons (de_v (de_call (G_row_help.mono (by decide)) (takes_of rfl rfl rfl rfl) hr rfl gx_row_help kp_row_help bn_row_help (da_cons (de_v (de_var 2)) da_nil) (fl_cons fl_nil))) da_nil))) (dg_tup rfl (dgs_cons (dgf_name (i := 10) sc_law.nd rfl (by first | exact Or.inl rfl | exact Or.inr rfl)) (dgs_cons (dgf_name (i := 11) sc_law.nd rfl (by first | exact Or.inl rfl | exact Or.inr rfl)) dgs_nil))))
    (dss_cons (ds_if (dt_w (dw_or (dt_cmp (op_neU (hu_of hr)) bin_ne (de_var 10) (de_var 4)) (dw_or (dt_cmp (op_neU (hu_of hr)) bin_ne (de_var 11) (de_t1 call_tuple_of una_tuple rfl fx.b_tuple (by decide +kernel) (de_var 6))) (dw_or (dt_cmp (op_neU (hu_of hr)) bin_ne (de_lc (own := [("k", 9)]) rfl sc_law.nd (blkOk_by (own := [("k", 9)]) (N := N_law) (sc := (defScope (top 34))) (by decide +kernel)) (by decide) (di_range1 rfl fx.b_range (de_var 3)) (fun _ _ _ _ _ => (dgf_name (i := 9) sc_law.nd rfl (by first | exact Or.inl rfl | exact Or.inr rfl))) (fun _ _ _ _ _ => (dts_one (dt_cmp (op_ltAll (hu_of hr)) bin_lt (de_ix ix_seq bin_ix (de_var 11) (de_var 9)) (de_ix ix_seq bin_ix (de_var 10) (de_var 9))))) (fun _ _ _ _ _ => (de_var 9))) (de_lst da_nil)) (dw_or (dt_cmp op_isNotAll bin_isNot (de_call (G_is_enough.mono (by decide)) (takes_of rfl rfl rfl rfl) hr rfl gx_is_enough kp_is_enough bn_is_enough (da_cons (de_v (de_var 2)) (da_cons (de_v (de_var 10)) da_nil)) (fl_cons (fl_cons fl_nil))) de_bl) (dw_or1 (dt_cmp op_isNotAll bin_isNot (de_call (G_comes_through.mono (by decide)) (takes_of rfl rfl rfl rfl) hr rfl gx_comes_through kp_comes_through bn_comes_through (da_cons (de_v (de_var 2)) (da_cons (de_v (de_var 11)) da_nil)) (fl_cons (fl_cons fl_nil))) de_bl))))))) (dss_one (ds_ret de_bl)) dss_nil)
    (dss_cons (ds_set (i := 12) sc_law.nd rfl (by first | exact Or.inl rfl | exact Or.inr rfl) (de_lst (da_cons (de_v (de_var 10)) (da_cons (de_v (de_var 11)) (da_cons (de_v (de_op op_mulAll bin_mul (de_tup (da_cons (de_v de_int) da_nil)) (de_var 3))) (da_cons (de_v (de_t1 call_tuple_of una_tuple rfl fx.b_tuple (by decide +kernel) (de_lc (own := [("one", 5)]) rfl sc_law.nd (blkOk_by (own := [("one", 5)]) (N := N_law) (sc := (defScope (top 34))) (by decide +kernel)) (by decide) (di_seq (de_var 10)) (fun _ _ _ _ _ => (dgf_name (i := 5) sc_law.nd rfl (by first | exact Or.inl rfl | exact Or.inr rfl))) (fun _ _ _ _ _ => dts_nil) (fun _ _ _ _ _ => (de_op op_addAll bin_add (de_var 5) de_int))))) (da_cons (de_v (de_t1 call_tuple_of una_tuple rfl fx.b_tuple (by decide +kernel) (de_lc (own := [("one", 5)]) rfl sc_law.nd (blkOk_by (own := [("one", 5)]) (N := N_law) (sc := (defScope (top 34))) (by decide +kernel)) (by decide) (di_seq (de_var 10)) (fun _ _ _ _ _ => (dgf_name (i := 5) sc_law.nd rfl (by first | exact Or.inl rfl | exact Or.inr rfl))) (fun _ _ _ _ _ => dts_nil) (fun _ _ _ _ _ => (de_b2 (call_max2 rfl) bin_max rfl fx.b_max (by decide +kernel) de_int (de_op op_sub bin_sub (de_var 5) de_int)))))) (da_cons (de_v (de_t1 call_tuple_of una_tuple rfl fx.b_tuple (by decide +kernel) (de_lc (own := [("one", 5)]) rfl sc_law.nd (blkOk_by (own := [("one", 5)]) (N := N_law) (sc := (defScope (top 34))) (by decide +kernel)) (by decide) (di_seq (de_var 11)) (fun _ _ _ _ _ => (dgf_name (i := 5) sc_law.nd rfl (by first | exact Or.inl rfl | exact Or.inr rfl))) (fun _ _ _ _ _ => dts_nil) (fun _ _ _ _ _ => (de_b2 (call_max2 rfl) bin_max rfl fx.b_max (by decide +kernel) de_int (de_op op_sub bin_sub (de_var 5) de_int)))))) da_nil))))))))
    (dss_cons (ds_for (passes_of rfl) rfl (di_range1 rfl fx.b_range de_int) (dgf_name (i := 13) sc_law.nd rfl (by first | exact Or.inl rfl | exact Or.inr rfl)) (dss_cons (ds_set (i := 9) sc_law.nd rfl (by first | exact Or.inl rfl | exact Or.inr rfl) (de_call (G__law_draw.mono (by decide)) (takes_of rfl rfl rfl rfl) hr rfl gx__law_draw kp__law_draw bn__law_draw (da_cons (de_o (de_var 1)) (da_cons (de_v (de_var 3)) da_nil)) (fl_cons (fl_cons fl_nil))))
    (dss_cons (ds_expr (de_append (de_var 12) (de_t1 call_tuple_of una_tuple rfl fx.b_tuple (by decide +kernel) (de_lc (own := [("bank", 14)]) rfl sc_law.nd (blkOk_by (own := [("bank", 14)]) (N := N_law) (sc := (defScope (top 34))) (by decide +kernel)) (by decide) (di_range1 rfl fx.b_range (de_var 3)) (fun _ _ _ _ _ => (dgf_name (i := 14) sc_law.nd rfl (by first | exact Or.inl rfl | exact Or.inr rfl))) (fun _ _ _ _ _ => dts_nil) (fun _ _ _ _ _ => (de_call (G__law_draw.mono (by decide)) takesF hr rfl gx__law_draw kp__law_draw bn__law_draw (da_cons (de_o (de_var 1)) (da_cons (de_v de_int) da_nil)) (fl_cons (fl_cons fl_nil))))))))
    (dss_one (ds_expr (de_append (de_var 12) (de_op op_addAll bin_add (de_op op_addAll bin_add (de_sl (de_var 10) do_none (do_some (de_var 9))) (de_tup (da_cons (de_v (de_b2 (call_max2 rfl) bin_max rfl fx.b_max (by decide +kernel) de_int (de_op op_sub bin_sub (de_ix ix_seq bin_ix (de_var 10) (de_var 9)) de_int))) da_nil))) (de_sl (de_var 10) (do_some (de_op op_addAll bin_add (de_var 9) de_int)) do_none))))))))
    (dss_cons (ds_for (passes_of rfl) rfl (di_seq (de_var 12)) (dgf_name (i := 5) sc_law.nd rfl (by first | exact Or.inl rfl | exact Or.inr rfl)) (dss_cons (ds_set (i := 15) sc_law.nd rfl (by first | exact Or.inl rfl | exact Or.inr rfl) (de_cmp op_ge bin_ge (de_b1 (cr_minA rfl) una_minA rfl fx.b_min (by decide +kernel) (de_call (G__law_all.mono (by decide)) (takes_of rfl rfl rfl rfl) hr rfl gx__law_all kp__law_all bn__law_all (da_cons (de_v (de_call (G__law_with.mono (by decide)) (takes_of rfl rfl rfl rfl) hr rfl gx__law_with kp__law_with bn__law_with (da_cons (de_v (de_var 2)) (da_cons (de_v (de_var 5)) da_nil)) (fl_cons (fl_cons fl_nil)))) da_nil) (fl_cons fl_nil))) de_int))
    (dss_cons (ds_if (dt_w (dw_or (dt_not (dt_v (de_call (G__law_same.mono (by decide)) (takes_of rfl rfl rfl rfl) hr rfl gx__law_same kp__law_same bn__law_same (da_cons (de_v (de_call (G_is_enough.mono (by decide)) (takes_of rfl rfl rfl rfl) hr rfl gx_is_enough kp_is_enough bn_is_enough (da_cons (de_v (de_var 2)) (da_cons (de_v (de_var 5)) da_nil)) (fl_cons (fl_cons fl_nil)))) (da_cons (de_v (de_var 15)) da_nil)) (fl_cons (fl_cons fl_nil))))) (dw_or1 (dt_w (dw_and (dt_v (de_var 15)) (dw_and1 (dt_cmp (op_neU (hu_of hr)) bin_ne (de_lc (own := [("k", 9)]) rfl sc_law.nd (blkOk_by (own := [("k", 9)]) (N := N_law) (sc := (defScope (top 34))) (by decide +kernel)) (by decide) (di_range1 rfl fx.b_range (de_var 3)) (fun _ _ _ _ _ => (dgf_name (i := 9) sc_law.nd rfl (by first | exact Or.inl rfl | exact Or.inr rfl))) (fun _ _ _ _ _ => (dts_one (dt_cmp (op_ltAll (hu_of hr)) bin_lt (de_ix ix_seq bin_ix (de_var 5) (de_var 9)) (de_ix ix_seq bin_ix (de_var 10) (de_var 9))))) (fun _ _ _ _ _ => (de_var 9))) (de_lst da_nil)))))))) (dss_one (ds_ret de_bl)) dss_nil)
    (dss_one (ds_if (dt_w (dw_or (dt_not (dt_v (de_call (G__law_same.mono (by decide)) (takes_of rfl rfl rfl rfl) hr rfl gx__law_same kp__law_same bn__law_same (da_cons (de_v (de_call (G_comes_through.mono (by decide)) (takes_of rfl rfl rfl rfl) hr rfl gx_comes_through kp_comes_through bn_comes_through (da_cons (de_v (de_var 2)) (da_cons (de_v (de_var 5)) da_nil)) (fl_cons (fl_cons fl_nil)))) (da_cons (de_v (de_cmp (op_eqU (hu_of hr)) bin_eq (de_ix ix_seq bin_ix (de_call (G__law_rest.mono (by decide)) (takes_of rfl rfl rfl rfl) hr rfl gx__law_rest kp__law_rest bn__law_rest (da_cons (de_v (de_call (G__law_with.mono (by decide)) (takes_of rfl rfl rfl rfl) hr rfl gx__law_with kp__law_with bn__law_with (da_cons (de_v (de_var 2)) (da_cons (de_v (de_var 5)) da_nil)) (fl_cons (fl_cons fl_nil)))) (da_cons (de_v de_bl) da_nil)) (fl_cons (fl_cons fl_nil))) de_int) (de_tup da_nil))) da_nil)) (fl_cons (fl_cons fl_nil))))) (dw_or1 (dt_w (dw_and (dt_v (de_call (G_comes_through.mono (by decide)) (takes_of rfl rfl rfl rfl) hr rfl gx_comes_through kp_comes_through bn_comes_through (da_cons (de_v (de_var 2)) (da_cons (de_v (de_var 5)) da_nil)) (fl_cons (fl_cons fl_nil)))) (dw_and1 (dt_not (dt_v (de_var 15))))))))) (dss_one (ds_ret de_bl)) dss_nil)))))
    (dss_one (ds_ret de_bl)))))))))))))
end
end Zk48

namespace Zk48
open PySem PyProof.Rows L2 DL
/-! ### the data -/
abbrev Pay := Nat × Nat × Int
def eI (b : List Int) : PyData := .tuple (b.map .int)
def eP (x : Pay) : PyData := .tuple [.int (x.1 : Nat), .int (x.2.1 : Nat), .int x.2.2]
def eQ (q : List Pay) : PyData := .tuple (q.map eP)
def eS (b : List Int) (q : List Pay) : PyData := .tuple [eI b, eQ q]
def pd (b : List Int) (x : Pay) : List Int := (b.set x.1 (b.getD x.1 0 - x.2.2)).set x.2.1 ((b.set x.1 (b.getD x.1 0 - x.2.2)).getD x.2.1 0 + x.2.2)
theorem pd_len (b : List Int) (x : Pay) : (pd b x).length = b.length := by simp [pd]
def okP (n : Nat) (x : Pay) : Prop := x.1 < n ∧ x.2.1 < n
theorem kit1 : L2.kitB "int" "int" = some true := by decide +kernel
theorem kit2 : L2.kitB "int" "bool" = some false := by decide +kernel
theorem kit3 : L2.kitB "tuple" "tuple" = some true := by decide +kernel
theorem s_number (a b c : Int) : m_is_number [.fr (.int a), .fr (.int b), .fr (.int c)] = .ret (.val (.bool (decide (b ≤ a) && decide (a ≤ c)))) [.fr (.int a), .fr (.int b), .fr (.int c)] := by
  simp [m_is_number, fb_is_number, N_is_number, startE, gIsi, tyOf, kit1, kit2]
  by_cases h1 : b ≤ a <;> simp [h1]
theorem getD_get {b : List Int} {p : Nat} (h : p < b.length) : b.getD p 0 = b[p] := by simp [h]
theorem s_lpaid (b : List Int) (x : Pay) (h : okP b.length x) : m__law_paid [.fr (eI b), .fr (eP x)] = .ret (.val (eI (pd b x))) [.fr (eI b), .fr (eP x)] := by
  obtain ⟨p, g, a⟩ := x
  obtain ⟨hp, hg⟩ := h
  simp only at hp hg
  simp [m__law_paid, fb__law_paid, N__law_paid, startE, eI, eP, pd, atI_map, atN, ixN_nat, hp, hg, ← List.map_set]
theorem s_paid (b : List Int) (x : Pay) (h : okP b.length x) : m_paid [.fr (eI b), .fr (eP x)] = .ret (.val (eI (pd b x))) [.fr (eI b), .fr (eP x)] := by
  obtain ⟨p, g, a⟩ := x
  obtain ⟨hp, hg⟩ := h
  simp only at hp hg
  simp [m_paid, fb_paid, N_paid, startE, eI, eP, pd, atI_map, atN, ixN_nat, hp, hg, ← List.map_set]
def fin (b : List Int) (q : List Pay) : List Int := q.foldl pd b
theorem fin_len (b : List Int) (q : List Pay) : (fin b q).length = b.length := by
  induction q generalizing b with
  | nil => rfl
  | cons x q ih => show (fin (pd b x) q).length = _; rw [ih, pd_len]
theorem s_lall (b : List Int) (q : List Pay) (h : ∀ x ∈ q, okP b.length x) : m__law_all [.fr (eS b q)] = .ret (.val (eI (fin b q))) [.fr (eS b q)] := by
  obtain ⟨o', h1, h2⟩ := forL_fold (T := .nm 2) (s := sSet 1 (fCall m__law_paid (fCons (vv (fVar 1)) (fCons (vv (fVar 2)) fNil)))) (enc := eP) (fun (c : List Int) (o : Option Sl) => [some (.fr (eS b q)), some (.fr (eI c)), o]) pd (fun c => c.length = b.length) q b none rfl fun c o x hx hc =>
    ⟨some (.fr (eP x)), by simp [s_lpaid c x (by rw [hc]; exact h x hx)], by rw [pd_len]; exact hc⟩
  simp [m__law_all, fb__law_all, N__law_all, startE, eS, eQ] at h1 ⊢
  rw [h1]
  simp [fin]
end Zk48

namespace Zk48
open PySem PyProof.Rows L2 DL
/-! ### the first payments -/
def stepD (D : List (Nat × Nat)) (y : Pay × Nat) : List (Nat × Nat) := if (D.any fun z => z.1 == y.1.1) = true then D else D ++ [(y.1.1, y.2)]
def encD (D : List (Nat × Nat)) : List (PyData × PyData) := D.map fun z => (.int (z.1 : Nat), .int (z.2 : Nat))
def isFst (q : List Pay) (k : Nat) : Bool := !((q.take k).any fun y => y.1 == (q.getD k (0, 0, 0)).1)
def fsts (q : List Pay) : List Nat := (List.range q.length).filter (isFst q)
def accD (q : List Pay) : List (Nat × Nat) := q.zipIdx.foldl stepD []
theorem accD_snoc (q : List Pay) (x : Pay) : accD (q ++ [x]) = stepD (accD q) (x, q.length) := by
  unfold accD
  rw [List.zipIdx_append, List.foldl_append]
  simp
theorem fsts_snoc (q : List Pay) (x : Pay) : fsts (q ++ [x]) = fsts q ++ if (q.any fun y => y.1 == x.1) = true then [] else [q.length] := by
  unfold fsts
  rw [List.length_append, List.length_singleton, List.range_succ, List.filter_append]
  congr 1
  · apply List.filter_congr
    intro k hk
    have hk := List.mem_range.mp hk
    unfold isFst
    have e2 : (q ++ [x]).getD k (0, 0, 0) = q.getD k (0, 0, 0) := by
      rw [List.getD_eq_getElem?_getD, List.getD_eq_getElem?_getD, List.getElem?_append_left hk]
    rw [List.take_append_of_le_length (by omega), e2]
  · have e : isFst (q ++ [x]) q.length = !(q.any fun y => y.1 == x.1) := by
      unfold isFst
      rw [List.take_left]
      simp
    rw [List.filter_cons, e]
    cases (q.any fun y => y.1 == x.1) <;> rfl
theorem accD_ok (q : List Pay) : (∀ p, ((accD q).any fun z => z.1 == p) = q.any fun y => y.1 == p) ∧ (accD q).map (·.2) = fsts q := by
  induction q using snoc_ind with
  | h0 => exact ⟨fun p => rfl, rfl⟩
  | h1 q x ih =>
    obtain ⟨h1, h2⟩ := ih
    rw [accD_snoc, fsts_snoc]
    unfold stepD
    rw [h1]
    simp only
    cases h : q.any fun y => y.1 == x.1 with
    | true =>
      refine ⟨fun p => ?_, by simpa using h2⟩
      rw [if_pos rfl, h1, List.any_append]
      simp only [List.any_cons, List.any_nil, Bool.or_false]
      cases hp : x.1 == p with
      | false => rw [Bool.or_false]
      | true =>
        rw [beq_iff_eq] at hp
        rw [← hp, h]
        rfl
    | false =>
      refine ⟨fun p => ?_, ?_⟩
      · rw [if_neg Bool.false_ne_true, List.any_append, List.any_append, h1]
        rfl
      · rw [if_neg Bool.false_ne_true, List.map_append, h2]
        rfl
theorem fsts_ord (q : List Pay) : (fsts q).Pairwise (· ≤ ·) := by
  unfold fsts
  exact List.Pairwise.filter _ (List.pairwise_lt_range.imp fun h => Nat.le_of_lt h)
theorem dGet_enc (D : List (Nat × Nat)) (p : Nat) : if (D.any fun z => z.1 == p) = true then ∃ k : Nat, dGet (encD D) (.int (p : Nat)) = some (.int (k : Nat)) else dGet (encD D) (.int (p : Nat)) = none := by
  induction D with
  | nil => rfl
  | cons z D ih =>
    have e : dGet (encD (z :: D)) (.int (p : Nat)) = if DL.keyOf (.int (z.1 : Nat)) = DL.keyOf (.int (p : Nat)) then some (.int (z.2 : Nat)) else dGet (encD D) (.int (p : Nat)) := rfl
    rw [e, List.any_cons]
    by_cases h : z.1 = p
    · rw [if_pos (key_nat.mpr h), if_pos (by simp [h])]
      exact ⟨_, rfl⟩
    · rw [if_neg (fun q => h (key_nat.mp q))]
      have h2 : (z.1 == p) = false := by simpa using h
      rw [h2, Bool.false_or]
      exact ih
theorem allS_enc (D : List (Nat × Nat)) : allS (encD D) = true := by
  unfold allS encD
  rw [List.all_map]
  exact List.all_eq_true.mpr fun _ _ => rfl
def eN (l : List Nat) : List PyData := l.map fun n => .int (n : Nat)
theorem stepD_len (D : List (Nat × Nat)) (y : Pay × Nat) : (stepD D y).length ≤ D.length + 1 := by
  unfold stepD
  split <;> simp
abbrev mkF (q : List Pay) (D : List (Nat × Nat)) (o : Option Sl × Option Sl) : Ev := [some (.fr (eQ q)), some (.od false (encD D)), o.1, o.2]
theorem foldl_len (l : List (Pay × Nat)) : ∀ D, (l.foldl stepD D).length ≤ D.length + l.length := by
  induction l with
  | nil => intro D; exact Nat.le_refl _
  | cons y l ih =>
    intro D
    have := ih (stepD D y)
    have := stepD_len D y
    simp only [List.foldl_cons, List.length_cons]
    omega
theorem turnF (q : List Pay) (D : List (Nat × Nat)) (o : Option Sl × Option Sl) (y : Pay × Nat) (hl : D.length ≤ 5000) :
    turnS (.tp [(.nm 2), (.nm 3)]) (sDrop (fSetd (fVar 1) (f2 gIx (fVar 3) (fC (.int 0))) (fVar 2))) (.tuple [.int (y.2 : Nat), eP y.1]) (mkF q D o) = .nx (mkF q (stepD D y) (some (.fr (.int (y.2 : Nat))), some (.fr (eP y.1)))) := by
  obtain ⟨⟨p, g, a⟩, n⟩ := y
  have hlen : (encD D).length < sizeLine := by
    have : (encD D).length = D.length := by simp [encD]
    rw [this]
    exact lt_size (by omega)
  have h := setd_ok (fo := fVar 1) (fk := f2 gIx (fVar 3) (fC (.int 0))) (fv := fVar 2) (e := mkF q D (some (.fr (.int (n : Nat))), some (.fr (eP (p, g, a))))) (e1 := mkF q D (some (.fr (.int (n : Nat))), some (.fr (eP (p, g, a)))))
    (e2 := mkF q D (some (.fr (.int (n : Nat))), some (.fr (eP (p, g, a))))) (e3 := mkF q D (some (.fr (.int (n : Nat))), some (.fr (eP (p, g, a))))) (t := 1) (p0 := false) (p := false) (kvs0 := encD D) (kvs := encD D) (k := .int (p : Nat)) (v := .int (n : Nat))
    (by simp) rfl (allS_enc D) (by simp [eP]) rfl (by simp) rfl hlen (allS_enc D)
  have hg := dGet_enc D p
  have e1 : turnS (.tp [(.nm 2), (.nm 3)]) (sDrop (fSetd (fVar 1) (f2 gIx (fVar 3) (fC (.int 0))) (fVar 2))) (.tuple [.int (n : Nat), eP (p, g, a)]) (mkF q D o) = sDrop (fSetd (fVar 1) (f2 gIx (fVar 3) (fC (.int 0))) (fVar 2)) (mkF q D (some (.fr (.int (n : Nat))), some (.fr (eP (p, g, a))))) := by
    simp only [turnS_e, setT_t, setTs]
    simp
  rw [e1, sDrop_e, h]
  unfold stepD
  simp only
  by_cases hp : (D.any fun z => z.1 == p) = true
  · rw [if_pos hp] at hg ⊢
    obtain ⟨k, hk⟩ := hg
    rw [hk]
    simp
  · rw [if_neg hp] at hg ⊢
    rw [hg]
    simp [encD]
theorem zip_enc (q : List Pay) : ((q.map eP).zipIdx.map fun p => PyData.tuple [.int (p.2 : Nat), p.1]) = q.zipIdx.map fun y => PyData.tuple [.int (y.2 : Nat), eP y.1] := by
  rw [List.zipIdx_map, List.map_map]
  rfl
theorem s_firsts (q : List Pay) (hz : q.length ≤ 1000) : m_firsts [.fr (eQ q)] = .ret (.new (.ol false (eN (fsts q)))) [.fr (eQ q)] := by
  obtain ⟨o', h1⟩ := forL_pre (T := .tp [(.nm 2), (.nm 3)]) (s := sDrop (fSetd (fVar 1) (f2 gIx (fVar 3) (fC (.int 0))) (fVar 2))) (enc := fun y : Pay × Nat => PyData.tuple [.int (y.2 : Nat), eP y.1]) (mkF q) stepD q.zipIdx [] (fun pre x post o hx => ⟨_, turnF q _ o x (by
    have h1 := foldl_len pre []
    have h2 := congrArg List.length hx
    rw [List.length_zipIdx, List.length_append] at h2
    simp only [List.length_nil] at h1
    omega)⟩) (none, none)
  have hd : dVals (mkF q (accD q) o') 1 = some ((fsts q).map fun n : Nat => (n : Int)) := by
    unfold dVals
    have : dAt (mkF q (accD q) o') 1 = some (false, encD (accD q)) := rfl
    rw [this]
    simp only [Option.bind_some, allS_enc, if_true]
    have : (encD (accD q)).map (·.2) = ((fsts q).map fun n : Nat => (n : Int)).map PyData.int := by
      rw [← (accD_ok q).2]
      simp [encD]
    rw [this, intsOf_n]
  have hs := sortV_ok (fo := fVar 1) (e := mkF q (accD q) o') (e1 := mkF q (accD q) o') (t := 1) (by simp) hd
  rw [sort_nats (fsts_ord q)] at hs
  have h1 : forL (.tp [(.nm 2), (.nm 3)]) (sDrop (fSetd (fVar 1) (f2 gIx (fVar 3) (fC (.int 0))) (fVar 2))) ((q.map eP).zipIdx.map fun p => PyData.tuple [.int (p.2 : Nat), p.1]) (mkF q [] (none, none)) = .nx (mkF q (accD q) o') := by
    rw [zip_enc, h1]
    rfl
  have hm : mkF q [] (none, none) = [some (.fr (.tuple (q.map eP))), some (.od false []), none, none] := rfl
  rw [hm] at h1
  have hv : ∀ o' : Option Sl × Option Sl, (mkF q (accD q) o').length = 4 := fun _ => rfl
  simp [m_firsts, fb_firsts, N_firsts, startE, eQ, fDict0]
  rw [h1]
  simp only [seqK_n, sRet_e, hs]
  simp [eQ, eN]
end Zk48

namespace Zk48
open PySem PyProof.Rows L2 DL
/-! ### what can be settled -/
def at0 (q : List Pay) (k : Nat) : Pay := q.getD k (0, 0, 0)
def bal (b : List Int) (p : Nat) : Int := b.getD p 0
def fits (b : List Int) (q : List Pay) (k : Nat) : Bool := decide ((at0 q k).2.2 ≤ bal b (at0 q k).1)
def can (b : List Int) (q : List Pay) : List Nat := (fsts q).filter (fits b q)
theorem fsts_lt {q : List Pay} {k : Nat} (h : k ∈ fsts q) : k < q.length := List.mem_range.mp (List.mem_filter.mp h).1
theorem can_lt {b : List Int} {q : List Pay} {k : Nat} (h : k ∈ can b q) : k < q.length := fsts_lt (List.mem_filter.mp h).1
theorem at0_get {q : List Pay} {k : Nat} (h : k < q.length) : at0 q k = q[k] := by simp [at0, h]
theorem atI_q {q : List Pay} {k : Nat} (h : k < q.length) : atI (q.map eP) (k : Int) = some (eP (at0 q k)) := by
  rw [atI_map, atN h, at0_get h]
  rfl
theorem at0_mem {q : List Pay} {k : Nat} (h : k < q.length) : at0 q k ∈ q := by
  rw [at0_get h]
  exact List.getElem_mem h
theorem atI_b {b : List Int} {p : Nat} (h : p < b.length) : atI (b.map PyData.int) (p : Int) = some (.int (bal b p)) := by
  unfold bal
  rw [atI_map, atN h, getD_get h]
  rfl
theorem fsts_len (q : List Pay) : (fsts q).length ≤ q.length := by
  have := List.length_filter_le (isFst q) (List.range q.length)
  rw [List.length_range] at this
  exact this
theorem s_can (b : List Int) (q : List Pay) (h : ∀ x ∈ q, okP b.length x) (hz : q.length ≤ 1000) : m_can_settle [.fr (eS b q)] = .ret (.val (.tuple (eN (can b q)))) [.fr (eS b q)] := by
  have hl := lcL_enc (T := .nm 3) (vs := [3]) (enc := fun n : Nat => PyData.int (n : Nat)) (t := asB (f2 gGe (f2 gIx (fVar 1) (f2 gIx (f2 gIx (fVar 2) (fVar 3)) (fC (.int 0)))) (f2 gIx (f2 gIx (fVar 2) (fVar 3)) (fC (.int 2))))) (f := fVar 3)
    (fits b q) (fun n : Nat => PyData.int (n : Nat)) [some (.fr (eS b q)), some (.fr (eI b)), some (.fr (eQ q)), none] (fsts q) [] (le_size (by have := fsts_len q; simp only [List.length_nil]; omega)) fun k hk => by
      have h1 := fsts_lt hk
      have h2 := (h _ (at0_mem h1)).1
      simp [eQ, eI, eP, atI_q h1, atI_b h2]
      unfold fits
      by_cases hf : (at0 q k).2.2 ≤ bal b (at0 q k).1 <;> simp [hf]
  have hl' : lcL (.nm 3) [3] (asB (f2 gGe (f2 gIx (fVar 1) (f2 gIx (f2 gIx (fVar 2) (fVar 3)) (fC (.int 0)))) (f2 gIx (f2 gIx (fVar 2) (fVar 3)) (fC (.int 2))))) (fVar 3) (eN (fsts q)) [some (.fr (.tuple [eI b, eQ q])), some (.fr (eI b)), some (.fr (eQ q)), none] [] = .ok (eN (can b q)) [some (.fr (eS b q)), some (.fr (eI b)), some (.fr (eQ q)), none] := hl
  simp -implicitDefEqProofs [m_can_settle, fb_can_settle, N_can_settle, startE, eS, s_firsts q hz, hl']
/-! the law's own -/
theorem notIn_first (q : List Pay) (k : Nat) : gNotIn (.int ((at0 q k).1 : Nat)) (.list ((q.take k).map fun x => PyData.int (x.1 : Nat))) = some (.val (.bool (isFst q k))) := by
  have hn := gNotIn_ls (enc := fun n : Nat => PyData.int (n : Nat)) (n := 0) (fun _ => shp_i) (by omega) (fun _ _ => eqv_nat) (x := (at0 q k).1) (xs := (q.take k).map fun x => x.1)
  rw [List.map_map] at hn
  refine hn.trans ?_
  rw [List.any_map]
  rfl
abbrev lcanT : Ev → Out Bool := tAndB (asB (f2 gNotIn (f2 gIx (f2 gIx (fVar 2) (fVar 3)) (fC (.int 0))) (fLc (.nm 4) [4] (iSeq (fSl (fVar 2) fNo (fSome (fVar 3)))) tYesB (f2 gIx (fVar 4) (fC (.int 0)))))) (asB (f2 gGe (f2 gIx (fVar 1) (f2 gIx (f2 gIx (fVar 2) (fVar 3)) (fC (.int 0)))) (f2 gIx (f2 gIx (fVar 2) (fVar 3)) (fC (.int 2)))))
theorem lcan_turn (b : List Int) (q : List Pay) (h : ∀ x ∈ q, okP b.length x) (hz : q.length ≤ 1000) (S : Option Sl) (k : Nat) (h1 : k < q.length) :
    lcTurn (.nm 3) [3] lcanT (fVar 3) (.int (k : Nat)) [S, some (.fr (eI b)), some (.fr (eQ q)), none, none] = .ok (if (isFst q k && fits b q k) = true then some (.int (k : Nat)) else none) [S, some (.fr (eI b)), some (.fr (eQ q)), none, none] := by
  have hi : lcL (.nm 4) [4] tYesB (f2 gIx (fVar 4) (fC (.int 0))) ((q.take k).map eP) [S, some (.fr (eI b)), some (.fr (eQ q)), some (.fr (.int (k : Nat))), none] [] = .ok ((q.take k).map fun x => PyData.int (x.1 : Nat)) [S, some (.fr (eI b)), some (.fr (eQ q)), some (.fr (.int (k : Nat))), none] :=
    lcL_all _ _ _ (le_size (by rw [List.length_take]; omega)) fun x hx => by simp [eP]
  have h2 := (h _ (at0_mem h1)).1
  have hn2 := notIn_first q k
  have hc : cutD (q.map eP) none (some (k : Int)) = (q.take k).map eP := by
    rw [cutD_map, cutD_to (by omega)]
  simp [eQ, eI, eP, atI_q h1, atI_b h2, hc] at hi hn2 ⊢
  rw [hi]
  simp [eP, atI_q h1, atI_b h2, hn2]
  unfold fits
  cases hF : isFst q k
  · simp
  · by_cases hf : (at0 q k).2.2 ≤ bal b (at0 q k).1 <;> simp [hf, atI_q h1, atI_b h2, eP]
theorem can_alt (b : List Int) (q : List Pay) : can b q = (List.range q.length).filter fun k => isFst q k && fits b q k := by
  unfold can fsts
  rw [List.filter_filter]
  apply List.filter_congr
  intro k _
  exact Bool.and_comm _ _
theorem s_lcan (b : List Int) (q : List Pay) (h : ∀ x ∈ q, okP b.length x) (hz : q.length ≤ 1000) : m__law_can [.fr (eS b q)] = .ret (.new (.ol false (eN (can b q)))) [.fr (eS b q)] := by
  have hl := lcL_enc (T := .nm 3) (vs := [3]) (enc := fun n : Nat => PyData.int (n : Nat)) (t := lcanT) (f := fVar 3)
    (fun k => isFst q k && fits b q k) (fun n : Nat => PyData.int (n : Nat)) [some (.fr (eS b q)), some (.fr (eI b)), some (.fr (eQ q)), none, none] (List.range q.length) [] (le_size (by rw [List.length_range]; simp only [List.length_nil]; omega)) fun k hk => lcan_turn b q h hz _ k (List.mem_range.mp hk)
  have hr : rngD 0 q.length = (List.range q.length).map fun n : Nat => PyData.int (n : Nat) := rngD_0 _
  have hs : sm (q.length : Int) = true := sm_nat (by omega)
  have hl' : lcL (.nm 3) [3] lcanT (fVar 3) ((List.range q.length).map fun n : Nat => PyData.int (n : Nat)) [some (.fr (.tuple [eI b, eQ q])), some (.fr (eI b)), some (.fr (eQ q)), none, none] [] = .ok (eN (can b q)) [some (.fr (eS b q)), some (.fr (eI b)), some (.fr (eQ q)), none, none] := by
    rw [can_alt]
    exact hl
  have hq : gLen (eQ q) = some (.val (.int q.length)) := by simp [eQ]
  simp -implicitDefEqProofs [m__law_can, fb__law_can, N__law_can, startE, eS, hq, hs, hr, hl']
end Zk48

namespace Zk48
open PySem PyProof.Rows L2 DL
/-! ### at rest -/
def rm (q : List Pay) (k : Nat) : List Pay := q.take k ++ q.drop (k + 1)
abbrev St8 := List Int × List Pay
def st1 (s : St8) : St8 := match can s.1 s.2 with
  | [] => s
  | k :: _ => (pd s.1 (at0 s.2 k), rm s.2 k)
def restN : Nat → St8 → St8
  | 0, s => s
  | n + 1, s => restN n (st1 s)
def okS (s : St8) : Prop := (∀ x ∈ s.2, okP s.1.length x) ∧ s.2.length ≤ 1000
theorem rm_len {q : List Pay} {k : Nat} (h : k < q.length) : (rm q k).length + 1 = q.length := by
  unfold rm
  rw [List.length_append, List.length_take, List.length_drop]
  omega
theorem rm_mem {q : List Pay} {k : Nat} {x : Pay} (h : x ∈ rm q k) : x ∈ q := by
  rcases List.mem_append.mp h with h | h
  · exact List.mem_of_mem_take h
  · exact List.mem_of_mem_drop h
theorem okS_go {s : St8} {k : Nat} (h : okS s) : okS (pd s.1 (at0 s.2 k), rm s.2 k) := by
  refine ⟨fun x hx => ?_, ?_⟩
  · have h1 := h.1 x (rm_mem hx)
    unfold okP at h1 ⊢
    simp only [pd_len]
    exact h1
  · have h2 := h.2
    unfold rm
    simp only [List.length_append, List.length_take, List.length_drop]
    omega
theorem st1_nil {s : St8} (h : can s.1 s.2 = []) : st1 s = s := by unfold st1; rw [h]
theorem st1_cons {s : St8} {k : Nat} {ks : List Nat} (h : can s.1 s.2 = k :: ks) : st1 s = (pd s.1 (at0 s.2 k), rm s.2 k) := by unfold st1; rw [h]
theorem okS_st1 {s : St8} (h : okS s) : okS (st1 s) := by
  cases c : can s.1 s.2 with
  | nil => rw [st1_nil c]; exact h
  | cons k ks => rw [st1_cons c]; exact okS_go h
theorem restN_nil {s : St8} (h : can s.1 s.2 = []) : ∀ n, restN n s = s
  | 0 => rfl
  | n + 1 => by
    show restN n (st1 s) = s
    rw [st1_nil h]
    exact restN_nil h n
theorem can_none {b : List Int} : can b [] = [] := rfl
theorem restN_len : ∀ (n : Nat) (s : St8), s.2.length ≤ n → restN n s = restN s.2.length s
  | 0, s, h => by rw [Nat.le_zero.mp h]
  | n + 1, s, h => by
    cases c : can s.1 s.2 with
    | nil => rw [restN_nil c, restN_nil c]
    | cons k ks =>
      have hk : k < s.2.length := can_lt (b := s.1) (by rw [c]; exact List.mem_cons_self)
      have h2 := rm_len hk
      have e : s.2.length = (rm s.2 k).length + 1 := h2.symm
      rw [e]
      show restN n (st1 s) = restN (rm s.2 k).length (st1 s)
      have e2 : (st1 s).2.length = (rm s.2 k).length := by rw [st1_cons c]
      rw [← e2]
      exact restN_len n (st1 s) (by omega)
theorem fold_restN {α : Type} : ∀ (xs : List α) (s : St8), xs.foldl (fun s _ => st1 s) s = restN xs.length s
  | [], s => rfl
  | x :: xs, s => fold_restN xs (st1 s)
theorem cutD_from1 {α : Type} {xs : List α} {k : Nat} (h : k < xs.length) : cutD xs (some ((k : Int) + 1)) none = xs.drop (k + 1) := by
  have := cutD_from (xs := xs) (k := k + 1) h
  exact this
theorem gNe_eN {l : List Nat} : gNe (.tuple (eN l)) (.tuple []) = some (.val (.bool (!decide (l = [])))) :=
  gNe_t (enc := fun n : Nat => PyData.int (n : Nat)) (n := 0) (fun _ => shp_i) (by omega) (fun _ _ => eqv_nat) (ys := [])
theorem gNe_eNl {l : List Nat} : gNe (.list (eN l)) (.list []) = some (.val (.bool (!decide (l = [])))) :=
  gNe_ls (enc := fun n : Nat => PyData.int (n : Nat)) (n := 0) (fun _ => shp_i) (by omega) (fun _ _ => eqv_nat) (ys := [])
theorem gNotIn_eN {k : Nat} {l : List Nat} : gNotIn (.int (k : Nat)) (.tuple (eN l)) = some (.val (.bool (!l.any fun y => decide (y = k)))) :=
  gNotIn_t (enc := fun n : Nat => PyData.int (n : Nat)) (n := 0) (fun _ => shp_i) (by omega) (fun _ _ => eqv_nat)
theorem s_settled (b : List Int) (q : List Pay) (k : Nat) (h : okS (b, q)) (hk : k ∈ can b q) : m_settled [.fr (eS b q), .fr (.int (k : Nat))] = .ret (.val (eS (pd b (at0 q k)) (rm q k))) [.fr (eS b q), .fr (.int (k : Nat))] := by
  have hl := can_lt hk
  have hn : gNotIn (.int (k : Nat)) (.tuple (eN (can b q))) = some (.val (.bool false)) := by
    rw [gNotIn_eN]
    have : ((can b q).any fun y => decide (y = k)) = true := List.any_eq_true.mpr ⟨k, hk, by simp⟩
    rw [this]
    rfl
  have hz : q.length ≤ 1000 := h.2
  have hc := s_can b q h.1 h.2
  have hp := s_paid b (at0 q k) (h.1 _ (at0_mem hl))
  have c1 : cutD (q.map eP) none (some (k : Int)) = (q.take k).map eP := by
    rw [cutD_map, cutD_to (by omega)]
  have c2 : cutD (q.map eP) (some ((k : Int) + 1)) none = (q.drop (k + 1)).map eP := by
    rw [cutD_map, cutD_from1 hl]
  have hi : gIx (eQ q) (.int (k : Nat)) = some (.val (eP (at0 q k))) := by
    show (atI (q.map eP) (k : Int)).map RV.val = _
    rw [atI_q hl]
    rfl
  have s1 : gSl none (some (k : Int)) (eQ q) = some (.val (eQ (q.take k))) := by unfold eQ; rw [← c1]; rfl
  have s2 : gSl (some ((k : Int) + 1)) none (eQ q) = some (.val (eQ (q.drop (k + 1)))) := by unfold eQ; rw [← c2]; rfl
  have ha : gAdd (eQ (q.take k)) (eQ (q.drop (k + 1))) = some (.val (eQ (rm q k))) := by
    show gAdd (.tuple ((q.take k).map eP)) (.tuple ((q.drop (k + 1)).map eP)) = some (.val (eQ (rm q k)))
    rw [gAdd_t, if_pos (le_size (by rw [List.length_map, List.length_map, List.length_take, List.length_drop]; omega))]
    unfold eQ rm
    rw [List.map_append]
  have h2 : (2 : Nat) ≤ sizeLine := le_size (by omega)
  simp -implicitDefEqProofs [m_settled, fb_settled, N_settled, startE, hc, hn]
  simp -implicitDefEqProofs [eS, hi, hp, s1, s2, ha, h2]
end Zk48

namespace Zk48
open PySem PyProof.Rows L2 DL
abbrev enR (s : St8) : Ev := [some (.fr (eS s.1 s.2)), some (.fr (.tuple (eN (can s.1 s.2))))]
abbrev whT : Ev → Out Bool := asB (f2 gNe (fVar 1) (fTup fNil))
abbrev whS : FS := sSeq (sSet 0 (fCall m_settled (fCons (vv (fVar 0)) (fCons (vv (f2 gIx (fVar 1) (fC (.int 0)))) fNil)))) (sSet 1 (fCall m_can_settle (fCons (vv (fVar 0)) fNil)))
theorem wh_test (s : St8) : whT (enR s) = .ok (!decide (can s.1 s.2 = [])) (enR s) := by
  simp -implicitDefEqProofs [gNe_eN]
theorem wh_turn (s : St8) (h : okS s) {k : Nat} {ks : List Nat} (c : can s.1 s.2 = k :: ks) : whS (enR s) = .nx (enR (st1 s)) := by
  have h1 := s_settled s.1 s.2 k h (by rw [c]; exact List.mem_cons_self)
  have h2 := okS_go (k := k) h
  have h3 := s_can (pd s.1 (at0 s.2 k)) (rm s.2 k) h2.1 h2.2
  rw [st1_cons c]
  unfold enR
  rw [c]
  simp -implicitDefEqProofs [eN, h1, h3]
theorem wh_rest : ∀ (n : Nat) (s : St8) (fuel : Nat), okS s → s.2.length ≤ n → n < fuel → whileL whT whS fuel (enR s) = .nx (enR (restN n s))
  | n, s, 0, _, _, h => absurd h (Nat.not_lt_zero _)
  | 0, s, fuel + 1, h, hn, _ => by
    have e : can s.1 s.2 = [] := by
      have : s.2 = [] := List.eq_nil_of_length_eq_zero (Nat.le_zero.mp hn)
      rw [this]
      rfl
    refine while_end ?_
    rw [wh_test, e]
    rfl
  | n + 1, s, fuel + 1, h, hn, hf => by
    cases c : can s.1 s.2 with
    | nil =>
      rw [restN_nil c]
      refine while_end ?_
      rw [wh_test, c]
      rfl
    | cons k ks =>
      have hk : k < s.2.length := can_lt (b := s.1) (by rw [c]; exact List.mem_cons_self)
      have h2 := rm_len hk
      rw [while_go (e1 := enR s) (e2 := enR (st1 s)) (by rw [wh_test, c]; rfl) (wh_turn s h c)]
      exact wh_rest n (st1 s) fuel (okS_st1 h) (by rw [st1_cons c]; simp only; omega) (by omega)
def rest (s : St8) : St8 := restN s.2.length s
theorem s_at_rest (s : St8) (h : okS s) : m_at_rest [.fr (eS s.1 s.2)] = .ret (.val (eS (rest s).1 (rest s).2)) [.fr (eS s.1 s.2)] := by
  have h1 := s_can s.1 s.2 h.1 h.2
  have h2 := wh_rest s.2.length s 100000 h (Nat.le_refl _) (by have := h.2; omega)
  unfold m_at_rest fb_at_rest N_at_rest
  rw [defM_e, sSeq_e]
  have e0 : sSet 1 (fCall m_can_settle (fCons (vv (fVar 0)) fNil)) (startE (["state", "found"] : List Str).length [.fr (eS s.1 s.2)]) = .nx (enR s) := by
    simp -implicitDefEqProofs [startE, h1]
  rw [e0, seqK_n, sSeq_e, h2, seqK_n]
  simp -implicitDefEqProofs [rest]
/-! the law's own -/
abbrev enL (s : St8) (o : Option Sl × Option Sl) : Ev := [some (.fr (eS s.1 s.2)), some (.fr (.bool false)), some (.ol false (eN (can s.1 s.2))), o.1, o.2]
abbrev lrS : FS := sIf (asB (f2 gNe (fVar 2) (fLst fNil))) (sSeq (sSet 4 (fIf (tT1 (fVar 1)) (f2 gIx (fVar 2) (f1 gNeg (fC (.int 1)))) (f2 gIx (fVar 2) (fC (.int 0)))))
  (sSeq (sSet 0 (fTup (fCons (vv (fCall m__law_paid (fCons (vv (f2 gIx (fVar 0) (fC (.int 0)))) (fCons (vv (f2 gIx (f2 gIx (fVar 0) (fC (.int 1))) (fVar 4))) fNil)))) (fCons (vv (f2 gAdd (fSl (f2 gIx (fVar 0) (fC (.int 1))) fNo (fSome (fVar 4))) (fSl (f2 gIx (fVar 0) (fC (.int 1))) (fSome (f2 gAdd (fVar 4) (fC (.int 1)))) fNo))) fNil))))
  (sSet 2 (fCall m__law_can (fCons (vv (fVar 0)) fNil))))) sNx
theorem q_facts {q : List Pay} {k : Nat} (hl : k < q.length) (hz : q.length ≤ 1000) : gIx (eQ q) (.int (k : Nat)) = some (.val (eP (at0 q k))) ∧ gSl none (some (k : Int)) (eQ q) = some (.val (eQ (q.take k))) ∧ gSl (some ((k : Int) + 1)) none (eQ q) = some (.val (eQ (q.drop (k + 1)))) ∧ gAdd (eQ (q.take k)) (eQ (q.drop (k + 1))) = some (.val (eQ (rm q k))) := by
  have c1 : cutD (q.map eP) none (some (k : Int)) = (q.take k).map eP := by
    rw [cutD_map, cutD_to (by omega)]
  have c2 : cutD (q.map eP) (some ((k : Int) + 1)) none = (q.drop (k + 1)).map eP := by
    rw [cutD_map, cutD_from1 hl]
  refine ⟨?_, by unfold eQ; rw [← c1]; rfl, by unfold eQ; rw [← c2]; rfl, ?_⟩
  · show (atI (q.map eP) (k : Int)).map RV.val = _
    rw [atI_q hl]
    rfl
  · show gAdd (.tuple ((q.take k).map eP)) (.tuple ((q.drop (k + 1)).map eP)) = some (.val (eQ (rm q k)))
    rw [gAdd_t, if_pos (le_size (by rw [List.length_map, List.length_map, List.length_take, List.length_drop]; omega))]
    unfold eQ rm
    rw [List.map_append]
theorem lr_turn (s : St8) (h : okS s) (o : Option Sl × Option Sl) (t : Nat) : ∃ o', turnS (.nm 3) lrS (.int (t : Nat)) (enL s o) = .nx (enL (st1 s) o') := by
  cases c : can s.1 s.2 with
  | nil =>
    rw [st1_nil c]
    refine ⟨(some (.fr (.int (t : Nat))), o.2), ?_⟩
    simp -implicitDefEqProofs [gNe_eNl, c]
  | cons k ks =>
    have hl : k < s.2.length := can_lt (b := s.1) (by rw [c]; exact List.mem_cons_self)
    obtain ⟨f1, f2, f3, f4⟩ := q_facts hl h.2
    have hp := s_lpaid s.1 (at0 s.2 k) (h.1 _ (at0_mem hl))
    have h2 := okS_go (k := k) h
    have h3 := s_lcan (pd s.1 (at0 s.2 k)) (rm s.2 k) h2.1 h2.2
    have g := gNe_eNl (l := k :: ks)
    rw [st1_cons c]
    have h22 : (2 : Nat) ≤ sizeLine := le_size (by omega)
    refine ⟨(some (.fr (.int (t : Nat))), some (.fr (.int (k : Nat)))), ?_⟩
    unfold enL
    rw [c]
    have e : eN (k :: ks) = .int (k : Nat) :: eN ks := rfl
    rw [e] at g ⊢
    simp -implicitDefEqProofs [g]
    simp -implicitDefEqProofs [eS, f1, f2, f3, f4, hp, h22]
    have h3' := h3
    unfold eS at h3'
    simp -implicitDefEqProofs [h3']
theorem s_lrest (s : St8) (h : okS s) (hz : s.2.length ≤ 40) : m__law_rest [.fr (eS s.1 s.2), .fr (.bool false)] = .ret (.val (eS (rest s).1 (rest s).2)) [.fr (eS s.1 s.2), .fr (.bool false)] := by
  have h1 := s_lcan s.1 s.2 h.1 h.2
  obtain ⟨o', h2, h3⟩ := forL_fold (T := .nm 3) (s := lrS) (enc := fun n : Nat => PyData.int (n : Nat)) enL (fun s _ => st1 s) okS (List.range 40) s (none, none) h fun s o x hx hs => by
    obtain ⟨o', e⟩ := lr_turn s hs o x
    exact ⟨o', e, okS_st1 hs⟩
  rw [fold_restN, List.length_range, restN_len 40 s hz] at h2
  have hr : rngD 0 40 = (List.range 40).map fun n : Nat => PyData.int (n : Nat) := rngD_0 _
  have hs : sm 40 = true := sm_nat (n := 40) (by omega)
  unfold m__law_rest fb__law_rest N__law_rest
  rw [defM_e, sSeq_e]
  have e0 : sSet 2 (fCall m__law_can (fCons (vv (fVar 0)) fNil)) (startE (["state", "back", "found", "turn", "k"] : List Str).length [.fr (eS s.1 s.2), .fr (.bool false)]) = .nx (enL s (none, none)) := by
    simp -implicitDefEqProofs [startE, h1]
  have e1 : iRng1' (fC (.int 40)) (enL s (none, none)) = .ok ((List.range 40).map fun n : Nat => PyData.int (n : Nat)) (enL s (none, none)) := by
    simp -implicitDefEqProofs only [iRng1_e, fCons_e, vv_e, fC_e, ob_ok, vvK_v, fConsA_e, fNil_e, fConsB_v, iR1A_e, a1_e, Option.bind_some, asI_e, iR1B_s]
    rw [if_pos hs]
    exact congrArg (fun l => Out.ok l (enL s (none, none))) hr
  rw [e0, seqK_n, sSeq_e, sFor_e, e1, forA_e, h2, seqK_n]
  simp -implicitDefEqProofs [rest]
end Zk48

namespace Zk48
open PySem PyProof.Rows L2 DL
/-! ### helps -/
def ad (b h : List Int) : List Int := (b.zip h).map fun p => p.1 + p.2
theorem ad_len {b h : List Int} (e : b.length = h.length) : (ad b h).length = b.length := by simp [ad, e]
theorem zip_int (b h : List Int) : (((b.map PyData.int).zip (h.map PyData.int)).map fun p => PyData.tuple [p.1, p.2]) = (b.zip h).map fun p => PyData.tuple [.int p.1, .int p.2] := by
  rw [List.zip_map, List.map_map]
  rfl
theorem s_helped (b h : List Int) (q : List Pay) (e : b.length ≤ 1000) : m_helped [.fr (eS b q), .fr (eI h)] = .ret (.val (eS (ad b h) q)) [.fr (eS b q), .fr (eI h)] := by
  have h22 : (2 : Nat) ≤ sizeLine := le_size (by omega)
  have hl := lcL_all (T := .tp [(.nm 2), (.nm 3)]) (vs := [2, 3]) (f := f2 gAdd (fVar 2) (fVar 3)) (enc := fun p : Int × Int => PyData.tuple [.int p.1, .int p.2]) (fun p => .int (p.1 + p.2)) [some (.fr (eS b q)), some (.fr (eI h)), none, none] (b.zip h) (le_size (by rw [List.length_zip]; omega)) fun p hp => by
    simp -implicitDefEqProofs
  have hz := zip_int b h
  have hm : (b.zip h).map (fun p => PyData.int (p.1 + p.2)) = (ad b h).map .int := by simp [ad]
  rw [hm] at hl
  unfold eS at hl
  simp -implicitDefEqProofs only [m_helped, fb_helped, N_helped, eS] at hl ⊢
  simp -implicitDefEqProofs [startE, eI, hz, -List.map_map] at hl ⊢
  rw [hl]
  simp -implicitDefEqProofs [h22]
theorem lcan_idx (b h : List Int) (e : b.length = h.length) : ((List.range h.length).map fun k => b.getD k 0 + h.getD k 0) = ad b h := by
  apply List.ext_getElem
  · simp [ad_len e, e]
  · intro k h1 h2
    simp only [List.length_map, List.length_range] at h1
    simp [ad, h1, show k < b.length by omega]
theorem s_lwith (b h : List Int) (q : List Pay) (e : b.length = h.length) (hz : b.length ≤ 1000) : m__law_with [.fr (eS b q), .fr (eI h)] = .ret (.val (eS (ad b h) q)) [.fr (eS b q), .fr (eI h)] := by
  have h22 : (2 : Nat) ≤ sizeLine := le_size (by omega)
  have hs : sm (h.length : Int) = true := sm_nat (by omega)
  have hr : rngD 0 h.length = (List.range h.length).map fun n : Nat => PyData.int (n : Nat) := rngD_0 _
  have hl := lcL_all (T := .nm 2) (vs := [2]) (f := f2 gAdd (f2 gIx (f2 gIx (fVar 0) (fC (.int 0))) (fVar 2)) (f2 gIx (fVar 1) (fVar 2))) (enc := fun n : Nat => PyData.int (n : Nat)) (fun n => .int (bal b n + bal h n)) [some (.fr (eS b q)), some (.fr (eI h)), none] (List.range h.length) (le_size (by rw [List.length_range]; omega)) fun p hp => by
    have hp := List.mem_range.mp hp
    simp -implicitDefEqProofs [eS, eI, atI_b hp, atI_b (show p < b.length by omega)]
  have hm : ((List.range h.length).map fun n => PyData.int (bal b n + bal h n)) = (ad b h).map .int := by
    rw [← lcan_idx b h e, List.map_map]
    rfl
  rw [hm] at hl
  unfold eS at hl
  simp -implicitDefEqProofs only [m__law_with, fb__law_with, N__law_with, eS] at hl ⊢
  simp -implicitDefEqProofs [startE, eI, hs, hr, -List.map_map] at hl ⊢
  rw [hl]
  simp -implicitDefEqProofs [h22]
theorem eqv_P (x y : Pay) : PyData.eqv (eP x) (eP y) = decide (x = y) := by
  obtain ⟨a, b, c⟩ := x
  obtain ⟨d, e, f⟩ := y
  simp only [eP, eqv_t, PyData.eqvAll, Bool.and_true]
  rw [eqv_nat, eqv_nat, eqv_i]
  by_cases h1 : a = d <;> by_cases h2 : b = e <;> by_cases h3 : c = f <;> simp [h1, h2, h3]
theorem shp_P (x : Pay) : shp 1 (eP x) := shp_t fun d hd => by
  simp only [List.mem_cons, List.not_mem_nil, or_false] at hd
  rcases hd with rfl | rfl | rfl <;> exact shp_i
theorem gEq_Q (q : List Pay) : gEq (eQ q) (.tuple []) = some (.val (.bool (decide (q = [])))) := gEq_t shp_P (by omega) eqv_P (ys := [])
theorem s_comes (b h : List Int) (q : List Pay) (hk : okS (ad b h, q)) (e : b.length ≤ 1000) : m_comes_through [.fr (eS b q), .fr (eI h)] = .ret (.val (.bool (decide ((rest (ad b h, q)).2 = [])))) [.fr (eS b q), .fr (eI h)] := by
  have h1 := s_helped b h q e
  have h2 := s_at_rest (ad b h, q) hk
  have h3 := gEq_Q (rest (ad b h, q)).2
  simp -implicitDefEqProofs [m_comes_through, fb_comes_through, N_comes_through, startE, h1, h2]
  simp -implicitDefEqProofs [eS, h3]
/-! banks -/
def bq (q : List Pay) (p : Nat) : List Pay := q.filter fun x => x.1 == p
theorem s_banks (b : List Int) (q : List Pay) (hb : b.length ≤ 1000) (hz : q.length ≤ 1000) : m_of_banks [.fr (eS b q)] = .ret (.new (.ol false ((List.range b.length).map fun p => .list ((bq q p).map eP)))) [.fr (eS b q)] := by
  have hi : ∀ p : Nat, lcL (.nm 3) [3] (asB (f2 gEq (f2 gIx (fVar 3) (fC (.int 0))) (fVar 4))) (fVar 3) (q.map eP) [some (.fr (eS b q)), some (.fr (eI b)), some (.fr (eQ q)), none, some (.fr (.int (p : Nat)))] [] = .ok ((bq q p).map eP) [some (.fr (eS b q)), some (.fr (eI b)), some (.fr (eQ q)), none, some (.fr (.int (p : Nat)))] := fun p =>
    lcL_enc (enc := eP) (fun x : Pay => x.1 == p) eP _ q [] (le_size (by simp only [List.length_nil]; omega)) fun x hx => by
      have h1 : (decide (((x.1 : Nat) : Int) = (p : Nat))) = (x.1 == p) := by
        cases hh : x.1 == p with
        | true => rw [beq_iff_eq] at hh; rw [hh]; simp
        | false =>
          have : ¬ x.1 = p := by simpa using hh
          exact decide_eq_false (by omega)
      have h2 : gEq (.int (x.1 : Nat)) (.int (p : Nat)) = some (.val (.bool (x.1 == p))) := by rw [gEq_i, h1]
      obtain ⟨x1, x2, x3⟩ := x
      simp -implicitDefEqProofs only [eP, lcTurn_e, setT_n, lcTA_e, asB_e, f2_e, bb_e, fVar_e, List.set_cons_succ, List.set_cons_zero, List.getElem?_cons_succ, List.getElem?_cons_zero, fVarK_f, ob_ok, bbK_v, f2A_e, fC_e, f2B_e, data_v, f2C_s, gIx_t, atI_0, Option.map_some, f2D_s, h2, asBK_b]
      cases hh : x1 == p <;> simp -implicitDefEqProofs
  have hs : sm (b.length : Int) = true := sm_nat (by omega)
  have hr : rngD 0 b.length = (List.range b.length).map fun n : Nat => PyData.int (n : Nat) := rngD_0 _
  have hl := lcL_all (T := .nm 4) (vs := [4]) (f := fLc (.nm 3) [3] (iSeq (fVar 2)) (asB (f2 gEq (f2 gIx (fVar 3) (fC (.int 0))) (fVar 4))) (fVar 3)) (enc := fun n : Nat => PyData.int (n : Nat)) (fun p => .list ((bq q p).map eP)) [some (.fr (eS b q)), some (.fr (eI b)), some (.fr (eQ q)), none, none] (List.range b.length) (le_size (by rw [List.length_range]; omega)) fun p hp => by
    have hi := hi p
    simp -implicitDefEqProofs only [eQ] at hi ⊢
    simp -implicitDefEqProofs at hi ⊢
    rw [hi]
    simp -implicitDefEqProofs
  have hg : gLen (eI b) = some (.val (.int b.length)) := by simp [eI]
  simp -implicitDefEqProofs only [m_of_banks, fb_of_banks, N_of_banks, eS] at hl ⊢
  simp -implicitDefEqProofs [startE, hs, hr, hg, -List.map_map] at hl ⊢
  rw [hl]
  simp -implicitDefEqProofs
def cnt (n : Nat) (q : List Pay) : List Int := (List.range n).map fun p => ((bq q p).length : Int)
theorem s_all_of (b : List Int) (q : List Pay) (hb : b.length ≤ 1000) (hz : q.length ≤ 1000) : m_all_of [.fr (eS b q)] = .ret (.val (eI (cnt b.length q))) [.fr (eS b q)] := by
  have h1 := s_banks b q hb hz
  have hl := lcL_all (T := .nm 1) (vs := [1]) (f := f1 gLen (fVar 1)) (enc := fun p : Nat => PyData.list ((bq q p).map eP)) (fun p => .int ((bq q p).length : Nat)) [some (.fr (eS b q)), none] (List.range b.length) (le_size (by rw [List.length_range]; omega)) fun p hp => by
    simp -implicitDefEqProofs
  have hm : ((List.range b.length).map fun p => PyData.int ((bq q p).length : Nat)) = (cnt b.length q).map .int := by
    unfold cnt
    rw [List.map_map]
    rfl
  rw [hm] at hl
  simp -implicitDefEqProofs [m_all_of, fb_all_of, N_all_of, startE, h1, hl, eI]
end Zk48

namespace Zk48
open PySem PyProof.Rows L2 DL
/-! ### what a row of payments does to the balances -/
def eff (x : Pay) (p : Nat) : Int := (if x.2.1 = p then x.2.2 else 0) - (if x.1 = p then x.2.2 else 0)
theorem bal_set {b : List Int} {i p : Nat} {v : Int} (h : i < b.length) : bal (b.set i v) p = if i = p then v else bal b p := by
  unfold bal
  by_cases e : i = p
  · subst e
    simp [h]
  · rw [if_neg e]
    simp [e]
theorem pd_bal {b : List Int} {x : Pay} (h : okP b.length x) (p : Nat) : bal (pd b x) p = bal b p + eff x p := by
  obtain ⟨h1, h2⟩ := h
  have e : pd b x = (b.set x.1 (bal b x.1 - x.2.2)).set x.2.1 (bal (b.set x.1 (bal b x.1 - x.2.2)) x.2.1 + x.2.2) := rfl
  rw [e, bal_set (by rw [List.length_set]; exact h2), bal_set h1, bal_set h1]
  unfold eff
  by_cases e1 : x.2.1 = p <;> by_cases e2 : x.1 = p
  · subst e1
    simp only [e2, if_true]
    omega
  · subst e1
    simp only [if_neg e2, if_true]
    omega
  · subst e2
    simp only [if_neg e1, if_true]
    omega
  · simp only [if_neg e1, if_neg e2]
    omega
def net (q : List Pay) (p : Nat) : Int := (q.map fun x => eff x p).sum
theorem fin_bal {n : Nat} (p : Nat) : ∀ {q : List Pay} {b : List Int}, b.length = n → (∀ x ∈ q, okP n x) → bal (fin b q) p = bal b p + net q p
  | [], b, hb, h => by simp [fin, net]
  | x :: q, b, hb, h => by
    show bal (fin (pd b x) q) p = _
    rw [fin_bal p (by rw [pd_len, hb]) fun y hy => h y (List.mem_cons_of_mem _ hy), pd_bal (by rw [hb]; exact h x List.mem_cons_self)]
    simp only [net, List.map_cons, List.sum_cons]
    omega
theorem bal_ext {a b : List Int} (h : a.length = b.length) (h2 : ∀ p, p < a.length → bal a p = bal b p) : a = b := by
  apply List.ext_getElem h
  intro p h3 h4
  have := h2 p h3
  unfold bal at this
  rwa [getD_get h3, getD_get h4] at this
def bbh (n : Nat) (b : List Int) (q : List Pay) : List Int := (List.range n).foldl (fun c p => fin c (bq q p)) b
theorem bq_ok {n : Nat} {q : List Pay} (h : ∀ x ∈ q, okP n x) (p : Nat) : ∀ x ∈ bq q p, okP n x := fun x hx => h x (List.mem_filter.mp hx).1
theorem bbh_len (n : Nat) (b : List Int) (q : List Pay) : (bbh n b q).length = b.length := by
  unfold bbh
  generalize List.range n = l
  induction l generalizing b with
  | nil => rfl
  | cons p l ih => rw [List.foldl_cons, ih, fin_len]
theorem net_split (q : List Pay) (m p : Nat) : net (q.filter fun x => decide (x.1 < m + 1)) p = net (q.filter fun x => decide (x.1 < m)) p + net (bq q m) p := by
  unfold bq
  induction q with
  | nil => rfl
  | cons x q ih =>
    unfold net at ih ⊢
    by_cases h1 : x.1 < m
    · have h2 : x.1 < m + 1 := by omega
      have h3 : ¬ x.1 = m := by omega
      simp only [List.filter_cons, decide_eq_true h1, decide_eq_true h2, if_true, beq_iff_eq, h3, if_false, List.map_cons, List.sum_cons, ih]
      omega
    · by_cases h4 : x.1 = m
      · subst h4
        have h2 : x.1 < x.1 + 1 := by omega
        simp only [List.filter_cons, decide_eq_false h1, decide_eq_true h2, if_true, Bool.false_eq_true, BEq.rfl, if_false, List.map_cons, List.sum_cons] at ih ⊢
        omega
      · have h2 : ¬ x.1 < m + 1 := by omega
        simp only [List.filter_cons, decide_eq_false h1, decide_eq_false h2, if_false, Bool.false_eq_true, beq_iff_eq, h4, ih]
theorem bbh_bal {n : Nat} {b : List Int} {q : List Pay} (hb : b.length = n) (h : ∀ x ∈ q, okP n x) (p : Nat) : ∀ m, bal (bbh m b q) p = bal b p + net (q.filter fun x => decide (x.1 < m)) p
  | 0 => by
    have : (q.filter fun x => decide (x.1 < 0)) = [] := List.filter_eq_nil_iff.mpr fun x _ => by simp
    rw [this]
    simp [bbh, net]
  | m + 1 => by
    have e : bbh (m + 1) b q = fin (bbh m b q) (bq q m) := by
      unfold bbh
      rw [List.range_succ, List.foldl_append]
      rfl
    rw [e, fin_bal p (by rw [bbh_len, hb]) (bq_ok h m), bbh_bal hb h p m, net_split]
    omega
theorem bbh_fin {n : Nat} {b : List Int} {q : List Pay} (hb : b.length = n) (h : ∀ x ∈ q, okP n x) : bbh n b q = fin b q := by
  apply bal_ext (by rw [bbh_len, fin_len])
  intro p _
  rw [bbh_bal hb h, fin_bal p hb h]
  have : (q.filter fun x => decide (x.1 < n)) = q := List.filter_eq_self.mpr fun x hx => decide_eq_true (h x hx).1
  rw [this]
/-! ### and the program's own way -/
theorem enum_range {α β : Type} (n : Nat) (f : Nat → α) (g : α × Nat → β) : (((List.range n).map f).zipIdx.map g) = (List.range n).map fun p => g (f p, p) := by
  apply List.ext_getElem
  · simp
  · intro i h1 h2
    simp
theorem cnt_len (n : Nat) (q : List Pay) : (cnt n q).length = n := by simp [cnt]
theorem cnt_bal {n p : Nat} (q : List Pay) (h : p < n) : bal (cnt n q) p = ((bq q p).length : Int) := by
  unfold bal cnt
  rw [getD_get (by simpa using h)]
  simp
theorem bq_len (q : List Pay) (p : Nat) : (bq q p).length ≤ q.length := List.length_filter_le _ _
theorem cut_bq (q : List Pay) (p : Nat) : cutD ((bq q p).map eP) none (some (((bq q p).length : Nat) : Int)) = (bq q p).map eP := by
  rw [cutD_to (by simp)]
  exact List.take_of_length_le (by simp)
theorem s_behind (b : List Int) (q : List Pay) (h : ∀ x ∈ q, okP b.length x) (hb : b.length ≤ 1000) (hz : q.length ≤ 1000) : m_balances_behind [.fr (eS b q), .fr (eI (cnt b.length q))] = .ret (.val (eI (fin b q))) [.fr (eS b q), .fr (eI (cnt b.length q))] := by
  have h1 := s_banks b q hb hz
  obtain ⟨o', h2, h3⟩ := forL_fold (T := .tp [(.nm 3), (.nm 4)]) (s := sFor (.nm 5) (iSeq (fSl (fVar 4) fNo (fSome (f2 gIx (fVar 1) (fVar 3))))) (sSet 2 (fCall m_paid (fCons (vv (fVar 2)) (fCons (vv (fVar 5)) fNil)))))
    (enc := fun p : Nat => PyData.tuple [.int (p : Nat), .list ((bq q p).map eP)]) (fun (c : List Int) (o : Option Sl × Option Sl × Option Sl) => [some (.fr (eS b q)), some (.fr (eI (cnt b.length q))), some (.fr (eI c)), o.1, o.2.1, o.2.2]) (fun c p => fin c (bq q p)) (fun c => c.length = b.length) (List.range b.length) b (none, none, none) rfl fun c o p hp hc => by
      have hp := List.mem_range.mp hp
      obtain ⟨o', k1, k2⟩ := forL_fold (T := .nm 5) (s := sSet 2 (fCall m_paid (fCons (vv (fVar 2)) (fCons (vv (fVar 5)) fNil)))) (enc := eP) (fun (c : List Int) (o : Option Sl) => [some (.fr (eS b q)), some (.fr (eI (cnt b.length q))), some (.fr (eI c)), some (.fr (.int (p : Nat))), some (.fr (.list ((bq q p).map eP))), o]) pd (fun c => c.length = b.length) (bq q p) c o.2.2 hc fun c o x hx hc =>
        ⟨some (.fr (eP x)), by simp -implicitDefEqProofs [s_paid c x (by rw [hc]; exact bq_ok h p x hx)], by rw [pd_len]; exact hc⟩
      refine ⟨(some (.fr (.int (p : Nat))), some (.fr (.list ((bq q p).map eP))), o'), ?_, by rw [fin_len]; exact hc⟩
      have hi : gIx (eI (cnt b.length q)) (.int (p : Nat)) = some (.val (.int ((bq q p).length : Nat))) := by
        show (atI ((cnt b.length q).map PyData.int) (p : Int)).map RV.val = _
        rw [atI_b (by rw [cnt_len]; exact hp), cnt_bal q hp]
        rfl
      have hc := cut_bq q p
      simp -implicitDefEqProofs [hi, hc]
      rw [k1]
      rfl
  have hz := enum_range b.length (fun p => PyData.list ((bq q p).map eP)) (fun x => PyData.tuple [.int (x.2 : Nat), x.1])
  have hf := bbh_fin (b := b) rfl h
  unfold bbh at hf
  rw [hf] at h2
  unfold eS at h1 h2
  unfold eS
  simp -implicitDefEqProofs [m_balances_behind, fb_balances_behind, N_balances_behind, startE, h1, hz, -List.map_map] at h2 ⊢
  rw [h2]
  simp -implicitDefEqProofs
end Zk48

namespace Zk48
open PySem PyProof.Rows L2 DL
theorem zip_self (l : List Int) : (((l.map PyData.int).zip (l.map PyData.int)).map fun p => PyData.tuple [p.1, p.2]) = l.map fun c => PyData.tuple [.int c, .int c] := by
  induction l with
  | nil => rfl
  | cons a l ih => simp only [List.map_cons, List.zip_cons_cons, ih]
theorem cnt_pos {n : Nat} {q : List Pay} {c : Int} (h : c ∈ cnt n q) : 0 ≤ c := by
  unfold cnt at h
  obtain ⟨p, _, rfl⟩ := List.mem_map.mp h
  omega
theorem fin_ne {b : List Int} {q : List Pay} (h : 0 < b.length) : fin b q ≠ [] := fun e => by
  have := fin_len b q
  rw [e] at this
  simp at this
  omega
theorem s_is_batch (b : List Int) (q : List Pay) (h : ∀ x ∈ q, okP b.length x) (hb : b.length ≤ 1000) (h0 : 0 < b.length) (hz : q.length ≤ 1000) : m_is_batch [.fr (eS b q), .fr (eI (cnt b.length q))] = .ret (.val (.bool (decide (0 ≤ minL (fin b q))))) [.fr (eS b q), .fr (eI (cnt b.length q))] := by
  have h1 := s_all_of b q hb hz
  have h2 := s_behind b q h hb hz
  have h3 : gMinA (eI (fin b q)) = some (.val (.int (minL (fin b q)))) := gMinA_t (fin_ne h0)
  have h4 : gIsi "tuple" (eI (cnt b.length q)) = some (.val (.bool true)) := by
    simp [gIsi, eI, tyOf, kit3]
  have h5 := zip_self (cnt b.length q)
  have hq := quant_all (T := .tp [(.nm 0), (.nm 1)]) (f := fCall m_is_number (fCons (vv (fVar 0)) (fCons (vv (fC (.int 0))) (fCons (vv (fVar 1)) fNil)))) (enc := fun c : Int => PyData.tuple [.int c, .int c]) (fun c => decide (0 ≤ c) && decide (c ≤ c)) (fun e => e.length = 2) (cnt b.length q) [none, none] rfl fun c e hc he => by
    obtain ⟨a1, a2, rfl⟩ : ∃ a1 a2, e = [a1, a2] := by
      match e, he with
      | [a1, a2], _ => exact ⟨a1, a2, rfl⟩
    exact ⟨[some (.fr (.int c)), some (.fr (.int c))], by simp -implicitDefEqProofs [s_number], rfl⟩
  have h6 : ((cnt b.length q).all fun c => decide (0 ≤ c) && decide (c ≤ c)) = true := List.all_eq_true.mpr fun c hc => by simp [cnt_pos hc]
  rw [h6] at hq
  have h7 : gLen (eI (cnt b.length q)) = some (.val (.int (cnt b.length q).length)) := by simp [eI]
  have h8 : seqOf (eI (cnt b.length q)) = some (.t, (cnt b.length q).map .int) := rfl
  simp -implicitDefEqProofs only [m_is_batch, fb_is_batch, N_is_batch]
  simp -implicitDefEqProofs [startE, h1, h4, h7, h8, h5, -List.map_map, capE]
  rw [hq]
  simp -implicitDefEqProofs [h2, h3]
theorem s_is_enough (b hl : List Int) (q : List Pay) (h : ∀ x ∈ q, okP b.length x) (hb : b.length ≤ 1000) (h0 : 0 < b.length) (hz : q.length ≤ 1000) (e : b.length = hl.length) : m_is_enough [.fr (eS b q), .fr (eI hl)] = .ret (.val (.bool (decide (0 ≤ minL (fin (ad b hl) q))))) [.fr (eS b q), .fr (eI hl)] := by
  have h1 := s_helped b hl q hb
  have h2 := s_all_of b q hb hz
  have el : (ad b hl).length = b.length := ad_len e
  have h3 := s_is_batch (ad b hl) q (by rw [el]; exact h) (by omega) (by omega) hz
  rw [el] at h3
  simp -implicitDefEqProofs [m_is_enough, fb_is_enough, N_is_enough, startE, h1, h2, h3]
/-! the least help -/
def mx (x : Int) : Int := if -x > 0 then -x else 0
def due (l : List Int) : List Int := l.map mx
theorem s_least (b : List Int) (q : List Pay) (h : ∀ x ∈ q, okP b.length x) (hb : b.length ≤ 1000) (hz : q.length ≤ 1000) : m_least_help [.fr (eS b q)] = .ret (.val (eI (due (fin b q)))) [.fr (eS b q)] := by
  have h1 := s_all_of b q hb hz
  have h2 := s_behind b q h hb hz
  have hl := lcL_all (T := .nm 1) (vs := [1]) (f := f2 gMax2 (fC (.int 0)) (f1 gNeg (fVar 1))) (enc := PyData.int) (fun c => .int (mx c)) [some (.fr (eS b q)), none] (fin b q) (le_size (by rw [fin_len]; omega)) fun c hc => by
    simp -implicitDefEqProofs [mx]
  have hm : (fin b q).map (fun c => PyData.int (mx c)) = (due (fin b q)).map .int := by
    unfold due
    rw [List.map_map]
    rfl
  rw [hm] at hl
  have h3 : itemsOf (eI (fin b q)) = some ((fin b q).map .int) := rfl
  simp -implicitDefEqProofs [m_least_help, fb_least_help, N_least_help, startE, h1, h2, h3]
  rw [hl]
  simp -implicitDefEqProofs [eI]
/-! row by row -/
def mxx (p : Int × Int) : Int := if -p.2 > p.1 then -p.2 else p.1
abbrev RS := List Int × List Int
def rstep (s : RS) (x : Pay) : RS := ((s.1.zip (pd s.2 x)).map mxx, pd s.2 x)
def rows (b : List Int) (q : List Pay) : List Int := (q.foldl rstep (b.map fun _ => 0, b)).1
theorem s_row (b : List Int) (q : List Pay) (h : ∀ x ∈ q, okP b.length x) (hb : b.length ≤ 1000) : m_row_help [.fr (eS b q)] = .ret (.val (eI (rows b q))) [.fr (eS b q)] := by
  have h0 := lcL_all (T := .nm 2) (vs := [2]) (f := fC (.int 0)) (enc := PyData.int) (fun c => .int 0) [some (.fr (eS b q)), none, none, none, none, none] b (le_size (by omega)) fun c hc => by
    simp -implicitDefEqProofs
  have hm0 : (b.map fun _ => PyData.int 0) = (b.map fun _ => (0 : Int)).map .int := by rw [List.map_map]; rfl
  rw [hm0] at h0
  obtain ⟨o', h1, h2⟩ := forL_fold (T := .nm 4) (s := sSeq (sSet 3 (fCall m_paid (fCons (vv (fVar 3)) (fCons (vv (fVar 4)) fNil)))) (sSetLc 1 (fLc (.tp [(.nm 2), (.nm 5)]) [2, 5] (iZip (fVar 1) (fVar 3)) tYesB (f2 gMax2 (fVar 2) (f1 gNeg (fVar 5))))))
    (enc := eP) (fun (s : RS) (o : Option Sl) => [some (.fr (eS b q)), some (.ol false (s.1.map .int)), none, some (.fr (eI s.2)), o, none]) rstep (fun s => s.1.length = b.length ∧ s.2.length = b.length) q (b.map fun _ => 0, b) none ⟨by simp, rfl⟩ fun s o x hx hs => by
      have hp := s_paid s.2 x (by rw [hs.2]; exact h x hx)
      have hz := zip_int s.1 (pd s.2 x)
      have hl := lcL_all (T := .tp [(.nm 2), (.nm 5)]) (vs := [2, 5]) (f := f2 gMax2 (fVar 2) (f1 gNeg (fVar 5))) (enc := fun p : Int × Int => PyData.tuple [.int p.1, .int p.2]) (fun p => .int (mxx p)) [some (.fr (eS b q)), some (.fr (.list (s.1.map .int))), none, some (.fr (eI (pd s.2 x))), some (.fr (eP x)), none] (s.1.zip (pd s.2 x)) (le_size (by rw [List.length_zip]; omega)) fun p hp => by
        simp -implicitDefEqProofs [mxx]
      have hm : ((s.1.zip (pd s.2 x)).map fun p => PyData.int (mxx p)) = ((s.1.zip (pd s.2 x)).map mxx).map .int := by rw [List.map_map]; rfl
      rw [hm] at hl
      refine ⟨some (.fr (eP x)), ?_, by simp [rstep, pd_len, hs.1, hs.2], by simp [rstep, pd_len, hs.2]⟩
      have h8 : seqOf (eI (pd s.2 x)) = some (.t, (pd s.2 x).map .int) := rfl
      simp -implicitDefEqProofs [hp, h8, hz, -List.map_map]
      rw [hl]
      simp -implicitDefEqProofs [rstep]
  unfold eS at h0 h1
  have hi : itemsOf (eI b) = some (b.map .int) := rfl
  have hi2 : itemsOf (eQ q) = some (q.map eP) := rfl
  unfold eS
  simp -implicitDefEqProofs only [m_row_help, fb_row_help, N_row_help]
  simp -implicitDefEqProofs [startE, hi, hi2, -List.map_map, -List.map_const, -List.map_const'] at h0 h1 ⊢
  rw [h0]
  simp -implicitDefEqProofs [hi2, -List.map_map, -List.map_const, -List.map_const']
  rw [h1]
  simp -implicitDefEqProofs [rows, eI, -List.map_const, -List.map_const']
end Zk48

namespace Zk48
open PySem PyProof.Rows L2 DL
/-! ### draws -/
theorem s_mixed (c t : Int) (hc : 0 ≤ c) (ht : 0 ≤ t) (ht2 : t ≤ 1000000) : ∃ r : Int, m__law_mixed [.fr (.int c), .fr (.int t)] = .ret (.val (.int r)) [.fr (.int c), .fr (.int t)] ∧ 0 ≤ r := by
  have p1 : okPow 2 61 = true := okP2 (by omega) (by omega) (by decide)
  have e1 : ((61 : Int).toNat) = 61 := rfl
  have e2 : ((29 : Int).toNat) = 29 := rfl
  have e3 : ((31 : Int).toNat) = 31 := rfl
  have hP : gPow (.int 2) (.int 61) = some (.val (.int 2305843009213693952)) := gPow_i p1
  have x0 := Int.emod_nonneg c (b := 2305843009213693951) (by omega)
  have x1 := Int.emod_lt_of_pos c (b := 2305843009213693951) (by omega)
  have hA : gMod (.int c) (.int 2305843009213693951) = some (.val (.int (c % 2305843009213693951))) := gMod_i (by omega)
  generalize c % 2305843009213693951 = a at x0 x1 hA
  have hB : gMul (.int a) (.int 6364136223846793005) = some (.val (.int (a * 6364136223846793005))) := gMul_i (okM (by omega) (by omega))
  have hC : gMul (.int t) (.int 1442695040888963407) = some (.val (.int (t * 1442695040888963407))) := gMul_i (okM (by omega) (by omega))
  have hD : ∀ i : Int, gMod (.int i) (.int 2305843009213693952) = some (.val (.int (i % 2305843009213693952))) := fun i => gMod_i (by omega)
  generalize hn : (a * 6364136223846793005 + t * 1442695040888963407 + 97) % 2305843009213693952 = n
  have n0 : 0 ≤ n := by rw [← hn]; exact Int.emod_nonneg _ (by omega)
  have n1 : n < 2305843009213693952 := by rw [← hn]; exact Int.emod_lt_of_pos _ (by omega)
  have hS : ∀ i : Int, gShr (.int i) (.int 29) = some (.val (.int (i / 536870912))) := fun i => gShr_i (by omega)
  have hT : ∀ i : Int, gShr (.int i) (.int 31) = some (.val (.int (i / 2147483648))) := fun i => gShr_i (by omega)
  have hX := xor_abs n0 (y := n / 536870912) (by omega)
  generalize hx : Builtin.bitXor n (n / 536870912) = x at hX
  have hM : gMul (.int x) (.int 3935559000370003845) = some (.val (.int (x * 3935559000370003845))) := gMul_i (okM (by omega) (by omega))
  generalize hm : (x * 3935559000370003845) % 2305843009213693952 = m
  have m0 : 0 ≤ m := by rw [← hm]; exact Int.emod_nonneg _ (by omega)
  have m1 : m < 2305843009213693952 := by rw [← hm]; exact Int.emod_lt_of_pos _ (by omega)
  have hY := xor_abs m0 (y := m / 2147483648) (by omega)
  generalize hy : Builtin.bitXor m (m / 2147483648) = y at hY
  have hN : gMul (.int y) (.int 2862933555777941757) = some (.val (.int (y * 2862933555777941757))) := gMul_i (okM (by omega) (by omega))
  refine ⟨y * 2862933555777941757 % 2305843009213693952, ?_, Int.emod_nonneg _ (by omega)⟩
  simp -implicitDefEqProofs [m__law_mixed, fb__law_mixed, N__law_mixed, startE, hP, hA, hB, hC, hD, hn, hS, hT, hx, hM, hm, hy, hN]
def DR (T : Nat) (ds : List PyData) : Prop := ∃ (turn : Nat) (left : Int) (cells : List Int), ds = [.int (turn : Nat), .int left, .list (cells.map .int)] ∧ turn ≤ T ∧ 0 ≤ left ∧ cells ≠ [] ∧ ∀ c ∈ cells, 0 ≤ c
theorem DR.mono {T T' : Nat} {ds : List PyData} (h : DR T ds) (hT : T ≤ T') : DR T' ds := by
  obtain ⟨t, l, c, h1, h2, h3⟩ := h
  exact ⟨t, l, c, h1, by omega, h3⟩
theorem s_draw {T : Nat} {ds : List PyData} (h : DR T ds) (hT : T ≤ 100000) {size : Int} (h0 : 0 < size) (h1 : size ≤ 1000) : ∃ (r : Nat) (ds' : List PyData), m__law_draw [.ol true ds, .fr (.int size)] = .ret (.val (.int (r : Nat))) [.ol true ds', .fr (.int size)] ∧ (r : Int) < size ∧ DR (T + 1) ds' := by
  obtain ⟨t, l, cells, rfl, ht, hl, hc, hn⟩ := h
  have ix0 : ixN 3 0 = some 0 := ixN_nat (n := 3) (p := 0) (by omega)
  have ix1 : ixN 3 1 = some 1 := ixN_nat (n := 3) (p := 1) (by omega)
  have hF : ∀ i : Int, gFdiv (.int i) (.int size) = some (.val (.int (i / size))) := fun i => gFdiv_i (okD h0 (by omega))
  have hM : ∀ i : Int, gMod (.int i) (.int size) = some (.val (.int (i % size))) := fun i => gMod_i h0
  have fin : ∀ i : Int, ∃ r : Nat, i % size = (r : Int) ∧ (r : Int) < size := fun i => by
    have a := Int.emod_nonneg i (b := size) (by omega)
    have b := Int.emod_lt_of_pos i h0
    exact ⟨(i % size).toNat, by omega, by omega⟩
  by_cases hs : l < size
  · have cl : 0 < cells.length := List.length_pos_iff.mpr hc
    have hm : gMod (.int (t : Nat)) (.int cells.length) = some (.val (.int ((t % cells.length : Nat) : Int))) := by
      rw [gMod_i (by omega)]
      rfl
    have hk : t % cells.length < cells.length := Nat.mod_lt _ cl
    have hg : atI (cells.map PyData.int) ((t : Int) % (cells.length : Int)) = some (.int (bal cells (t % cells.length))) := atI_b hk
    generalize hb : bal cells (t % cells.length) = c at hg
    have c0 : 0 ≤ c := by
      rw [← hb]
      unfold bal
      rw [getD_get hk]
      exact hn _ (List.getElem_mem hk)
    obtain ⟨r, hr, r0⟩ := s_mixed c t c0 (by omega) (by omega)
    have hP : gPow (.int 10) (.int 18) = some (.val (.int 1000000000000000000)) := gPow_i (okP2 (by omega) (by omega) (by decide))
    by_cases h2 : t < cells.length
    · by_cases h3 : 1000000000000000000 ≤ c
      · obtain ⟨v, v1, v2⟩ := fin c
        refine ⟨v, [.int ((t + 1 : Nat) : Int), .int (c / size), .list (cells.map .int)], ?_, v2, t + 1, c / size, cells, rfl, by omega, Int.ediv_nonneg c0 (by omega), hc, hn⟩
        simp -implicitDefEqProofs [m__law_draw, fb__law_draw, N__law_draw, startE, ix0, ix1, hs, hm, hg, h2, h3, hP, hF, hM, v1]
      · obtain ⟨v, v1, v2⟩ := fin r
        refine ⟨v, [.int ((t + 1 : Nat) : Int), .int (r / size), .list (cells.map .int)], ?_, v2, t + 1, r / size, cells, rfl, by omega, Int.ediv_nonneg r0 (by omega), hc, hn⟩
        simp -implicitDefEqProofs [m__law_draw, fb__law_draw, N__law_draw, startE, ix0, ix1, hs, hm, hg, h2, h3, hP, hF, hM, v1, hr]
    · obtain ⟨v, v1, v2⟩ := fin r
      refine ⟨v, [.int ((t + 1 : Nat) : Int), .int (r / size), .list (cells.map .int)], ?_, v2, t + 1, r / size, cells, rfl, by omega, Int.ediv_nonneg r0 (by omega), hc, hn⟩
      simp -implicitDefEqProofs [m__law_draw, fb__law_draw, N__law_draw, startE, ix0, ix1, hs, hm, hg, h2, hP, hF, hM, v1, hr]
  · obtain ⟨v, v1, v2⟩ := fin l
    refine ⟨v, [.int (t : Nat), .int (l / size), .list (cells.map .int)], ?_, v2, t, l / size, cells, rfl, by omega, Int.ediv_nonneg hl (by omega), hc, hn⟩
    simp -implicitDefEqProofs [m__law_draw, fb__law_draw, N__law_draw, startE, ix0, ix1, hs, hF, hM, v1]
end Zk48

namespace Zk48
open PySem PyProof.Rows L2 DL
theorem cutD_all {α : Type} {xs : List α} {k : Nat} (h : xs.length ≤ k) : cutD xs none (some (k : Int)) = xs := by
  unfold DL.cutD
  rw [HT.sIx_nat, HT.sIx_none, Nat.min_eq_right h]
  simp
def ab (c : Int) : Int := if c < 0 then -c else c
theorem ab_pos (c : Int) : 0 ≤ ab c := by
  unfold ab
  split <;> omega
theorem s_open (ns : List Int) (h : ns.length ≤ 63) : ∃ ds, m__law_open [.fr (.list (ns.map .int))] = .ret (.new (.ol false ds)) [.fr (.list (ns.map .int))] ∧ DR 0 ds := by
  have hl := lcL_all (T := .nm 2) (vs := [2]) (f := f1 gAbs (f1 gInt (fVar 2))) (enc := PyData.int) (fun c => .int (ab c)) [some (.fr (.list (ns.map .int))), none, none] ns (le_size (by omega)) fun c hc => by
    simp -implicitDefEqProofs [ab]
  have hc : cutD (ns.map PyData.int) none (some 63) = ns.map .int := cutD_all (k := 63) (by rw [List.length_map]; exact h)
  have h3 : (3 : Nat) ≤ sizeLine := le_size (by omega)
  have h1 : (1 : Nat) ≤ sizeLine := le_size (by omega)
  have hs : ns.length + 1 ≤ sizeLine := le_size (by omega)
  refine ⟨[.int ((0 : Nat) : Int), .int 0, .list ((ns.map ab ++ [0]).map .int)], ?_, 0, 0, ns.map ab ++ [0], rfl, Nat.le_refl _, by omega, by simp, fun c hc => ?_⟩
  · simp -implicitDefEqProofs [m__law_open, fb__law_open, N__law_open, startE, hc]
    rw [hl]
    simp -implicitDefEqProofs [h1, h3, hs]
  · rcases List.mem_append.mp hc with hc | hc
    · obtain ⟨z, _, rfl⟩ := List.mem_map.mp hc
      exact ab_pos z
    · simp at hc
      omega
/-! a state -/
def okW (n : Nat) (x : Pay) : Prop := okP n x ∧ x.1 ≠ x.2.1 ∧ 1 ≤ x.2.2
structure SD where
  ds : List PyData
  ql : List Pay
  o : Option Sl × Option Sl
theorem s_state {T : Nat} {ds : List PyData} (h : DR T ds) (hT : T ≤ 1000) : ∃ (b : List Int) (q : List Pay) (ds' : List PyData), m__law_state [.ol true ds, .fr (.int 9)] = .ret (.val (eS b q)) [.ol true ds', .fr (.int 9)] ∧ DR (T + 100) ds' ∧ 2 ≤ b.length ∧ b.length ≤ 6 ∧ (∀ c ∈ b, 0 ≤ c) ∧ q.length ≤ 9 ∧ ∀ x ∈ q, okW b.length x := by
  obtain ⟨r1, d1, e1, l1, D1⟩ := s_draw h (by omega) (size := 5) (by omega) (by omega)
  obtain ⟨r2, d2, e2, l2, D2⟩ := s_draw D1 (by omega) (size := 3) (by omega) (by omega)
  have h3 : (3 : Nat) ≤ sizeLine := le_size (by omega)
  have h2 : (2 : Nat) ≤ sizeLine := le_size (by omega)
  obtain ⟨tp, htp, tp0, tp1⟩ : ∃ tp : Int, atI [PyData.int 3, .int 10, .int 60] ((r2 : Nat) : Int) = some (.int tp) ∧ 0 < tp ∧ tp ≤ 60 := by
    have : r2 = 0 ∨ r2 = 1 ∨ r2 = 2 := by omega
    rcases this with rfl | rfl | rfl
    · exact ⟨3, atI_0, by omega, by omega⟩
    · exact ⟨10, atI_1, by omega, by omega⟩
    · exact ⟨60, atI_2, by omega, by omega⟩
  generalize hm : 2 + r1 = many
  have hm' : (2 : Int) + (r1 : Nat) = (many : Nat) := by omega
  have hs : sm (many : Int) = true := sm_nat (by omega)
  have hr : rngD 0 many = (List.range many).map fun n : Nat => PyData.int (n : Nat) := rngD_0 _
  obtain ⟨b, d3, k1, D3, bl, b0⟩ := lcL_ex (T := .nm 5) (vs := [5]) (f := fIf (asB (f2 gEq (fCall m__law_draw (fCons (ow (fVar 0)) (fCons (vv (fC (.int 2))) fNil))) (fC (.int 0)))) (fCall m__law_draw (fCons (ow (fVar 0)) (fCons (vv (fVar 3)) fNil))) (fC (.int 0))) (enc := fun n : Nat => PyData.int (n : Nat)) (out := PyData.int)
    (fun ds : List PyData => [some (.ol true ds), some (.fr (.int 9)), some (.fr (.int (many : Nat))), some (.fr (.int tp)), none, none, none, none, none]) (fun k ds => DR (T + 2 + 2 * k) ds) (fun c : Int => 0 ≤ c) (List.range many) 0 d2 [] D2 (le_size (by rw [List.length_range]; simp only [List.length_nil]; omega)) fun k ds p hp hk hd => by
      rw [List.length_range] at hk
      obtain ⟨r3, d3, e3, l3, D3⟩ := s_draw hd (by omega) (size := 2) (by omega) (by omega)
      obtain ⟨r4, d4, e4, l4, D4⟩ := s_draw D3 (by omega) (size := tp) tp0 (by omega)
      by_cases hz : r3 = 0
      · refine ⟨d4, (r4 : Int), ?_, D4.mono (by omega), by omega⟩
        simp -implicitDefEqProofs [e3, hz, e4]
      · refine ⟨d3, 0, ?_, D3.mono (by omega), by omega⟩
        simp -implicitDefEqProofs [e3, hz]
  rw [List.length_range] at bl D3
  simp only [List.nil_append, Nat.zero_add] at k1 D3
  obtain ⟨r5, d5, e5, l5, D5⟩ := s_draw D3 (by omega) (size := 10) (by omega) (by omega)
  have hs5 : sm (r5 : Int) = true := sm_nat (by omega)
  have hr5 : rngD 0 r5 = (List.range r5).map fun n : Nat => PyData.int (n : Nat) := rngD_0 _
  have hM : ∀ i : Nat, gMod (.int (i : Nat)) (.int (many : Nat)) = some (.val (.int ((i % many : Nat) : Int))) := fun i => by
    rw [gMod_i (by omega)]
    rfl
  obtain ⟨st, k2, D6, ql, qo⟩ := forL_ex (T := .nm 7) (s := sSeq (sSet 8 (fCall m__law_draw (fCons (ow (fVar 0)) (fCons (vv (fVar 2)) fNil))))
  (sDrop (fAppend' (fVar 6) (fTup (fCons (vv (fVar 8)) (fCons (vv (f2 gMod (f1 gInt (f2 gAdd (f2 gAdd (fVar 8) (fC (.int 1))) (fCall m__law_draw (fCons (ow (fVar 0)) (fCons (vv (f2 gSub (fVar 2) (fC (.int 1)))) fNil))))) (fVar 2))) (fCons (vv (f2 gAdd (fC (.int 1)) (fCall m__law_draw (fCons (ow (fVar 0)) (fCons (vv (fVar 3)) fNil))))) fNil)))))))
    (enc := fun n : Nat => PyData.int (n : Nat)) (fun s : SD => [some (.ol true s.ds), some (.fr (.int 9)), some (.fr (.int (many : Nat))), some (.fr (.int tp)), some (.fr (eI b)), none, some (.ol false (s.ql.map eP)), s.o.1, s.o.2]) (fun k s => DR (T + 3 + 2 * many + 3 * k) s.ds ∧ s.ql.length = k ∧ ∀ x ∈ s.ql, okW many x) (List.range r5) 0 ⟨d5, [], (none, none)⟩ ⟨D5.mono (by omega), rfl, fun x hx => by cases hx⟩ fun k s p hp hk hd => by
      rw [List.length_range] at hk
      obtain ⟨hd, hq1, hq2⟩ := hd
      obtain ⟨r6, d6, e6, l6, D6⟩ := s_draw hd (by omega) (size := (many : Nat)) (by omega) (by omega)
      obtain ⟨r7, d7, e7, l7, D7⟩ := s_draw D6 (by omega) (size := (many : Int) - 1) (by omega) (by omega)
      obtain ⟨r8, d8, e8, l8, D8⟩ := s_draw D7 (by omega) (size := tp) tp0 (by omega)
      have hm7 : gMod (.int ((r6 : Int) + 1 + (r7 : Int))) (.int (many : Nat)) = some (.val (.int (((r6 : Int) + 1 + (r7 : Int)) % (many : Int)))) := hM (r6 + 1 + r7)
      have hne : r6 ≠ (r6 + 1 + r7) % many := by
        intro e
        by_cases hh : r6 + 1 + r7 < many
        · rw [Nat.mod_eq_of_lt hh] at e
          omega
        · rw [Nat.mod_eq_sub_mod (by omega), Nat.mod_eq_of_lt (by omega)] at e
          omega
      refine ⟨⟨d8, s.ql ++ [(r6, (r6 + 1 + r7) % many, 1 + (r8 : Int))], (some (.fr (.int (p : Nat))), some (.fr (.int (r6 : Nat))))⟩, ?_, D8.mono (by omega), by simp [hq1], fun x hx => ?_⟩
      · have hsz : s.ql.length < sizeLine := lt_size (by omega)
        simp -implicitDefEqProofs [e6, e7, e8, hm7, h3, hsz, DL.listAt, eP]
      · rcases List.mem_append.mp hx with hx | hx
        · exact hq2 x hx
        · rw [List.mem_singleton.mp hx]
          exact ⟨⟨by simp only; omega, Nat.mod_lt _ (by omega)⟩, hne, by simp only; omega⟩
  simp only [Nat.zero_add] at D6 ql
  rw [List.length_range] at D6 ql
  refine ⟨b, st.ql, st.ds, ?_, D6.mono (by omega), by omega, by omega, b0, by omega, by rw [bl]; exact qo⟩
  simp -implicitDefEqProofs [m__law_state, fb__law_state, N__law_state, startE, e1, hm', h3, e2, htp, hs, hr]
  rw [k1]
  simp -implicitDefEqProofs [e5, hs5, hr5]
  simp -implicitDefEqProofs only [eI, List.map_nil] at k2
  rw [k2]
  simp -implicitDefEqProofs [h2, eS, eI, eQ]
end Zk48

namespace Zk48
open PySem PyProof.Rows L2 DL
/-! ### the plain law -/
theorem bal_out {b : List Int} {p : Nat} (h : ¬ p < b.length) : bal b p = 0 := by
  unfold bal
  simp [h]
theorem ad_bal {b h : List Int} (e : b.length = h.length) (p : Nat) : bal (ad b h) p = bal b p + bal h p := by
  by_cases hp : p < b.length
  · unfold bal
    rw [getD_get (by rw [ad_len e]; exact hp), getD_get hp, getD_get (by omega)]
    simp [ad]
  · rw [bal_out hp, bal_out (by rw [ad_len e]; exact hp), bal_out (by omega)]
    rfl
theorem mx_ge (x : Int) : 0 ≤ mx x ∧ -x ≤ mx x := by
  unfold mx
  split <;> omega
theorem due_len (l : List Int) : (due l).length = l.length := by simp [due]
theorem due_bal {l : List Int} {p : Nat} (h : p < l.length) : bal (due l) p = mx (bal l p) := by
  unfold bal
  rw [getD_get (by rw [due_len]; exact h), getD_get h]
  simp [due]
theorem pos_iff {l : List Int} : (∀ c ∈ l, 0 ≤ c) ↔ ∀ p, p < l.length → 0 ≤ bal l p := by
  constructor
  · intro h p hp
    unfold bal
    rw [getD_get hp]
    exact h _ (List.getElem_mem hp)
  · intro h c hc
    obtain ⟨p, hp, rfl⟩ := List.mem_iff_getElem.mp hc
    have := h p hp
    unfold bal at this
    rwa [getD_get hp] at this
theorem minL_pos {l : List Int} (h : 0 < l.length) : (0 ≤ minL l) ↔ ∀ p, p < l.length → 0 ≤ bal l p := by
  rw [minL_ge (List.length_pos_iff.mp h), pos_iff]
theorem okW_ok {n : Nat} {q : List Pay} (h : ∀ x ∈ q, okW n x) : ∀ x ∈ q, okP n x := fun x hx => (h x hx).1
theorem fin_ad {b h : List Int} {q : List Pay} (e : b.length = h.length) (hq : ∀ x ∈ q, okP b.length x) (p : Nat) : bal (fin (ad b h) q) p = bal (fin b q) p + bal h p := by
  rw [fin_bal p (n := b.length) (ad_len e) hq, fin_bal p rfl hq, ad_bal e]
  omega
/-- enough -/
theorem enough_iff {b h : List Int} {q : List Pay} (e : b.length = h.length) (h0 : 0 < b.length) (hq : ∀ x ∈ q, okP b.length x) : (0 ≤ minL (fin (ad b h) q)) ↔ ∀ p, p < b.length → 0 ≤ bal (fin b q) p + bal h p := by
  rw [minL_pos (by rw [fin_len, ad_len e]; exact h0), fin_len, ad_len e]
  constructor
  · intro k p hp
    have := k p hp
    rwa [fin_ad e hq] at this
  · intro k p hp
    rw [fin_ad e hq]
    exact k p hp
theorem least_enough {b : List Int} {q : List Pay} (h0 : 0 < b.length) (hq : ∀ x ∈ q, okP b.length x) : 0 ≤ minL (fin (ad b (due (fin b q))) q) := by
  rw [enough_iff (by rw [due_len, fin_len]) h0 hq]
  intro p hp
  rw [due_bal (by rw [fin_len]; exact hp)]
  have := (mx_ge (bal (fin b q) p)).2
  omega
theorem enough_least {b h : List Int} {q : List Pay} (e : b.length = h.length) (h0 : 0 < b.length) (hq : ∀ x ∈ q, okP b.length x) (hp : ∀ c ∈ h, 0 ≤ c) (he : 0 ≤ minL (fin (ad b h) q)) (p : Nat) (hb : p < b.length) : bal (due (fin b q)) p ≤ bal h p := by
  have h1 := (enough_iff e h0 hq).mp he p hb
  have h2 := pos_iff.mp hp p (by omega)
  rw [due_bal (by rw [fin_len]; exact hb)]
  unfold mx
  split <;> omega
/-! rows -/
theorem mxx_ge (x : Int × Int) : x.1 ≤ mxx x ∧ -x.2 ≤ mxx x := by
  unfold mxx
  split <;> omega
theorem rstep_bal {s : RS} {x : Pay} (h : s.1.length = s.2.length) {p : Nat} (hp : p < s.1.length) : bal (rstep s x).1 p = mxx (bal s.1 p, bal (pd s.2 x) p) := by
  unfold bal rstep
  have h2 : p < (pd s.2 x).length := by rw [pd_len]; omega
  rw [getD_get (by simp [pd_len]; omega), getD_get hp, getD_get h2]
  simp
theorem rows_len : ∀ (q : List Pay) (s : RS), s.1.length = s.2.length → (q.foldl rstep s).1.length = s.1.length
  | [], s, h => rfl
  | x :: q, s, h => by
    have h2 : (rstep s x).1.length = s.1.length := by simp [rstep, pd_len, h]
    rw [List.foldl_cons, rows_len q (rstep s x) (by rw [h2]; simp [rstep, pd_len, h]), h2]
theorem rows_go (p : Nat) : ∀ (q : List Pay) (s : RS), s.1.length = s.2.length → p < s.1.length → -bal s.2 p ≤ bal s.1 p → bal s.1 p ≤ bal (q.foldl rstep s).1 p ∧ ∀ i, -bal (fin s.2 (q.take i)) p ≤ bal (q.foldl rstep s).1 p
  | [], s, h, hp, hJ => ⟨Int.le_refl _, fun i => by rw [List.take_nil]; exact hJ⟩
  | x :: q, s, h, hp, hJ => by
    have h2 : (rstep s x).1.length = s.1.length := by simp [rstep, pd_len, h]
    have h3 : (rstep s x).2.length = s.1.length := by simp [rstep, pd_len, h]
    have e := rstep_bal (x := x) h hp
    have g := mxx_ge (bal s.1 p, bal (pd s.2 x) p)
    obtain ⟨k1, k2⟩ := rows_go p q (rstep s x) (by rw [h2, h3]) (by rw [h2]; exact hp) (by rw [e]; exact g.2)
    rw [List.foldl_cons]
    refine ⟨by have := g.1; simp only at this; omega, fun i => ?_⟩
    cases i with
    | zero =>
      show -bal s.2 p ≤ _
      have := g.1
      simp only at this
      omega
    | succ i => exact k2 i
theorem row_facts {b : List Int} {q : List Pay} (hb : ∀ c ∈ b, 0 ≤ c) : (rows b q).length = b.length ∧ ∀ p, p < b.length → 0 ≤ bal (rows b q) p ∧ ∀ i, -bal (fin b (q.take i)) p ≤ bal (rows b q) p := by
  have z : ∀ p, p < b.length → bal (b.map fun _ => (0 : Int)) p = 0 := fun p hp => by
    unfold bal
    rw [getD_get (by simpa using hp)]
    simp
  refine ⟨by unfold rows; rw [rows_len _ _ (by simp)]; simp, fun p hp => ?_⟩
  have b0 := pos_iff.mp hb p hp
  have k := rows_go p q (b.map fun _ => 0, b) (by simp) (by simpa using hp) (by simp only [z p hp]; omega)
  refine ⟨by have := k.1; simp only [z p hp] at this; exact this, k.2⟩
theorem row_least {b : List Int} {q : List Pay} (hb : ∀ c ∈ b, 0 ≤ c) {p : Nat} (hp : p < b.length) : bal (due (fin b q)) p ≤ bal (rows b q) p := by
  obtain ⟨k1, k2⟩ := (row_facts (q := q) hb).2 p hp
  have := k2 q.length
  rw [List.take_of_length_le (Nat.le_refl _)] at this
  rw [due_bal (by rw [fin_len]; exact hp)]
  unfold mx
  split <;> omega
/-! with the help by rows all is settled, in the row's order -/
def Go (s : St8) : Prop := ∀ i p, p < s.1.length → 0 ≤ bal (fin s.1 (s.2.take i)) p
theorem can_head {b : List Int} {x : Pay} {q : List Pay} (h : x.2.2 ≤ bal b x.1) : ∃ ks, can b (x :: q) = 0 :: ks := by
  have e : fsts (x :: q) = 0 :: ((List.range q.length).map Nat.succ).filter (isFst (x :: q)) := by
    unfold fsts
    rw [List.length_cons, List.range_succ_eq_map, List.filter_cons_of_pos rfl]
  unfold can
  rw [e, List.filter_cons_of_pos (by unfold fits at0; simpa using h)]
  exact ⟨_, rfl⟩
theorem go_all : ∀ (q : List Pay) (b : List Int), (∀ x ∈ q, okW b.length x) → Go (b, q) → (restN q.length (b, q)).2 = []
  | [], b, h, g => rfl
  | x :: q, b, h, g => by
    obtain ⟨⟨x1, x2⟩, x3, x4⟩ := h x List.mem_cons_self
    have g1 : 0 ≤ bal (pd b x) x.1 := g 1 x.1 x1
    rw [pd_bal ⟨x1, x2⟩] at g1
    have e : eff x x.1 = -x.2.2 := by
      unfold eff
      rw [if_neg (fun e => x3 e.symm), if_pos rfl]
      omega
    obtain ⟨ks, hk⟩ := can_head (b := b) (x := x) (q := q) (by omega)
    show (restN q.length (st1 (b, x :: q))).2 = []
    rw [st1_cons (s := (b, x :: q)) hk]
    have e2 : at0 (x :: q) 0 = x := rfl
    have e3 : rm (x :: q) 0 = q := rfl
    simp only [e2, e3]
    refine go_all q (pd b x) (fun y hy => by rw [pd_len]; exact h y (List.mem_cons_of_mem _ hy)) fun i p hp => ?_
    simp only [pd_len] at hp
    exact g (i + 1) p hp
theorem row_through {b : List Int} {q : List Pay} (hb : ∀ c ∈ b, 0 ≤ c) (hq : ∀ x ∈ q, okW b.length x) : (rest (ad b (rows b q), q)).2 = [] := by
  obtain ⟨e, k⟩ := row_facts (q := q) hb
  have el : (ad b (rows b q)).length = b.length := ad_len e.symm
  refine go_all q (ad b (rows b q)) (by rw [el]; exact hq) fun i p hp => ?_
  simp only [el] at hp
  simp only
  rw [fin_ad e.symm (fun x hx => (hq x (List.mem_of_mem_take hx)).1)]
  have := (k p hp).2 i
  omega
/-! what comes through is enough -/
theorem net_rm {q : List Pay} {k : Nat} (h : k < q.length) (p : Nat) : net q p = eff (at0 q k) p + net (rm q k) p := by
  have e : q = q.take k ++ q[k] :: q.drop (k + 1) := by
    rw [← List.drop_eq_getElem_cons h, List.take_append_drop]
  have e2 : at0 q k = q[k] := at0_get h
  have e3 : net q p = net (q.take k ++ q[k] :: q.drop (k + 1)) p := congrArg (net · p) e
  rw [e3, e2]
  unfold net rm
  simp only [List.map_append, List.map_cons, List.sum_append, List.sum_cons]
  omega
def Nn (s : St8) : Prop := (∀ x ∈ s.2, okW s.1.length x) ∧ ∀ p, p < s.1.length → 0 ≤ bal s.1 p
theorem nn_go {s : St8} (h : Nn s) : Nn (st1 s) ∧ (st1 s).1.length = s.1.length ∧ ∀ p, bal (st1 s).1 p + net (st1 s).2 p = bal s.1 p + net s.2 p := by
  cases c : can s.1 s.2 with
  | nil => rw [st1_nil c]; exact ⟨h, rfl, fun p => rfl⟩
  | cons k ks =>
    have hm : k ∈ can s.1 s.2 := by rw [c]; exact List.mem_cons_self
    have hk := can_lt hm
    have hf : fits s.1 s.2 k = true := (List.mem_filter.mp hm).2
    unfold fits at hf
    have hf := of_decide_eq_true hf
    obtain ⟨x1, x2, x3⟩ := h.1 _ (at0_mem hk)
    rw [st1_cons c]
    refine ⟨⟨fun x hx => ?_, fun p hp => ?_⟩, pd_len _ _, fun p => ?_⟩
    · simp only [pd_len]
      exact h.1 x (rm_mem hx)
    · simp only [pd_len] at hp
      simp only
      rw [pd_bal x1]
      have h0 := h.2 p hp
      unfold eff
      by_cases e1 : (at0 s.2 k).1 = p
      · rw [e1] at hf
        have e2 : ¬ (at0 s.2 k).2.1 = p := fun e => x2 (by rw [e1, e])
        rw [if_neg e2, if_pos e1]
        omega
      · rw [if_neg e1]
        split <;> omega
    · simp only
      rw [pd_bal x1, net_rm hk p]
      omega
theorem nn_all : ∀ (n : Nat) (s : St8), Nn s → Nn (restN n s) ∧ (restN n s).1.length = s.1.length ∧ ∀ p, bal (restN n s).1 p + net (restN n s).2 p = bal s.1 p + net s.2 p
  | 0, s, h => ⟨h, rfl, fun p => rfl⟩
  | n + 1, s, h => by
    obtain ⟨h1, h2, h3⟩ := nn_go h
    obtain ⟨k1, k2, k3⟩ := nn_all n (st1 s) h1
    exact ⟨k1, by rw [← h2]; exact k2, fun p => by rw [← h3]; exact k3 p⟩
theorem through_enough {b h : List Int} {q : List Pay} (e : b.length = h.length) (h0 : 0 < b.length) (hb : ∀ c ∈ b, 0 ≤ c) (hh : ∀ c ∈ h, 0 ≤ c) (hq : ∀ x ∈ q, okW b.length x) (hr : (rest (ad b h, q)).2 = []) : 0 ≤ minL (fin (ad b h) q) := by
  have el := ad_len e
  have hn : Nn (ad b h, q) := ⟨by simp only [el]; exact hq, fun p hp => by
    simp only [el] at hp
    simp only
    rw [ad_bal e]
    have h1 := pos_iff.mp hb p hp
    have h2 := pos_iff.mp hh p (by omega)
    omega⟩
  obtain ⟨k1, k2, k3⟩ := nn_all q.length (ad b h, q) hn
  rw [minL_pos (by rw [fin_len, el]; exact h0), fin_len]
  intro p hp
  rw [fin_bal p el (okW_ok hq)]
  have := k3 p
  unfold rest at hr
  simp only at hr this k1 k2
  rw [hr] at this
  have h4 := k1.2 p (by rw [k2]; exact hp)
  simp only [net, List.map_nil, List.sum_nil] at this
  unfold net
  omega
end Zk48

namespace Zk48
open PySem PyProof.Rows L2 DL
/-! ### law -/
abbrev pc1 : FS := (sSet 1 (fCall m__law_open (fCons (vv (fVar 0)) fNil)))
abbrev pc2 : FS := (sSet 2 (fCall m__law_state (fCons (ow (fVar 1)) (fCons (vv (fC (.int 9))) fNil))))
abbrev pc3 : FS := (sSet 3 (f1 gLen (f2 gIx (fVar 2) (fC (.int 0)))))
abbrev pc4 : FS := (sSet 4 (f1 gTuple (fLc (.nm 5) [5] (iSeq (fCall m__law_all (fCons (vv (fVar 2)) fNil))) tYesB (f2 gMax2 (fC (.int 0)) (f1 gNeg (fVar 5))))))
abbrev pc5 : FS := (sUnp (.tp [(.nm 6), (.nm 7)]) (fTup (fCons (vv (fRep (fLst (fCons (vv (fC (.int 0))) fNil)) (fVar 3))) (fCons (vv (f2 gIx (fVar 2) (fC (.int 0)))) fNil))))
abbrev pc6 : FS := (sFor (.nm 8) (iSeq (f2 gIx (fVar 2) (fC (.int 1)))) (sSeq (sSet 7 (fCall m__law_paid (fCons (vv (fVar 7)) (fCons (vv (fVar 8)) fNil)))) (sSet 6 (fLc (.nm 9) [9] (iRng1' (fVar 3)) tYesB (f2 gMax2 (f2 gIx (fVar 6) (fVar 9)) (f1 gNeg (f2 gIx (fVar 7) (fVar 9))))))))
abbrev pc7 : FS := (sUnp (.tp [(.nm 10), (.nm 11)]) (fTup (fCons (vv (fCall m_least_help (fCons (vv (fVar 2)) fNil))) (fCons (vv (fCall m_row_help (fCons (vv (fVar 2)) fNil))) fNil))))
abbrev pc8 : FS := (sIf (tOrB (asB (f2 gNe (fVar 10) (fVar 4))) (tOrB (asB (f2 gNe (fVar 11) (f1 gTuple (fVar 6)))) (tOrB (asB (f2 gNe (fLc (.nm 9) [9] (iRng1' (fVar 3)) (asB (f2 gLt (f2 gIx (fVar 11) (fVar 9)) (f2 gIx (fVar 10) (fVar 9)))) (fVar 9)) (fLst fNil))) (tOrB (asB (f2 gIsNot (fCall m_is_enough (fCons (vv (fVar 2)) (fCons (vv (fVar 10)) fNil))) (fC (.bool true)))) (asB (f2 gIsNot (fCall m_comes_through (fCons (vv (fVar 2)) (fCons (vv (fVar 11)) fNil))) (fC (.bool true)))))))) (sRet (fC (.bool false))) sNx)
abbrev pc9 : FS := (sSet 12 (fLst (fCons (vv (fVar 10)) (fCons (vv (fVar 11)) (fCons (vv (f2 gMul (fTup (fCons (vv (fC (.int 0))) fNil)) (fVar 3))) (fCons (vv (f1 gTuple (fLc (.nm 5) [5] (iSeq (fVar 10)) tYesB (f2 gAdd (fVar 5) (fC (.int 1)))))) (fCons (vv (f1 gTuple (fLc (.nm 5) [5] (iSeq (fVar 10)) tYesB (f2 gMax2 (fC (.int 0)) (f2 gSub (fVar 5) (fC (.int 1))))))) (fCons (vv (f1 gTuple (fLc (.nm 5) [5] (iSeq (fVar 11)) tYesB (f2 gMax2 (fC (.int 0)) (f2 gSub (fVar 5) (fC (.int 1))))))) fNil))))))))
abbrev pc10 : FS := (sFor (.nm 13) (iRng1' (fC (.int 5))) (sSeq (sSet 9 (fCall m__law_draw (fCons (ow (fVar 1)) (fCons (vv (fVar 3)) fNil)))) (sSeq (sDrop (fAppend' (fVar 12) (f1 gTuple (fLc (.nm 14) [14] (iRng1' (fVar 3)) tYesB (fCall m__law_draw (fCons (ow (fVar 1)) (fCons (vv (fC (.int 8))) fNil))))))) (sDrop (fAppend' (fVar 12) (f2 gAdd (f2 gAdd (fSl (fVar 10) fNo (fSome (fVar 9))) (fTup (fCons (vv (f2 gMax2 (fC (.int 0)) (f2 gSub (f2 gIx (fVar 10) (fVar 9)) (fC (.int 1))))) fNil))) (fSl (fVar 10) (fSome (f2 gAdd (fVar 9) (fC (.int 1)))) fNo)))))))
abbrev pc11 : FS := (sFor (.nm 5) (iSeq (fVar 12)) (sSeq (sSet 15 (f2 gGe (f1 gMinA (fCall m__law_all (fCons (vv (fCall m__law_with (fCons (vv (fVar 2)) (fCons (vv (fVar 5)) fNil)))) fNil))) (fC (.int 0)))) (sSeq (sIf (tOrB (tNotB (tT1 (fCall m__law_same (fCons (vv (fCall m_is_enough (fCons (vv (fVar 2)) (fCons (vv (fVar 5)) fNil)))) (fCons (vv (fVar 15)) fNil))))) (tAndB (tT1 (fVar 15)) (asB (f2 gNe (fLc (.nm 9) [9] (iRng1' (fVar 3)) (asB (f2 gLt (f2 gIx (fVar 5) (fVar 9)) (f2 gIx (fVar 10) (fVar 9)))) (fVar 9)) (fLst fNil))))) (sRet (fC (.bool false))) sNx) (sIf (tOrB (tNotB (tT1 (fCall m__law_same (fCons (vv (fCall m_comes_through (fCons (vv (fVar 2)) (fCons (vv (fVar 5)) fNil)))) (fCons (vv (f2 gEq (f2 gIx (fCall m__law_rest (fCons (vv (fCall m__law_with (fCons (vv (fVar 2)) (fCons (vv (fVar 5)) fNil)))) (fCons (vv (fC (.bool false))) fNil))) (fC (.int 1))) (fTup fNil))) fNil))))) (tAndB (tT1 (fCall m_comes_through (fCons (vv (fVar 2)) (fCons (vv (fVar 5)) fNil)))) (tNotB (tT1 (fVar 15))))) (sRet (fC (.bool false))) sNx))))
abbrev pc12 : FS := (sRet (fC (.bool true)))
theorem fb_law_eq : fb_law = sSeq pc1 (sSeq pc2 (sSeq pc3 (sSeq pc4 (sSeq pc5 (sSeq pc6 (sSeq pc7 (sSeq pc8 (sSeq pc9 (sSeq pc10 (sSeq pc11 (pc12))))))))))) := rfl
structure C8 (b : List Int) (q : List Pay) : Prop where
  b2 : 2 ≤ b.length
  b6 : b.length ≤ 6
  b0 : ∀ c ∈ b, 0 ≤ c
  q9 : q.length ≤ 9
  qW : ∀ x ∈ q, okW b.length x
theorem C8.ok {b : List Int} {q : List Pay} (c : C8 b q) : ∀ x ∈ q, okP b.length x := okW_ok c.qW
variable {b : List Int} {q : List Pay}
theorem g0 : gIx (eS b q) (.int 0) = some (.val (eI b)) := by simp [eS]
theorem g1 : gIx (eS b q) (.int 1) = some (.val (eQ q)) := by simp [eS]
theorem gLenI {l : List Int} : gLen (eI l) = some (.val (.int l.length)) := by simp [eI]
theorem itI {l : List Int} : itemsOf (eI l) = some (l.map .int) := rfl
theorem itQ {q : List Pay} : itemsOf (eQ q) = some (q.map eP) := rfl
theorem gTupI {l : List Int} : gTuple (eI l) = some (.val (eI l)) := by simp [eI]
theorem gNeI {l m : List Int} : gNe (eI l) (eI m) = some (.val (.bool (!decide (l = m)))) := gNe_is

theorem due5 {l : List Int} (hl : l.length ≤ 1000) {a0 a1 a2 a3 a4 a6 a7 a8 a9 a10 a11 a12 a13 a14 a15 : Option Sl} : lcL (.nm 5) [5] tYesB (f2 gMax2 (fC (.int 0)) (f1 gNeg (fVar 5))) (l.map .int) [a0, a1, a2, a3, a4, none, a6, a7, a8, a9, a10, a11, a12, a13, a14, a15] [] = .ok ((l.map mx).map .int) [a0, a1, a2, a3, a4, none, a6, a7, a8, a9, a10, a11, a12, a13, a14, a15] := by
  have h := lcL_all (T := .nm 5) (vs := [5]) (f := (f2 gMax2 (fC (.int 0)) (f1 gNeg (fVar 5)))) (enc := PyData.int) (fun c => .int (mx c)) [a0, a1, a2, a3, a4, none, a6, a7, a8, a9, a10, a11, a12, a13, a14, a15] l (le_size (by omega)) fun c hc => by
    simp -implicitDefEqProofs [mx]
  rw [h, List.map_map]
  rfl
theorem inc5 {l : List Int} (hl : l.length ≤ 1000) {a0 a1 a2 a3 a4 a6 a7 a8 a9 a10 a11 a12 a13 a14 a15 : Option Sl} : lcL (.nm 5) [5] tYesB (f2 gAdd (fVar 5) (fC (.int 1))) (l.map .int) [a0, a1, a2, a3, a4, none, a6, a7, a8, a9, a10, a11, a12, a13, a14, a15] [] = .ok ((l.map (fun c => c + 1)).map .int) [a0, a1, a2, a3, a4, none, a6, a7, a8, a9, a10, a11, a12, a13, a14, a15] := by
  have h := lcL_all (T := .nm 5) (vs := [5]) (f := (f2 gAdd (fVar 5) (fC (.int 1)))) (enc := PyData.int) (fun c => .int ((fun c => c + 1) c)) [a0, a1, a2, a3, a4, none, a6, a7, a8, a9, a10, a11, a12, a13, a14, a15] l (le_size (by omega)) fun c hc => by
    simp -implicitDefEqProofs [mx]
  rw [h, List.map_map]
  rfl
def dc (c : Int) : Int := if c - 1 > 0 then c - 1 else 0
theorem dec5 {l : List Int} (hl : l.length ≤ 1000) {a0 a1 a2 a3 a4 a6 a7 a8 a9 a10 a11 a12 a13 a14 a15 : Option Sl} : lcL (.nm 5) [5] tYesB (f2 gMax2 (fC (.int 0)) (f2 gSub (fVar 5) (fC (.int 1)))) (l.map .int) [a0, a1, a2, a3, a4, none, a6, a7, a8, a9, a10, a11, a12, a13, a14, a15] [] = .ok ((l.map dc).map .int) [a0, a1, a2, a3, a4, none, a6, a7, a8, a9, a10, a11, a12, a13, a14, a15] := by
  have h := lcL_all (T := .nm 5) (vs := [5]) (f := (f2 gMax2 (fC (.int 0)) (f2 gSub (fVar 5) (fC (.int 1))))) (enc := PyData.int) (fun c => .int (dc c)) [a0, a1, a2, a3, a4, none, a6, a7, a8, a9, a10, a11, a12, a13, a14, a15] l (le_size (by omega)) fun c hc => by
    simp -implicitDefEqProofs [mx, dc]
  rw [h, List.map_map]
  rfl
theorem r4 (c : C8 b q) {a0 a1 a3 a4 a6 a7 a8 a9 a10 a11 a12 a13 a14 a15 : Option Sl} : pc4 [a0, a1, some (.fr (eS b q)), a3, a4, none, a6, a7, a8, a9, a10, a11, a12, a13, a14, a15] = .nx [a0, a1, some (.fr (eS b q)), a3, some (.fr (eI (due (fin b q)))), none, a6, a7, a8, a9, a10, a11, a12, a13, a14, a15] := by
  have h1 := s_lall b q c.ok
  have h2 := due5 (l := fin b q) (by rw [fin_len]; have := c.b6; omega) (a0 := a0) (a1 := a1) (a2 := some (.fr (eS b q))) (a3 := a3) (a4 := a4) (a6 := a6) (a7 := a7) (a8 := a8) (a9 := a9) (a10 := a10) (a11 := a11) (a12 := a12) (a13 := a13) (a14 := a14) (a15 := a15)
  simp -implicitDefEqProofs [h1, itI, h2]
  simp [eI, due]
theorem rep0 (n : Nat) : (List.replicate n [PyData.int 0]).flatten = (List.replicate n (0 : Int)).map .int := by
  induction n with
  | zero => rfl
  | succ n ih => rw [List.replicate_succ, List.flatten_cons, ih, List.replicate_succ]; rfl
theorem map0 (b : List Int) : (b.map fun _ => (0 : Int)) = List.replicate b.length 0 := by
  induction b with
  | nil => rfl
  | cons x b ih => rw [List.map_cons, ih]; rfl
theorem r5 (c : C8 b q) {a0 a1 a4 a5 a6 a7 a8 a9 a10 a11 a12 a13 a14 a15 : Option Sl} : pc5 [a0, a1, some (.fr (eS b q)), some (.fr (.int (b.length : Nat))), a4, a5, a6, a7, a8, a9, a10, a11, a12, a13, a14, a15] = .nx [a0, a1, some (.fr (eS b q)), some (.fr (.int (b.length : Nat))), a4, a5, some (.fr (.list ((b.map fun _ => (0 : Int)).map .int))), some (.fr (eI b)), a8, a9, a10, a11, a12, a13, a14, a15] := by
  have h1 : (1 : Nat) ≤ sizeLine := le_size (by omega)
  have h2 : (2 : Nat) ≤ sizeLine := le_size (by omega)
  have hs : sm (b.length : Int) = true := sm_nat (by have := c.b6; omega)
  have hz : b.length ≤ sizeLine := le_size (by have := c.b6; omega)
  have e : (List.replicate b.length [PyData.int 0]).flatten = (b.map fun _ => (0 : Int)).map .int := by rw [rep0, map0]
  have hR : fRep (fLst (fCons (vv (fC (.int 0))) fNil)) (fVar 3) [a0, a1, some (.fr (eS b q)), some (.fr (.int (b.length : Nat))), a4, a5, a6, a7, a8, a9, a10, a11, a12, a13, a14, a15] = .ok (.new (.ol false ((b.map fun _ => (0 : Int)).map .int))) [a0, a1, some (.fr (eS b q)), some (.fr (.int (b.length : Nat))), a4, a5, a6, a7, a8, a9, a10, a11, a12, a13, a14, a15] := by
    rw [fRep_e]
    simp -implicitDefEqProofs only [fLst_e, fCons_e, vv_e, fC_e, ob_ok, vvK_v, fConsA_e, fNil_e, fConsB_v, fLstA_e, valsOf_n, valsOf_c, Option.map_some, fLstB_s, List.length_cons, List.length_nil, Nat.zero_add, h1, if_true, fRepA_e, fVar_e, List.getElem?_cons_succ, List.getElem?_cons_zero, fVarK_f, fRepB_e]
    rw [if_pos ⟨hs, by simpa using hz⟩]
    have : ((b.length : Nat) : Int).toNat = b.length := rfl
    rw [this, e]
  simp -implicitDefEqProofs only [sUnp_e, bb_e, fTup_e, fCons_e, vv_e, hR, ob_ok]
  simp -implicitDefEqProofs [g0, h2, -List.map_const]
theorem row9 {l m : List Int} {n : Nat} (h1 : l.length = n) (h2 : m.length = n) (hn : n ≤ 1000) {a0 a1 a2 a3 a4 a5 a8 a10 a11 a12 a13 a14 a15 : Option Sl} (w : Option Sl) (hw : w = some (.fr (.list (l.map .int))) ∨ w = some (.ol false (l.map .int))) :
    lcL (.nm 9) [9] tYesB (f2 gMax2 (f2 gIx (fVar 6) (fVar 9)) (f1 gNeg (f2 gIx (fVar 7) (fVar 9)))) ((List.range n).map fun n : Nat => PyData.int (n : Nat)) [a0, a1, a2, a3, a4, a5, w, some (.fr (eI m)), a8, none, a10, a11, a12, a13, a14, a15] [] = .ok (((l.zip m).map mxx).map .int) [a0, a1, a2, a3, a4, a5, w, some (.fr (eI m)), a8, none, a10, a11, a12, a13, a14, a15] := by
  have h := lcL_all (T := .nm 9) (vs := [9]) (f := f2 gMax2 (f2 gIx (fVar 6) (fVar 9)) (f1 gNeg (f2 gIx (fVar 7) (fVar 9)))) (enc := fun n : Nat => PyData.int (n : Nat)) (fun k => .int (mxx (bal l k, bal m k))) [a0, a1, a2, a3, a4, a5, w, some (.fr (eI m)), a8, none, a10, a11, a12, a13, a14, a15] (List.range n) (le_size (by rw [List.length_range]; omega)) fun k hk => by
    have hk := List.mem_range.mp hk
    rcases hw with rfl | rfl <;> simp -implicitDefEqProofs [eI, atI_b (show k < l.length by omega), atI_b (show k < m.length by omega), mxx]
  rw [h, List.map_map]
  have e : (l.zip m).map (PyData.int ∘ mxx) = (List.range n).map fun k => PyData.int (mxx (bal l k, bal m k)) := by
    apply List.ext_getElem
    · simp [h1, h2]
    · intro k q1 q2
      have hk : k < n := by simpa using q2
      simp [bal, show k < l.length by omega, show k < m.length by omega]
  rw [e]
theorem r6 (c : C8 b q) {a0 a1 a4 a5 a10 a11 a12 a13 a14 a15 a8 : Option Sl} : ∃ (w : Option Sl) (o' : Option Sl) (d7 : PyData), pc6 [a0, a1, some (.fr (eS b q)), some (.fr (.int (b.length : Nat))), a4, a5, some (.fr (.list ((b.map fun _ => (0 : Int)).map .int))), some (.fr (eI b)), a8, none, a10, a11, a12, a13, a14, a15] = .nx [a0, a1, some (.fr (eS b q)), some (.fr (.int (b.length : Nat))), a4, a5, w, some (.fr d7), o', none, a10, a11, a12, a13, a14, a15] ∧ (w = some (.fr (.list ((rows b q).map .int))) ∨ w = some (.ol false ((rows b q).map .int))) := by
  have hs : sm (b.length : Int) = true := sm_nat (by have := c.b6; omega)
  have hr : rngD 0 b.length = (List.range b.length).map fun n : Nat => PyData.int (n : Nat) := rngD_0 _
  obtain ⟨o', h1, h2⟩ := forL_fold (T := .nm 8) (s := sSeq (sSet 7 (fCall m__law_paid (fCons (vv (fVar 7)) (fCons (vv (fVar 8)) fNil)))) (sSet 6 (fLc (.nm 9) [9] (iRng1' (fVar 3)) tYesB (f2 gMax2 (f2 gIx (fVar 6) (fVar 9)) (f1 gNeg (f2 gIx (fVar 7) (fVar 9))))))) (enc := eP)
    (fun (s : RS × Bool) (o : Option Sl) => [a0, a1, some (.fr (eS b q)), some (.fr (.int (b.length : Nat))), a4, a5, some (if s.2 = true then .ol false (s.1.1.map .int) else .fr (.list (s.1.1.map .int))), some (.fr (eI s.1.2)), o, none, a10, a11, a12, a13, a14, a15]) (fun s x => (rstep s.1 x, true)) (fun s => s.1.1.length = b.length ∧ s.1.2.length = b.length) q ((b.map fun _ => (0 : Int), b), false) a8 ⟨by simp, rfl⟩ fun s o x hx hs' => by
      have hp := s_lpaid s.1.2 x (by rw [hs'.2]; exact c.ok x hx)
      refine ⟨some (.fr (eP x)), ?_, by simp [rstep, pd_len, hs'.1, hs'.2], by simp [rstep, pd_len, hs'.2]⟩
      obtain ⟨⟨l, m⟩, fl⟩ := s
      have hl := fun w hw => row9 (l := l) (m := pd m x) hs'.1 (by rw [pd_len]; exact hs'.2) (by have := c.b6; omega) (a0 := a0) (a1 := a1) (a2 := some (.fr (eS b q))) (a3 := some (.fr (.int (b.length : Nat)))) (a4 := a4) (a5 := a5) (a8 := some (.fr (eP x))) (a10 := a10) (a11 := a11) (a12 := a12) (a13 := a13) (a14 := a14) (a15 := a15) w hw
      cases fl with
      | false =>
        have hl := hl _ (.inl rfl)
        simp -implicitDefEqProofs [hp, hs, hr]
        simp -implicitDefEqProofs at hl
        rw [hl]
        simp -implicitDefEqProofs [rstep]
      | true =>
        have hl := hl _ (.inr rfl)
        simp -implicitDefEqProofs [hp, hs, hr]
        simp -implicitDefEqProofs at hl
        rw [hl]
        simp -implicitDefEqProofs [rstep]
  have key : ∀ (xs : List Pay) (s : RS × Bool), (xs.foldl (fun s x => (rstep s.1 x, true)) s).1 = xs.foldl rstep s.1 := fun xs => by
    induction xs with
    | nil => intro s; rfl
    | cons x xs ih => intro s; rw [List.foldl_cons, ih]; rfl
  have k := key q ((b.map fun _ => (0 : Int), b), false)
  generalize q.foldl (fun (s : RS × Bool) (x : Pay) => (rstep s.1 x, true)) ((b.map fun _ => (0 : Int), b), false) = z at h1 k
  obtain ⟨z1, fl⟩ := z
  have k2 : z1.1 = rows b q := congrArg Prod.fst k
  have goal : ∀ w, w = some (if fl = true then Sl.ol false (z1.1.map .int) else .fr (.list (z1.1.map .int))) → pc6 [a0, a1, some (.fr (eS b q)), some (.fr (.int (b.length : Nat))), a4, a5, some (.fr (.list ((b.map fun _ => (0 : Int)).map .int))), some (.fr (eI b)), a8, none, a10, a11, a12, a13, a14, a15] = .nx [a0, a1, some (.fr (eS b q)), some (.fr (.int (b.length : Nat))), a4, a5, w, some (.fr (eI z1.2)), o', none, a10, a11, a12, a13, a14, a15] := fun w hw => by
    rw [hw]
    simp -implicitDefEqProofs only [sFor_e, iSeq_e, vv_e, f2_e, bb_e, fVar_e, List.getElem?_cons_succ, List.getElem?_cons_zero, fVarK_f, ob_ok, bbK_v, f2A_e, fC_e, f2B_e, data_v, f2C_s, g1, f2D_s, vvK_v, iSeqA_v, itQ, iSeqB_s, forA_e]
    exact h1
  cases fl with
  | false => exact ⟨_, o', eI z1.2, goal _ rfl, .inl (by rw [← k2]; rfl)⟩
  | true => exact ⟨_, o', eI z1.2, goal _ rfl, .inr (by rw [← k2]; rfl)⟩
end Zk48

namespace Zk48
open PySem PyProof.Rows L2 DL
variable {b : List Int} {q : List Pay}
theorem r7 (c : C8 b q) {a0 a1 a3 a4 a5 a6 a7 a8 a9 a10 a11 a12 a13 a14 a15 : Option Sl} : pc7 [a0, a1, some (.fr (eS b q)), a3, a4, a5, a6, a7, a8, a9, a10, a11, a12, a13, a14, a15] = .nx [a0, a1, some (.fr (eS b q)), a3, a4, a5, a6, a7, a8, a9, some (.fr (eI (due (fin b q)))), some (.fr (eI (rows b q))), a12, a13, a14, a15] := by
  have h1 := s_least b q c.ok (by have := c.b6; omega) (by have := c.q9; omega)
  have h2 := s_row b q c.ok (by have := c.b6; omega)
  have h22 : (2 : Nat) ≤ sizeLine := le_size (by omega)
  simp -implicitDefEqProofs [h1, h2, h22]
theorem lt11 {l m : List Int} {n : Nat} (h1 : l.length = n) (h2 : m.length = n) (hn : n ≤ 1000) (h : ∀ p, p < n → bal m p ≤ bal l p) {a0 a1 a2 a3 a4 a5 a6 a7 a8 a12 a13 a14 a15 : Option Sl} :
    lcL (.nm 9) [9] (asB (f2 gLt (f2 gIx (fVar 11) (fVar 9)) (f2 gIx (fVar 10) (fVar 9)))) (fVar 9) ((List.range n).map fun n : Nat => PyData.int (n : Nat)) [a0, a1, a2, a3, a4, a5, a6, a7, a8, none, some (.fr (eI m)), some (.fr (eI l)), a12, a13, a14, a15] [] = .ok [] [a0, a1, a2, a3, a4, a5, a6, a7, a8, none, some (.fr (eI m)), some (.fr (eI l)), a12, a13, a14, a15] := by
  have k := lcL_enc (T := .nm 9) (vs := [9]) (t := asB (f2 gLt (f2 gIx (fVar 11) (fVar 9)) (f2 gIx (fVar 10) (fVar 9)))) (f := fVar 9) (enc := fun n : Nat => PyData.int (n : Nat)) (fun _ => false) (fun n : Nat => PyData.int (n : Nat)) [a0, a1, a2, a3, a4, a5, a6, a7, a8, none, some (.fr (eI m)), some (.fr (eI l)), a12, a13, a14, a15] (List.range n) [] (le_size (by rw [List.length_range]; simp only [List.length_nil]; omega)) fun k hk => by
    have hk := List.mem_range.mp hk
    have hh := h k hk
    have hf : decide (bal l k < bal m k) = false := decide_eq_false (by omega)
    simp -implicitDefEqProofs [eI, atI_b (show k < l.length by omega), atI_b (show k < m.length by omega), hf]
  rw [k]
  have : (List.range n).filter (fun _ => false) = [] := List.filter_eq_nil_iff.mpr fun _ _ => by simp
  rw [this]
  rfl
theorem lt5 {l m : List Int} {n : Nat} (h1 : l.length = n) (h2 : m.length = n) (hn : n ≤ 1000) (h : ∀ p, p < n → bal m p ≤ bal l p) {a0 a1 a2 a3 a4 a6 a7 a8 a11 a12 a13 a14 a15 : Option Sl} :
    lcL (.nm 9) [9] (asB (f2 gLt (f2 gIx (fVar 5) (fVar 9)) (f2 gIx (fVar 10) (fVar 9)))) (fVar 9) ((List.range n).map fun n : Nat => PyData.int (n : Nat)) [a0, a1, a2, a3, a4, some (.fr (eI l)), a6, a7, a8, none, some (.fr (eI m)), a11, a12, a13, a14, a15] [] = .ok [] [a0, a1, a2, a3, a4, some (.fr (eI l)), a6, a7, a8, none, some (.fr (eI m)), a11, a12, a13, a14, a15] := by
  have k := lcL_enc (T := .nm 9) (vs := [9]) (t := asB (f2 gLt (f2 gIx (fVar 5) (fVar 9)) (f2 gIx (fVar 10) (fVar 9)))) (f := fVar 9) (enc := fun n : Nat => PyData.int (n : Nat)) (fun _ => false) (fun n : Nat => PyData.int (n : Nat)) [a0, a1, a2, a3, a4, some (.fr (eI l)), a6, a7, a8, none, some (.fr (eI m)), a11, a12, a13, a14, a15] (List.range n) [] (le_size (by rw [List.length_range]; simp only [List.length_nil]; omega)) fun k hk => by
    have hk := List.mem_range.mp hk
    have hh := h k hk
    have hf : decide (bal l k < bal m k) = false := decide_eq_false (by omega)
    simp -implicitDefEqProofs [eI, atI_b (show k < l.length by omega), atI_b (show k < m.length by omega), hf]
  rw [k]
  have : (List.range n).filter (fun _ => false) = [] := List.filter_eq_nil_iff.mpr fun _ _ => by simp
  rw [this]
  rfl
theorem gNe_nn : gNe (.list []) (.list []) = some (.val (.bool false)) := gNe_eNl (l := [])
theorem r8 (c : C8 b q) {w : Option Sl} (hw : w = some (.fr (.list ((rows b q).map .int))) ∨ w = some (.ol false ((rows b q).map .int))) {a0 a1 a5 a7 a8 a12 a13 a14 a15 : Option Sl} : pc8 [a0, a1, some (.fr (eS b q)), some (.fr (.int (b.length : Nat))), some (.fr (eI (due (fin b q)))), a5, w, a7, a8, none, some (.fr (eI (due (fin b q)))), some (.fr (eI (rows b q))), a12, a13, a14, a15] = .nx [a0, a1, some (.fr (eS b q)), some (.fr (.int (b.length : Nat))), some (.fr (eI (due (fin b q)))), a5, w, a7, a8, none, some (.fr (eI (due (fin b q)))), some (.fr (eI (rows b q))), a12, a13, a14, a15] := by
  have e1 : (due (fin b q)).length = b.length := by rw [due_len, fin_len]
  have e2 := (row_facts (q := q) c.b0).1
  have b6 := c.b6
  have q9 := c.q9
  have b2 := c.b2
  have h0 : (0 : Nat) ≤ sizeLine := le_size (by omega)
  have hs : sm (b.length : Int) = true := sm_nat (by omega)
  have hr : rngD 0 b.length = (List.range b.length).map fun n : Nat => PyData.int (n : Nat) := rngD_0 _
  have h1 := s_is_enough b (due (fin b q)) q c.ok (by omega) (by omega) (by omega) e1.symm
  have h2 := s_comes b (rows b q) q ⟨by simp only; rw [ad_len e2.symm]; exact c.ok, by simp only; omega⟩ (by omega)
  rw [decide_eq_true (least_enough (by omega) c.ok)] at h1
  rw [decide_eq_true (row_through c.b0 c.qW)] at h2
  have h3 := fun u => lt11 (l := rows b q) (m := due (fin b q)) e2 e1 (by omega) (fun p hp => row_least c.b0 hp) (a0 := a0) (a1 := a1) (a2 := some (.fr (eS b q))) (a3 := some (.fr (.int (b.length : Nat)))) (a4 := some (.fr (eI (due (fin b q))))) (a5 := a5) (a6 := u) (a7 := a7) (a8 := a8) (a12 := a12) (a13 := a13) (a14 := a14) (a15 := a15)
  have hT : gTuple (.list ((rows b q).map PyData.int)) = some (.val (eI (rows b q))) := gTuple_l
  have hN := gNe_nn
  rcases hw with rfl | rfl
  · have h3 := h3 (some (.fr (.list ((rows b q).map .int))))
    simp -implicitDefEqProofs [gNeI, hT, hs, hr]
    rw [h3]
    simp -implicitDefEqProofs [hN, h1, h2]
  · have h3 := h3 (some (.ol false ((rows b q).map .int)))
    simp -implicitDefEqProofs [gNeI, hT, hs, hr]
    rw [h3]
    simp -implicitDefEqProofs [hN, h1, h2]
def hel (b : List Int) (q : List Pay) : List (List Int) := [due (fin b q), rows b q, List.replicate b.length 0, (due (fin b q)).map (fun c => c + 1), (due (fin b q)).map dc, (rows b q).map dc]
theorem r9 (c : C8 b q) {a0 a1 a2 a4 a6 a7 a8 a9 a12 a13 a14 a15 : Option Sl} : pc9 [a0, a1, a2, some (.fr (.int (b.length : Nat))), a4, none, a6, a7, a8, a9, some (.fr (eI (due (fin b q)))), some (.fr (eI (rows b q))), a12, a13, a14, a15] = .nx [a0, a1, a2, some (.fr (.int (b.length : Nat))), a4, none, a6, a7, a8, a9, some (.fr (eI (due (fin b q)))), some (.fr (eI (rows b q))), some (.ol false ((hel b q).map eI)), a13, a14, a15] := by
  have e1 : (due (fin b q)).length = b.length := by rw [due_len, fin_len]
  have e2 := (row_facts (q := q) c.b0).1
  have b6 := c.b6
  have b2 := c.b2
  have h1 : (1 : Nat) ≤ sizeLine := le_size (by omega)
  have h6 : (6 : Nat) ≤ sizeLine := le_size (by omega)
  have hm : gMul (.tuple [.int 0]) (.int (b.length : Nat)) = some (.val (eI (List.replicate b.length 0))) := by
    show (if ([PyData.int 0] : List PyData).isEmpty = false ∧ 2 ≤ (b.length : Int) ∧ (b.length : Int) ≤ 1000 ∧ ([PyData.int 0] : List PyData).length ≤ 1000 then some (RV.val (.tuple (List.replicate (b.length : Int).toNat [PyData.int 0]).flatten)) else none) = _
    rw [if_pos ⟨rfl, by omega, by omega, by simp⟩]
    have : ((b.length : Nat) : Int).toNat = b.length := rfl
    rw [this, rep0]
    rfl
  have k1 := inc5 (l := due (fin b q)) (by omega) (a0 := a0) (a1 := a1) (a2 := a2) (a3 := some (.fr (.int (b.length : Nat)))) (a4 := a4) (a6 := a6) (a7 := a7) (a8 := a8) (a9 := a9) (a10 := some (.fr (eI (due (fin b q))))) (a11 := some (.fr (eI (rows b q)))) (a12 := a12) (a13 := a13) (a14 := a14) (a15 := a15)
  have k2 := dec5 (l := due (fin b q)) (by omega) (a0 := a0) (a1 := a1) (a2 := a2) (a3 := some (.fr (.int (b.length : Nat)))) (a4 := a4) (a6 := a6) (a7 := a7) (a8 := a8) (a9 := a9) (a10 := some (.fr (eI (due (fin b q))))) (a11 := some (.fr (eI (rows b q)))) (a12 := a12) (a13 := a13) (a14 := a14) (a15 := a15)
  have k3 := dec5 (l := rows b q) (by omega) (a0 := a0) (a1 := a1) (a2 := a2) (a3 := some (.fr (.int (b.length : Nat)))) (a4 := a4) (a6 := a6) (a7 := a7) (a8 := a8) (a9 := a9) (a10 := some (.fr (eI (due (fin b q))))) (a11 := some (.fr (eI (rows b q)))) (a12 := a12) (a13 := a13) (a14 := a14) (a15 := a15)
  have t : ∀ l : List Int, gTuple (.list (l.map PyData.int)) = some (.val (eI l)) := fun l => gTuple_l
  simp -implicitDefEqProofs [h1, h6, hm, itI, k1, k2, k3, t, hel, -List.map_map]
end Zk48

namespace Zk48
open PySem PyProof.Rows L2 DL
variable {b : List Int} {q : List Pay}
theorem hel_ok (c : C8 b q) : ∀ h ∈ hel b q, h.length = b.length ∧ ∀ x ∈ h, 0 ≤ x := by
  have e1 : (due (fin b q)).length = b.length := by rw [due_len, fin_len]
  obtain ⟨e2, e3⟩ := row_facts (q := q) c.b0
  have p1 : ∀ x ∈ due (fin b q), 0 ≤ x := fun x hx => by
    unfold due at hx
    obtain ⟨y, _, rfl⟩ := List.mem_map.mp hx
    exact (mx_ge y).1
  have p2 : ∀ x ∈ rows b q, 0 ≤ x := pos_iff.mpr fun p hp => (e3 p (by omega)).1
  have p3 : ∀ l : List Int, ∀ x ∈ l.map dc, 0 ≤ x := fun l x hx => by
    obtain ⟨y, _, rfl⟩ := List.mem_map.mp hx
    unfold dc
    split <;> omega
  intro h hh
  simp only [hel, List.mem_cons, List.not_mem_nil, or_false] at hh
  rcases hh with rfl | rfl | rfl | rfl | rfl | rfl
  · exact ⟨e1, p1⟩
  · exact ⟨e2, p2⟩
  · exact ⟨List.length_replicate, fun x hx => by rw [List.eq_of_mem_replicate hx]; omega⟩
  · refine ⟨by rw [List.length_map, e1], fun x hx => ?_⟩
    obtain ⟨y, hy, rfl⟩ := List.mem_map.mp hx
    have := p1 y hy
    omega
  · exact ⟨by rw [List.length_map, e1], p3 _⟩
  · exact ⟨by rw [List.length_map, e2], p3 _⟩
structure HD where
  ds : List PyData
  hs : List (List Int)
  o9 : Option Sl
  o13 : Option Sl
def less (l : List Int) (k : Nat) : List Int := l.take k ++ [dc (bal l k)] ++ l.drop (k + 1)
theorem less_ok {l : List Int} {k : Nat} (hk : k < l.length) (h : ∀ x ∈ l, 0 ≤ x) : (less l k).length = l.length ∧ ∀ x ∈ less l k, 0 ≤ x := by
  refine ⟨by unfold less; simp only [List.length_append, List.length_take, List.length_drop, List.length_cons, List.length_nil]; omega, fun x hx => ?_⟩
  unfold less at hx
  rcases List.mem_append.mp hx with hx | hx
  · rcases List.mem_append.mp hx with hx | hx
    · exact h x (List.mem_of_mem_take hx)
    · rw [List.mem_singleton.mp hx]
      unfold dc
      split <;> omega
  · exact h x (List.mem_of_mem_drop hx)
theorem lc14 {T : Nat} (n : Nat) {a0 a2 a3 a4 a5 a6 a7 a8 a9 a10 a11 a12 a13 a15 : Option Sl} {ds : List PyData} (h : DR T ds) (hn : n ≤ 100) (hT : T ≤ 10000) : ∃ (ds' : List PyData) (l : List Int), lcL (.nm 14) [14] tYesB (fCall m__law_draw (fCons (ow (fVar 1)) (fCons (vv (fC (.int 8))) fNil))) ((List.range n).map fun n : Nat => PyData.int (n : Nat)) [a0, some (.ol false ds), a2, a3, a4, a5, a6, a7, a8, a9, a10, a11, a12, a13, none, a15] [] = .ok (l.map .int) [a0, some (.ol false ds'), a2, a3, a4, a5, a6, a7, a8, a9, a10, a11, a12, a13, none, a15] ∧ DR (T + n) ds' ∧ l.length = n ∧ ∀ x ∈ l, 0 ≤ x := by
  obtain ⟨l, d3, k1, D3, bl, b0⟩ := lcL_ex (T := .nm 14) (vs := [14]) (f := fCall m__law_draw (fCons (ow (fVar 1)) (fCons (vv (fC (.int 8))) fNil))) (enc := fun n : Nat => PyData.int (n : Nat)) (out := PyData.int)
    (fun ds : List PyData => [a0, some (.ol false ds), a2, a3, a4, a5, a6, a7, a8, a9, a10, a11, a12, a13, none, a15]) (fun k ds => DR (T + k) ds) (fun c : Int => 0 ≤ c) (List.range n) 0 ds [] h (le_size (by rw [List.length_range]; simp only [List.length_nil]; omega)) fun k ds p hp hk hd => by
      rw [List.length_range] at hk
      obtain ⟨r4, d4, e4, l4, D4⟩ := s_draw hd (by omega) (size := 8) (by omega) (by omega)
      refine ⟨d4, (r4 : Int), ?_, D4, by omega⟩
      simp -implicitDefEqProofs [e4]
  rw [List.length_range] at bl D3
  rw [Nat.zero_add] at D3
  exact ⟨d3, l, by simpa using k1, D3, bl, b0⟩
theorem r10 (c : C8 b q) {T : Nat} {ds : List PyData} (h : DR T ds) (hT : T ≤ 5000) {a0 a2 a4 a5 a6 a7 a8 a11 a15 a13 : Option Sl} : ∃ s : HD, pc10 [a0, some (.ol false ds), a2, some (.fr (.int (b.length : Nat))), a4, a5, a6, a7, a8, none, some (.fr (eI (due (fin b q)))), a11, some (.ol false ((hel b q).map eI)), a13, none, a15] = .nx [a0, some (.ol false s.ds), a2, some (.fr (.int (b.length : Nat))), a4, a5, a6, a7, a8, s.o9, some (.fr (eI (due (fin b q)))), a11, some (.ol false (s.hs.map eI)), s.o13, none, a15] ∧ (∀ h ∈ s.hs, h.length = b.length ∧ ∀ x ∈ h, 0 ≤ x) ∧ frO (some s.o9) = s.o9 := by
  have e1 : (due (fin b q)).length = b.length := by rw [due_len, fin_len]
  have b6 := c.b6
  have b2 := c.b2
  have h1 : (1 : Nat) ≤ sizeLine := le_size (by omega)
  have hs : sm (b.length : Int) = true := sm_nat (by omega)
  have hr : rngD 0 b.length = (List.range b.length).map fun n : Nat => PyData.int (n : Nat) := rngD_0 _
  have hs5 : sm 5 = true := sm_nat (n := 5) (by omega)
  have hr5 : rngD 0 (Int.toNat 5) = (List.range 5).map fun n : Nat => PyData.int (n : Nat) := rngD_0 5
  obtain ⟨s, k1, k2, k3, k4, k5⟩ := forL_ex (T := .nm 13) (s := sSeq (sSet 9 (fCall m__law_draw (fCons (ow (fVar 1)) (fCons (vv (fVar 3)) fNil)))) (sSeq (sDrop (fAppend' (fVar 12) (f1 gTuple (fLc (.nm 14) [14] (iRng1' (fVar 3)) tYesB (fCall m__law_draw (fCons (ow (fVar 1)) (fCons (vv (fC (.int 8))) fNil))))))) (sDrop (fAppend' (fVar 12) (f2 gAdd (f2 gAdd (fSl (fVar 10) fNo (fSome (fVar 9))) (fTup (fCons (vv (f2 gMax2 (fC (.int 0)) (f2 gSub (f2 gIx (fVar 10) (fVar 9)) (fC (.int 1))))) fNil))) (fSl (fVar 10) (fSome (f2 gAdd (fVar 9) (fC (.int 1)))) fNo))))))
    (enc := fun n : Nat => PyData.int (n : Nat)) (fun s : HD => [a0, some (.ol false s.ds), a2, some (.fr (.int (b.length : Nat))), a4, a5, a6, a7, a8, s.o9, some (.fr (eI (due (fin b q)))), a11, some (.ol false (s.hs.map eI)), s.o13, none, a15]) (fun k s => DR (T + 20 * k) s.ds ∧ s.hs.length ≤ 6 + 2 * k ∧ (∀ h ∈ s.hs, h.length = b.length ∧ ∀ x ∈ h, 0 ≤ x) ∧ frO (some s.o9) = s.o9) (List.range 5) 0 ⟨ds, hel b q, none, a13⟩ ⟨h, by simp [hel], hel_ok c, rfl⟩ fun k s p hp hk hd => by
      rw [List.length_range] at hk
      obtain ⟨hd, hq1, hq2, hq3⟩ := hd
      obtain ⟨r6, d6, e6, l6, D6⟩ := s_draw hd (by omega) (size := (b.length : Nat)) (by omega) (by omega)
      obtain ⟨d7, l, k7, D7, ll, lp⟩ := lc14 b.length (a0 := a0) (a2 := a2) (a3 := some (.fr (.int (b.length : Nat)))) (a4 := a4) (a5 := a5) (a6 := a6) (a7 := a7) (a8 := a8) (a9 := some (.fr (.int (r6 : Nat)))) (a10 := some (.fr (eI (due (fin b q))))) (a11 := a11) (a12 := some (.ol false (s.hs.map eI))) (a13 := some (.fr (.int (p : Nat)))) (a15 := a15) D6 (by omega) (by omega)
      have hl : r6 < (due (fin b q)).length := by omega
      have dp : ∀ x ∈ due (fin b q), 0 ≤ x := (hel_ok c _ (by unfold hel; exact List.mem_cons_self)).2
      obtain ⟨m1, m2⟩ := less_ok hl dp
      refine ⟨⟨d7, s.hs ++ [l] ++ [less (due (fin b q)) r6], some (.fr (.int (r6 : Nat))), some (.fr (.int (p : Nat)))⟩, ?_, D7.mono (by omega), by simp only [List.length_append, List.length_cons, List.length_nil]; omega, fun h hh => ?_, rfl⟩
      · have hsz : s.hs.length < sizeLine := lt_size (by omega)
        have hsz2 : s.hs.length + 1 < sizeLine := lt_size (by omega)
        have t : gTuple (.list (l.map PyData.int)) = some (.val (eI l)) := gTuple_l
        have s1 : gSl none (some (r6 : Int)) (eI (due (fin b q))) = some (.val (eI ((due (fin b q)).take r6))) := by
          unfold eI
          rw [gSl_t, cutD_map, cutD_to (by omega)]
        have s2 : gSl (some ((r6 : Int) + 1)) none (eI (due (fin b q))) = some (.val (eI ((due (fin b q)).drop (r6 + 1)))) := by
          unfold eI
          rw [gSl_t, cutD_map, cutD_from1 hl]
        have s3 : gIx (eI (due (fin b q))) (.int (r6 : Nat)) = some (.val (.int (bal (due (fin b q)) r6))) := by
          unfold eI
          rw [gIx_t, atI_b hl]
          rfl
        have s4 : gMax2 (.int 0) (.int (bal (due (fin b q)) r6 - 1)) = some (.val (.int (dc (bal (due (fin b q)) r6)))) := rfl
        have s5 : ∀ x : Int, gAdd (eI ((due (fin b q)).take r6)) (.tuple [.int x]) = some (.val (eI ((due (fin b q)).take r6 ++ [x]))) := fun x => by
          unfold eI
          rw [gAdd_t, if_pos (le_size (by simp only [List.length_map, List.length_take, List.length_cons, List.length_nil]; omega)), List.map_append]
          rfl
        have s6 : ∀ x : Int, gAdd (eI ((due (fin b q)).take r6 ++ [x])) (eI ((due (fin b q)).drop (r6 + 1))) = some (.val (eI ((due (fin b q)).take r6 ++ [x] ++ (due (fin b q)).drop (r6 + 1)))) := fun x => by
          unfold eI
          rw [gAdd_t, if_pos (le_size (by simp only [List.length_map, List.length_append, List.length_drop, List.length_take, List.length_cons, List.length_nil]; omega)), ← List.map_append]
        have ee : less (due (fin b q)) r6 = (due (fin b q)).take r6 ++ [dc (bal (due (fin b q)) r6)] ++ (due (fin b q)).drop (r6 + 1) := rfl
        rw [ee]
        generalize due (fin b q) = told at s1 s2 s3 s4 s5 s6 k7 ⊢
        simp -implicitDefEqProofs [e6, hs, hr, DL.listAt]
        rw [k7]
        simp -implicitDefEqProofs [t, hsz, hsz2, s1, s2, s3, s4, s5, s6, h1, DL.listAt, -gMax2_i]
      · rcases List.mem_append.mp hh with hh | hh
        · rcases List.mem_append.mp hh with hh | hh
          · exact hq2 h hh
          · rw [List.mem_singleton.mp hh]
            exact ⟨ll, lp⟩
        · rw [List.mem_singleton.mp hh]
          exact ⟨by rw [m1, e1], m2⟩
  refine ⟨s, ?_, k4, k5⟩
  simp -implicitDefEqProofs only [sFor_e, iRng1_e, fCons_e, vv_e, fC_e, ob_ok, vvK_v, fConsA_e, fNil_e, fConsB_v, iR1A_e, a1_e, Option.bind_some, asI_e, iR1B_s, hs5, if_true, forA_e]
  rw [hr5]
  exact k1
end Zk48

namespace Zk48
open PySem PyProof.Rows L2 DL
variable {b : List Int} {q : List Pay}
theorem s_same (x y : Bool) : m__law_same [.fr (.bool x), .fr (.bool y)] = .ret (.val (.bool (decide (x = y)))) [.fr (.bool x), .fr (.bool y)] := by
  cases y <;> simp -implicitDefEqProofs [m__law_same, fb__law_same, N__law_same, startE]
theorem r11 (c : C8 b q) {hs : List (List Int)} (hh : ∀ h ∈ hs, h.length = b.length ∧ ∀ x ∈ h, 0 ≤ x) {o9 : Option Sl} (h9 : frO (some o9) = o9) {a0 a1 a4 a6 a7 a8 a11 a13 a14 a5 a15 : Option Sl} : ∃ o' : Option Sl × Option Sl, pc11 [a0, a1, some (.fr (eS b q)), some (.fr (.int (b.length : Nat))), a4, a5, a6, a7, a8, o9, some (.fr (eI (due (fin b q)))), a11, some (.ol false (hs.map eI)), a13, a14, a15] = .nx [a0, a1, some (.fr (eS b q)), some (.fr (.int (b.length : Nat))), a4, o'.1, a6, a7, a8, o9, some (.fr (eI (due (fin b q)))), a11, some (.fr (.list (hs.map eI))), a13, a14, o'.2] := by
  have e1 : (due (fin b q)).length = b.length := by rw [due_len, fin_len]
  have b6 := c.b6
  have b2 := c.b2
  have q9 := c.q9
  have h0 : (0 : Nat) ≤ sizeLine := le_size (by omega)
  have hss : sm (b.length : Int) = true := sm_nat (by omega)
  have hr : rngD 0 b.length = (List.range b.length).map fun n : Nat => PyData.int (n : Nat) := rngD_0 _
  obtain ⟨o', k1, _⟩ := forL_fold (T := .nm 5) (s := (sSeq (sSet 15 (f2 gGe (f1 gMinA (fCall m__law_all (fCons (vv (fCall m__law_with (fCons (vv (fVar 2)) (fCons (vv (fVar 5)) fNil)))) fNil))) (fC (.int 0)))) (sSeq (sIf (tOrB (tNotB (tT1 (fCall m__law_same (fCons (vv (fCall m_is_enough (fCons (vv (fVar 2)) (fCons (vv (fVar 5)) fNil)))) (fCons (vv (fVar 15)) fNil))))) (tAndB (tT1 (fVar 15)) (asB (f2 gNe (fLc (.nm 9) [9] (iRng1' (fVar 3)) (asB (f2 gLt (f2 gIx (fVar 5) (fVar 9)) (f2 gIx (fVar 10) (fVar 9)))) (fVar 9)) (fLst fNil))))) (sRet (fC (.bool false))) sNx) (sIf (tOrB (tNotB (tT1 (fCall m__law_same (fCons (vv (fCall m_comes_through (fCons (vv (fVar 2)) (fCons (vv (fVar 5)) fNil)))) (fCons (vv (f2 gEq (f2 gIx (fCall m__law_rest (fCons (vv (fCall m__law_with (fCons (vv (fVar 2)) (fCons (vv (fVar 5)) fNil)))) (fCons (vv (fC (.bool false))) fNil))) (fC (.int 1))) (fTup fNil))) fNil))))) (tAndB (tT1 (fCall m_comes_through (fCons (vv (fVar 2)) (fCons (vv (fVar 5)) fNil)))) (tNotB (tT1 (fVar 15))))) (sRet (fC (.bool false))) sNx))))
    (enc := eI) (fun (_ : Unit) (o : Option Sl × Option Sl) => [a0, a1, some (.fr (eS b q)), some (.fr (.int (b.length : Nat))), a4, o.1, a6, a7, a8, o9, some (.fr (eI (due (fin b q)))), a11, some (.fr (.list (hs.map eI))), a13, a14, o.2]) (fun s _ => s) (fun _ => True) hs () (a5, a15) trivial fun s o h hx _ => by
      obtain ⟨hl, hp⟩ := hh h hx
      have el : (ad b h).length = b.length := ad_len hl.symm
      have w1 := s_lwith b h q hl.symm (by omega)
      have w2 := s_lall (ad b h) q (by rw [el]; exact c.ok)
      have w3 : gMinA (eI (fin (ad b h) q)) = some (.val (.int (minL (fin (ad b h) q)))) := gMinA_t (fin_ne (by omega))
      have w4 := s_is_enough b h q c.ok (by omega) (by omega) (by omega) hl.symm
      have ko : okS (ad b h, q) := ⟨by simp only; rw [el]; exact c.ok, by simp only; omega⟩
      have w5 := s_comes b h q ko (by omega)
      have w6 := s_lrest (ad b h, q) ko (by simp only; omega)
      have w7 := gEq_Q (rest (ad b h, q)).2
      have w8 := fun hE => through_enough hl.symm (by omega) c.b0 hp c.qW hE
      have hN := gNe_nn
      refine ⟨(some (.fr (eI h)), some (.fr (.bool (decide (0 ≤ minL (fin (ad b h) q)))))), ?_, trivial⟩
      simp only at w6
      by_cases E : 0 ≤ minL (fin (ad b h) q)
      · have w9 := lt5 (l := h) (m := due (fin b q)) hl e1 (by omega) (fun p hb => enough_least hl.symm (by omega) c.ok hp E p hb) (a0 := a0) (a1 := a1) (a2 := some (.fr (eS b q))) (a3 := some (.fr (.int (b.length : Nat)))) (a4 := a4) (a6 := a6) (a7 := a7) (a8 := a8) (a11 := a11) (a12 := some (.fr (.list (hs.map eI)))) (a13 := a13) (a14 := a14) (a15 := some (.fr (.bool true)))
        rw [decide_eq_true E] at w4 ⊢
        by_cases R : (rest (ad b h, q)).2 = []
        · rw [decide_eq_true R] at w5 w7
          simp -implicitDefEqProofs [w1, w2, w3, w4, w5, s_same, E, hss, hr]
          rw [w9]
          simp -implicitDefEqProofs [w1, w5, w6, w7, hN, g1, s_same, E, h0, h9]
        · rw [decide_eq_false R] at w5 w7
          simp -implicitDefEqProofs [w1, w2, w3, w4, w5, s_same, E, hss, hr]
          rw [w9]
          simp -implicitDefEqProofs [w1, w5, w6, w7, hN, g1, s_same, E, h0, h9]
      · have R : ¬ (rest (ad b h, q)).2 = [] := fun R => E (w8 R)
        rw [decide_eq_false E] at w4 ⊢
        rw [decide_eq_false R] at w5 w7
        simp -implicitDefEqProofs [w1, w2, w3, w4, w5, w6, w7, g1, s_same, E, h0]
  refine ⟨o', ?_⟩
  simp -implicitDefEqProofs only [sFor_e, iSeq_e, vv_e, fVar_e, List.getElem?_cons_succ, List.getElem?_cons_zero, fVarK_l, ob_ok, vvK_o, vvO_l, List.set_cons_succ, List.set_cons_zero, iSeqA_v, itemsOf_l, iSeqB_s, forA_e]
  exact k1
theorem law_ok : ∀ ns : List Int, ns.length ≤ 63 → (∀ z ∈ ns, PySem.Builtin.Int.intBits z ≤ 1048576) → ∃ post, m_law [.fr (.list (ns.map .int))] = .ret (.val (.bool true)) post := by
  intro ns hn _
  obtain ⟨ds, k1, D1⟩ := s_open ns hn
  obtain ⟨b, q, ds2, k2, D2, b2, b6, b0, q9, qW⟩ := s_state D1 (by omega)
  have c : C8 b q := ⟨b2, b6, b0, q9, qW⟩
  unfold m_law
  rw [fb_law_eq, defM_e]
  have e0 : startE N_law.length [.fr (.list (ns.map .int))] = [some (.fr (.list (ns.map .int))), none, none, none, none, none, none, none, none, none, none, none, none, none, none, none] := rfl
  rw [e0]
  have x1 : pc1 [some (.fr (.list (ns.map .int))), none, none, none, none, none, none, none, none, none, none, none, none, none, none, none] = .nx [some (.fr (.list (ns.map .int))), some (.ol false ds), none, none, none, none, none, none, none, none, none, none, none, none, none, none] := by
    simp -implicitDefEqProofs [k1]
  have x2 : pc2 [some (.fr (.list (ns.map .int))), some (.ol false ds), none, none, none, none, none, none, none, none, none, none, none, none, none, none] = .nx [some (.fr (.list (ns.map .int))), some (.ol false ds2), some (.fr (eS b q)), none, none, none, none, none, none, none, none, none, none, none, none, none] := by
    simp -implicitDefEqProofs [k2]
  have x3 : pc3 [some (.fr (.list (ns.map .int))), some (.ol false ds2), some (.fr (eS b q)), none, none, none, none, none, none, none, none, none, none, none, none, none] = .nx [some (.fr (.list (ns.map .int))), some (.ol false ds2), some (.fr (eS b q)), some (.fr (.int (b.length : Nat))), none, none, none, none, none, none, none, none, none, none, none, none] := by
    simp -implicitDefEqProofs [g0, gLenI]
  rw [sSeq_e, x1, seqK_n, sSeq_e, x2, seqK_n, sSeq_e, x3, seqK_n, sSeq_e, r4 c, seqK_n, sSeq_e, r5 c, seqK_n, sSeq_e]
  obtain ⟨w, o6, d7, x6, hw⟩ := r6 c (a0 := some (.fr (.list (ns.map .int)))) (a1 := some (.ol false ds2)) (a4 := some (.fr (eI (due (fin b q))))) (a5 := none) (a10 := none) (a11 := none) (a12 := none) (a13 := none) (a14 := none) (a15 := none) (a8 := none)
  rw [x6, seqK_n, sSeq_e, r7 c, seqK_n, sSeq_e, r8 c hw, seqK_n, sSeq_e, r9 c, seqK_n, sSeq_e]
  obtain ⟨s, x10, s1, s2⟩ := r10 c D2 (by omega) (a0 := some (.fr (.list (ns.map .int)))) (a2 := some (.fr (eS b q))) (a4 := some (.fr (eI (due (fin b q))))) (a5 := none) (a6 := w) (a7 := some (.fr d7)) (a8 := o6) (a11 := some (.fr (eI (rows b q)))) (a15 := none) (a13 := none)
  rw [x10, seqK_n, sSeq_e]
  obtain ⟨o', x11⟩ := r11 c s1 s2 (a0 := some (.fr (.list (ns.map .int)))) (a1 := some (.ol false s.ds)) (a4 := some (.fr (eI (due (fin b q))))) (a6 := w) (a7 := some (.fr d7)) (a8 := o6) (a11 := some (.fr (eI (rows b q)))) (a13 := s.o13) (a14 := none) (a5 := none) (a15 := none)
  rw [x11, seqK_n]
  exact ⟨_, by simp -implicitDefEqProofs; rfl⟩
end Zk48

namespace Zk48
open PySem PySem.Spec PyProof.Rows L2 DL
def d__law_paid : He.DefD := ⟨("_law_paid", none), "_law_paid", "_law_paid", defArgs (top 29), defBody (top 29), defScope (top 29), [], []⟩
def d__law_all : He.DefD := ⟨("_law_all", none), "_law_all", "_law_all", defArgs (top 33), defBody (top 33), defScope (top 33), [], []⟩
def d__law_mixed : He.DefD := ⟨("_law_mixed", none), "_law_mixed", "_law_mixed", defArgs (top 24), defBody (top 24), defScope (top 24), [], []⟩
def d__law_draw : He.DefD := ⟨("_law_draw", none), "_law_draw", "_law_draw", defArgs (top 25), defBody (top 25), defScope (top 25), [], []⟩
def d__law_open : He.DefD := ⟨("_law_open", none), "_law_open", "_law_open", defArgs (top 23), defBody (top 23), defScope (top 23), [], []⟩
def d__law_can : He.DefD := ⟨("_law_can", none), "_law_can", "_law_can", defArgs (top 30), defBody (top 30), defScope (top 30), [], []⟩
def d__law_rest : He.DefD := ⟨("_law_rest", none), "_law_rest", "_law_rest", defArgs (top 31), defBody (top 31), defScope (top 31), [], []⟩
def d__law_same : He.DefD := ⟨("_law_same", none), "_law_same", "_law_same", defArgs (top 27), defBody (top 27), defScope (top 27), [], []⟩
def d__law_state : He.DefD := ⟨("_law_state", none), "_law_state", "_law_state", defArgs (top 28), defBody (top 28), defScope (top 28), [], []⟩
def d__law_with : He.DefD := ⟨("_law_with", none), "_law_with", "_law_with", defArgs (top 32), defBody (top 32), defScope (top 32), [], []⟩
def d_firsts : He.DefD := ⟨("firsts", none), "firsts", "firsts", defArgs (top 6), defBody (top 6), defScope (top 6), [], []⟩
def d_can_settle : He.DefD := ⟨("can_settle", none), "can_settle", "can_settle", defArgs (top 7), defBody (top 7), defScope (top 7), [], []⟩
def d_paid : He.DefD := ⟨("paid", none), "paid", "paid", defArgs (top 8), defBody (top 8), defScope (top 8), [], []⟩
def d_settled : He.DefD := ⟨("settled", none), "settled", "settled", defArgs (top 9), defBody (top 9), defScope (top 9), [], []⟩
def d_at_rest : He.DefD := ⟨("at_rest", none), "at_rest", "at_rest", defArgs (top 10), defBody (top 10), defScope (top 10), [], []⟩
def d_helped : He.DefD := ⟨("helped", none), "helped", "helped", defArgs (top 19), defBody (top 19), defScope (top 19), [], []⟩
def d_comes_through : He.DefD := ⟨("comes_through", none), "comes_through", "comes_through", defArgs (top 21), defBody (top 21), defScope (top 21), [], []⟩
def d_of_banks : He.DefD := ⟨("of_banks", none), "of_banks", "of_banks", defArgs (top 12), defBody (top 12), defScope (top 12), [], []⟩
def d_all_of : He.DefD := ⟨("all_of", none), "all_of", "all_of", defArgs (top 13), defBody (top 13), defScope (top 13), [], []⟩
def d_balances_behind : He.DefD := ⟨("balances_behind", none), "balances_behind", "balances_behind", defArgs (top 14), defBody (top 14), defScope (top 14), [], []⟩
def d_is_number : He.DefD := ⟨("is_number", none), "is_number", "is_number", defArgs (top 1), defBody (top 1), defScope (top 1), [], []⟩
def d_is_batch : He.DefD := ⟨("is_batch", none), "is_batch", "is_batch", defArgs (top 15), defBody (top 15), defScope (top 15), [], []⟩
def d_is_enough : He.DefD := ⟨("is_enough", none), "is_enough", "is_enough", defArgs (top 20), defBody (top 20), defScope (top 20), [], []⟩
def d_least_help : He.DefD := ⟨("least_help", none), "least_help", "least_help", defArgs (top 17), defBody (top 17), defScope (top 17), [], []⟩
def d_row_help : He.DefD := ⟨("row_help", none), "row_help", "row_help", defArgs (top 18), defBody (top 18), defScope (top 18), [], []⟩
def d_law : He.DefD := ⟨("law", none), "law", "law", defArgs (top 34), defBody (top 34), defScope (top 34), [], []⟩
def fn0 : List He.DefD := [d__law_paid, d__law_all, d__law_mixed, d__law_draw, d__law_open, d__law_can, d__law_rest, d__law_same, d__law_state, d__law_with, d_firsts, d_can_settle]
def fn1 : List He.DefD := [d_paid, d_settled, d_at_rest, d_helped, d_comes_through, d_of_banks, d_all_of, d_balances_behind, d_is_number, d_is_batch, d_is_enough, d_least_help]
def fn2 : List He.DefD := [d_row_help, d_law]
def fn : List He.DefD := fn0 ++ fn1 ++ fn2
def fa0 : List He.Fa := [.glo "_law_paid", .glo "_law_all", .glo "_law_mixed", .glo "_law_draw", .glo "_law_open", .glo "_law_can", .glo "_law_rest", .glo "_law_same", .glo "_law_state", .glo "_law_with", .glo "firsts", .glo "can_settle"]
def fa1 : List He.Fa := [.glo "paid", .glo "settled", .glo "at_rest", .glo "helped", .glo "comes_through", .glo "of_banks", .glo "all_of", .glo "balances_behind", .glo "is_number", .glo "is_batch", .glo "is_enough", .glo "least_help"]
def fa2 : List He.Fa := [.glo "row_help", .glo "law", .exc "Refused", .glo "Refused", .free "abs", .free "all", .free "bool", .free "enumerate", .free "int", .free "isinstance", .free "len", .free "list"]
def fa3 : List He.Fa := [.free "max", .free "min", .free "range", .free "sorted", .free "tuple", .free "zip"]
def fa : List He.Fa := fa0 ++ fa1 ++ fa2 ++ fa3
def tf : List He.Defn := [("is_batch", none)]
def ex (K : PySem.W.Frag) : Bool := true
def names0 : List PySem.Str := ["is_number", "TradeError", "Refused", "firsts", "can_settle", "paid", "settled", "at_rest", "of_banks", "all_of", "balances_behind", "is_batch"]
def names1 : List PySem.Str := ["least_help", "row_help", "helped", "is_enough", "comes_through", "_law_open", "_law_mixed", "_law_draw", "_law_int", "_law_same", "_law_state", "_law_paid"]
def names2 : List PySem.Str := ["_law_can", "_law_rest", "_law_with", "_law_all"]
def names : List PySem.Str := names0 ++ names1 ++ names2
abbrev R : PySem.W.OpenRow := PySem.W.OpenLaw.row PySem.Challenge.rw_matchedandcleared_k48_whole_helps
abbrev hk : PySem.W.Hook := He.hookX 5 fa fn [] tf ex
def ob (s : PySem.W.SharedT) : He.AlX := He.obsX 5 fa fn [] tf ex (HandSHeadRun.getT s)
theorem ob_eq (s : PySem.W.SharedT) : ob s = hk.obs s.abs := He.obsX_eq (HandSHeadRun.getT_eq s)
theorem run (w : World) : HandSHeadRun.RunEq R (PySem.W.view R.prog [34]) hk ob 4000 names w := by
  intro os
  kernel_rfl
theorem fx_of {K : PySem.W.Frag} {h : Heap} {mg : Str → Option Value} (X : K.In h) (G : h.Ns mainGlobals mg) (c : He.SaysD fa fn K) : Fx K mg where
  b_abs := He.free_ok X G (c.fact 28 (f := .free "abs") rfl)
  b_all := He.free_ok X G (c.fact 29 (f := .free "all") rfl)
  b_bool := He.free_ok X G (c.fact 30 (f := .free "bool") rfl)
  b_enumerate := He.free_ok X G (c.fact 31 (f := .free "enumerate") rfl)
  b_int := He.free_ok X G (c.fact 32 (f := .free "int") rfl)
  b_isinstance := He.free_ok X G (c.fact 33 (f := .free "isinstance") rfl)
  b_len := He.free_ok X G (c.fact 34 (f := .free "len") rfl)
  b_list := He.free_ok X G (c.fact 35 (f := .free "list") rfl)
  b_max := He.free_ok X G (c.fact 36 (f := .free "max") rfl)
  b_min := He.free_ok X G (c.fact 37 (f := .free "min") rfl)
  b_range := He.free_ok X G (c.fact 38 (f := .free "range") rfl)
  b_sorted := He.free_ok X G (c.fact 39 (f := .free "sorted") rfl)
  b_tuple := He.free_ok X G (c.fact 40 (f := .free "tuple") rfl)
  b_zip := He.free_ok X G (c.fact 41 (f := .free "zip") rfl)
  x_Refused := He.exc_ok (c.fact 26 (f := .exc "Refused") rfl)
  y_Refused := He.glo_ok X G (c.fact 27 (f := .glo "Refused") rfl)
  g__law_paid := He.glo_ok X G (c.fact 0 (f := .glo "_law_paid") rfl)
  g__law_all := He.glo_ok X G (c.fact 1 (f := .glo "_law_all") rfl)
  g__law_mixed := He.glo_ok X G (c.fact 2 (f := .glo "_law_mixed") rfl)
  g__law_draw := He.glo_ok X G (c.fact 3 (f := .glo "_law_draw") rfl)
  g__law_open := He.glo_ok X G (c.fact 4 (f := .glo "_law_open") rfl)
  g__law_can := He.glo_ok X G (c.fact 5 (f := .glo "_law_can") rfl)
  g__law_rest := He.glo_ok X G (c.fact 6 (f := .glo "_law_rest") rfl)
  g__law_same := He.glo_ok X G (c.fact 7 (f := .glo "_law_same") rfl)
  g__law_state := He.glo_ok X G (c.fact 8 (f := .glo "_law_state") rfl)
  g__law_with := He.glo_ok X G (c.fact 9 (f := .glo "_law_with") rfl)
  g_firsts := He.glo_ok X G (c.fact 10 (f := .glo "firsts") rfl)
  g_can_settle := He.glo_ok X G (c.fact 11 (f := .glo "can_settle") rfl)
  g_paid := He.glo_ok X G (c.fact 12 (f := .glo "paid") rfl)
  g_settled := He.glo_ok X G (c.fact 13 (f := .glo "settled") rfl)
  g_at_rest := He.glo_ok X G (c.fact 14 (f := .glo "at_rest") rfl)
  g_helped := He.glo_ok X G (c.fact 15 (f := .glo "helped") rfl)
  g_comes_through := He.glo_ok X G (c.fact 16 (f := .glo "comes_through") rfl)
  g_of_banks := He.glo_ok X G (c.fact 17 (f := .glo "of_banks") rfl)
  g_all_of := He.glo_ok X G (c.fact 18 (f := .glo "all_of") rfl)
  g_balances_behind := He.glo_ok X G (c.fact 19 (f := .glo "balances_behind") rfl)
  g_is_number := He.glo_ok X G (c.fact 20 (f := .glo "is_number") rfl)
  g_is_batch := He.glo_ok X G (c.fact 21 (f := .glo "is_batch") rfl)
  g_is_enough := He.glo_ok X G (c.fact 22 (f := .glo "is_enough") rfl)
  g_least_help := He.glo_ok X G (c.fact 23 (f := .glo "least_help") rfl)
  g_row_help := He.glo_ok X G (c.fact 24 (f := .glo "row_help") rfl)
  g_law := He.glo_ok X G (c.fact 25 (f := .glo "law") rfl)
theorem law_fn [Inhabited Tbx] {P : Program} {w : World} {K : PySem.W.Frag} {mg : Str → Option Value} (fx : Fx K mg) (c : He.SaysD fa fn K) (tm : ∀ p ∈ tf, (He.cT K p).2 ∈ tabsI) :
    ∃ fd : FuncData, FnD K "law" 34 fd ∧ ∀ base : Heap, (∀ p ∈ tf, GxR.TabB base mg (He.cT K p).1 (He.cT K p).2) → OkF P w K mg base 7 "law" fd P_law m_law := by
  obtain ⟨fd__law_paid, F__law_paid⟩ := c.def_ 0 (d := d__law_paid) rfl
  obtain ⟨fd__law_all, F__law_all⟩ := c.def_ 1 (d := d__law_all) rfl
  obtain ⟨fd__law_mixed, F__law_mixed⟩ := c.def_ 2 (d := d__law_mixed) rfl
  obtain ⟨fd__law_draw, F__law_draw⟩ := c.def_ 3 (d := d__law_draw) rfl
  obtain ⟨fd__law_open, F__law_open⟩ := c.def_ 4 (d := d__law_open) rfl
  obtain ⟨fd__law_can, F__law_can⟩ := c.def_ 5 (d := d__law_can) rfl
  obtain ⟨fd__law_rest, F__law_rest⟩ := c.def_ 6 (d := d__law_rest) rfl
  obtain ⟨fd__law_same, F__law_same⟩ := c.def_ 7 (d := d__law_same) rfl
  obtain ⟨fd__law_state, F__law_state⟩ := c.def_ 8 (d := d__law_state) rfl
  obtain ⟨fd__law_with, F__law_with⟩ := c.def_ 9 (d := d__law_with) rfl
  obtain ⟨fd_firsts, F_firsts⟩ := c.def_ 10 (d := d_firsts) rfl
  obtain ⟨fd_can_settle, F_can_settle⟩ := c.def_ 11 (d := d_can_settle) rfl
  obtain ⟨fd_paid, F_paid⟩ := c.def_ 12 (d := d_paid) rfl
  obtain ⟨fd_settled, F_settled⟩ := c.def_ 13 (d := d_settled) rfl
  obtain ⟨fd_at_rest, F_at_rest⟩ := c.def_ 14 (d := d_at_rest) rfl
  obtain ⟨fd_helped, F_helped⟩ := c.def_ 15 (d := d_helped) rfl
  obtain ⟨fd_comes_through, F_comes_through⟩ := c.def_ 16 (d := d_comes_through) rfl
  obtain ⟨fd_of_banks, F_of_banks⟩ := c.def_ 17 (d := d_of_banks) rfl
  obtain ⟨fd_all_of, F_all_of⟩ := c.def_ 18 (d := d_all_of) rfl
  obtain ⟨fd_balances_behind, F_balances_behind⟩ := c.def_ 19 (d := d_balances_behind) rfl
  obtain ⟨fd_is_number, F_is_number⟩ := c.def_ 20 (d := d_is_number) rfl
  obtain ⟨fd_is_batch, F_is_batch⟩ := c.def_ 21 (d := d_is_batch) rfl
  obtain ⟨fd_is_enough, F_is_enough⟩ := c.def_ 22 (d := d_is_enough) rfl
  obtain ⟨fd_least_help, F_least_help⟩ := c.def_ 23 (d := d_least_help) rfl
  obtain ⟨fd_row_help, F_row_help⟩ := c.def_ 24 (d := d_row_help) rfl
  obtain ⟨fd_law, F_law⟩ := c.def_ 25 (d := d_law) rfl
  refine ⟨fd_law, F_law, fun base tb => ?_⟩
  have G__law_paid : OkF P w K mg base 1 "_law_paid" fd__law_paid P__law_paid m__law_paid := ok__law_paid fx F__law_paid
  have G__law_all : OkF P w K mg base 2 "_law_all" fd__law_all P__law_all m__law_all := ok__law_all fx F__law_all F__law_paid G__law_paid
  have G__law_mixed : OkF P w K mg base 1 "_law_mixed" fd__law_mixed P__law_mixed m__law_mixed := ok__law_mixed fx F__law_mixed
  have G__law_draw : OkF P w K mg base 2 "_law_draw" fd__law_draw P__law_draw m__law_draw := ok__law_draw fx F__law_draw F__law_mixed G__law_mixed
  have G__law_open : OkF P w K mg base 1 "_law_open" fd__law_open P__law_open m__law_open := ok__law_open fx F__law_open
  have G__law_can : OkF P w K mg base 1 "_law_can" fd__law_can P__law_can m__law_can := ok__law_can fx F__law_can
  have G__law_rest : OkF P w K mg base 2 "_law_rest" fd__law_rest P__law_rest m__law_rest := ok__law_rest fx F__law_rest F__law_can G__law_can F__law_paid G__law_paid
  have G__law_same : OkF P w K mg base 1 "_law_same" fd__law_same P__law_same m__law_same := ok__law_same fx F__law_same
  have G__law_state : OkF P w K mg base 3 "_law_state" fd__law_state P__law_state m__law_state := ok__law_state fx F__law_state F__law_draw G__law_draw
  have G__law_with : OkF P w K mg base 1 "_law_with" fd__law_with P__law_with m__law_with := ok__law_with fx F__law_with
  have G_firsts : OkF P w K mg base 1 "firsts" fd_firsts P_firsts m_firsts := ok_firsts fx F_firsts
  have G_can_settle : OkF P w K mg base 2 "can_settle" fd_can_settle P_can_settle m_can_settle := ok_can_settle fx F_can_settle F_firsts G_firsts
  have G_paid : OkF P w K mg base 1 "paid" fd_paid P_paid m_paid := ok_paid fx F_paid
  have G_settled : OkF P w K mg base 3 "settled" fd_settled P_settled m_settled := ok_settled fx F_settled F_can_settle G_can_settle F_paid G_paid
  have G_at_rest : OkF P w K mg base 4 "at_rest" fd_at_rest P_at_rest m_at_rest := ok_at_rest fx F_at_rest F_can_settle G_can_settle F_settled G_settled
  have G_helped : OkF P w K mg base 1 "helped" fd_helped P_helped m_helped := ok_helped fx F_helped
  have G_comes_through : OkF P w K mg base 5 "comes_through" fd_comes_through P_comes_through m_comes_through := ok_comes_through fx F_comes_through F_at_rest G_at_rest F_helped G_helped
  have G_of_banks : OkF P w K mg base 1 "of_banks" fd_of_banks P_of_banks m_of_banks := ok_of_banks fx F_of_banks
  have G_all_of : OkF P w K mg base 2 "all_of" fd_all_of P_all_of m_all_of := ok_all_of fx F_all_of F_of_banks G_of_banks
  have G_balances_behind : OkF P w K mg base 2 "balances_behind" fd_balances_behind P_balances_behind m_balances_behind := ok_balances_behind fx F_balances_behind F_of_banks G_of_banks F_paid G_paid
  have G_is_number : OkF P w K mg base 1 "is_number" fd_is_number P_is_number m_is_number := ok_is_number fx F_is_number
  have G_is_batch : OkF P w K mg base 5 "is_batch" fd_is_batch P_is_batch m_is_batch := ok_is_batch fx F_is_batch F_all_of G_all_of F_balances_behind G_balances_behind F_is_number G_is_number (tb ("is_batch", none) (List.mem_of_getElem? (i := 0) rfl)) (tm ("is_batch", none) (List.mem_of_getElem? (i := 0) rfl))
  have G_is_enough : OkF P w K mg base 6 "is_enough" fd_is_enough P_is_enough m_is_enough := ok_is_enough fx F_is_enough F_all_of G_all_of F_helped G_helped F_is_batch G_is_batch
  have G_least_help : OkF P w K mg base 3 "least_help" fd_least_help P_least_help m_least_help := ok_least_help fx F_least_help F_all_of G_all_of F_balances_behind G_balances_behind
  have G_row_help : OkF P w K mg base 2 "row_help" fd_row_help P_row_help m_row_help := ok_row_help fx F_row_help F_paid G_paid
  have G_law : OkF P w K mg base 7 "law" fd_law P_law m_law := ok_law fx F_law F__law_all G__law_all F__law_draw G__law_draw F__law_open G__law_open F__law_paid G__law_paid F__law_rest G__law_rest F__law_same G__law_same F__law_state G__law_state F__law_with G__law_with F_comes_through G_comes_through F_is_enough G_is_enough F_least_help G_least_help F_row_help G_row_help
  exact G_law
end Zk48

open PySem PySem.W PySem.Calls PyProof.Rows
theorem PySem.Challenge.cw_matchedandcleared_k48_whole_helps_holds : PySem.Challenge.rw_matchedandcleared_k48_whole_helps.Holds := by
  w_on; o_law
  refine HandSHeadRun.head_any (r := OpenLaw.row PySem.Challenge.rw_matchedandcleared_k48_whole_helps) (q := view (OpenLaw.row PySem.Challenge.rw_matchedandcleared_k48_whole_helps).prog [34]) (H := Zk48.hk) (ob := Zk48.ob) (M := 4000) (loose := Zk48.names) (d := HandSHeadRun.topDef (OpenLaw.row PySem.Challenge.rw_matchedandcleared_k48_whole_helps).prog 34) (kwd := []) Zk48.ob_eq
    (by kernel_rfl) (fun s => by kernel_rfl) Zk48.run (by kernel_rfl) (by kernel_rfl) (by kernel_rfl) (by rfl) (by first | assumption | decide +kernel) (by decide +kernel) ⟨rfl, rfl, rfl, rfl, rfl, by decide +kernel⟩ ?hw ?hc
  case hw => w_witness2
  case hc =>
    refine LamX.walk_ofTsE (l := PySem.Challenge.rw_matchedandcleared_k48_whole_helps) (n := 63) (k := 7) (x := "script") (CX := fun w => L2.CX PySem.Challenge.rw_matchedandcleared_k48_whole_helps.prog w) rfl (by decide) (by kernel_rfl) ⟨rfl, by decide, by decide⟩ ?F (fun w H s e s' ⟨_, _, _, _, _, _, _, _, _, _, _, _, z⟩ => z)
    intro w mg fa h Y G hmg0
    obtain ⟨K, KX, c⟩ := Y
    have hmg : mg ("law" : PySem.Str) = some (.ref fa) := by
      have e : (HandSHeadRun.topDef (OpenLaw.row PySem.Challenge.rw_matchedandcleared_k48_whole_helps).prog 34).name = ("law" : PySem.Str) := by kernel_rfl
      rw [← e]
      exact hmg0
    letI : Inhabited DL.Tbx := ⟨⟨(Zk48.tf.map (He.cT K)).map (·.2)⟩⟩
    have fx := Zk48.fx_of KX G c.t.d
    obtain ⟨fd, F, ok⟩ := Zk48.law_fn (P := PySem.Challenge.rw_matchedandcleared_k48_whole_helps.prog) (w := w) fx c.t.d (fun p hp => List.mem_map.mpr ⟨_, List.mem_map.mpr ⟨p, hp, rfl⟩, rfl⟩)
    have b := L2.FunD.bindsA (ps := ["script"]) F fun _ _ _ _ _ _ us hl => match us, hl with | [_], _ => rfl
    exact ⟨K, KX, DL.law_at (ps := Zk48.P_law) (m := Zk48.m_law) KX hmg fx.g_law c.hd c.out c.empty rfl (fun s v => b s [v] rfl) rfl ok Zk48.law_ok⟩

