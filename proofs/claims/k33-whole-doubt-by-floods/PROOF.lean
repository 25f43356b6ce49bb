import PyProof.Rows.All
import Wide.All
import OpenK.AllK
import Wide.FinOn
import HandS.ForMost
import HandS.IsInst
import HandS.Walk
import HandS.TupAny
import HandS.Wide
import HandS.Conv
import HandS.More
import HandS.DictComp
import HandS.SetKeys
import HandS.Style
import HandS.ListItems
import KE.GoesEnum
import KE.KDictList
import HandS.Sort
import PySem.Challenge.RW_ringclaims_k33_whole_doubt_by_floods
import KE.KDictDisplayH
import KE.KTupSum
import KE.KRevSl
import PyProof.ReprRoads
import PyProof.ReprBulk
import HandS.EndBits
import HandS.Head0
import HandS.Head1
import HandS.Head2
import HandS.HeadEnd
import HandS.HeadHook1
-- part FwBase
set_option Elab.async false
set_option maxRecDepth 100000
set_option maxHeartbeats 4000000
set_option linter.all false
/-! A layer over HandS: frozen data (PyData), owned lists and dicts, slots by kinds; judgements of pure code over plain data. -/
namespace Fw
open PySem PySem.Spec PyProof.Rows L2
abbrev St := L2.St
/-! ### canonical readings -/
@[irreducible] def teOf (X : Cx) (e : Expr) : TE := fun sg H Q => ∀ pins s, Inv X pins sg H s → wpAny (model X.prog X.w) X.A (eval e X.env) (EP X pins sg Q) X.xe s
theorem te_at {X : Cx} {e : Expr} {sg : St} {H : Hp} {Q : VK} (h : teOf X e sg H Q) : ∀ pins s, Inv X pins sg H s → wpAny (model X.prog X.w) X.A (eval e X.env) (EP X pins sg Q) X.xe s := by unfold teOf at h; exact h
theorem te_mk {X : Cx} {e : Expr} {sg : St} {H : Hp} {Q : VK} (h : ∀ pins s, Inv X pins sg H s → wpAny (model X.prog X.w) X.A (eval e X.env) (EP X pins sg Q) X.xe s) : teOf X e sg H Q := by unfold teOf; exact h
theorem pe_of (X : Cx) (e : Expr) : PE X e (teOf X e) := ⟨fun pins s _ _ _ I h => te_at h pins s I⟩
theorem use_e {X : Cx} {e : Expr} {te : TE} (h : PE X e te) {sg : St} {H : Hp} {Q : VK} (q : te sg H Q) : teOf X e sg H Q := te_mk fun pins s I => h.run pins s sg H Q I q
@[irreducible] def ttOf (X : Cx) (e : Expr) : TT := fun sg H Q => ∀ pins s, Inv X pins sg H s → wpAny (model X.prog X.w) X.A (isTrue e X.env (eval e X.env)) (TP X pins sg Q) X.xe s
theorem tt_at {X : Cx} {e : Expr} {sg : St} {H : Hp} {Q : Bool → Hp → Prop} (h : ttOf X e sg H Q) : ∀ pins s, Inv X pins sg H s → wpAny (model X.prog X.w) X.A (isTrue e X.env (eval e X.env)) (TP X pins sg Q) X.xe s := by unfold ttOf at h; exact h
theorem tt_mk {X : Cx} {e : Expr} {sg : St} {H : Hp} {Q : Bool → Hp → Prop} (h : ∀ pins s, Inv X pins sg H s → wpAny (model X.prog X.w) X.A (isTrue e X.env (eval e X.env)) (TP X pins sg Q) X.xe s) : ttOf X e sg H Q := by unfold ttOf; exact h
theorem pt_of (X : Cx) (e : Expr) : PT X e (ttOf X e) := ⟨fun pins s _ _ _ I h => tt_at h pins s I⟩
theorem use_t {X : Cx} {e : Expr} {t : TT} (h : PT X e t) {sg : St} {H : Hp} {Q : Bool → Hp → Prop} (q : t sg H Q) : ttOf X e sg H Q := tt_mk fun pins s I => h.run pins s sg H Q I q
@[irreducible] def taOf (X : Cx) (es : List Expr) : TA := fun sg H Q => ∀ pos pins s, Inv X pins sg H s → wpAny (model X.prog X.w) X.A (spliced (backTo pos (starEach es X.env))) (AP X pins sg Q) X.xe s
theorem pa_of (X : Cx) (es : List Expr) : PA X es (taOf X es) := ⟨fun pos pins s _ _ _ I h => by unfold taOf at h; exact h pos pins s I⟩
theorem use_a {X : Cx} {es : List Expr} {t : TA} (h : PA X es t) {sg : St} {H : Hp} {Q : List V → Hp → Prop} (q : t sg H Q) : taOf X es sg H Q := by unfold taOf; exact fun pos pins s I => h.run pos pins s sg H Q I q
@[irreducible] def tsOf (X : Cx) (st : Stmt) : TS := fun D sg H => ∀ pins s, Inv X pins sg H s → wpAny (model X.prog X.w) X.A (exec st X.env) (SP X pins D) X.xe s
theorem ps_of (X : Cx) (st : Stmt) : PS X st (tsOf X st) := ⟨fun pins s _ _ _ I h => by unfold tsOf at h; exact h pins s I⟩
theorem use_s {X : Cx} {st : Stmt} {t : TS} (h : PS X st t) {D : Ends} {sg : St} {H : Hp} (q : t D sg H) : tsOf X st D sg H := by unfold tsOf; exact fun pins s I => h.run pins s sg H D I q
@[irreducible] def tbOf (X : Cx) (sts : List Stmt) : TS := fun D sg H => ∀ pins s, Inv X pins sg H s → wpAny (model X.prog X.w) X.A (execs sts X.env) (SP X pins D) X.xe s
theorem pb_of (X : Cx) (sts : List Stmt) : PSs X sts (tbOf X sts) := ⟨fun pins s _ _ _ I h => by unfold tbOf at h; exact h pins s I⟩
theorem use_b {X : Cx} {sts : List Stmt} {t : TS} (h : PSs X sts t) {D : Ends} {sg : St} {H : Hp} (q : t D sg H) : tbOf X sts D sg H := by unfold tbOf; exact fun pins s I => h.run pins s sg H D I q

/-! ### frozen data -/
mutual
inductive Dq (F : Hp) : V → PyData → Prop
  | non : Dq F .non .none
  | bl (b : Bool) : Dq F (.bl b) (.bool b)
  | int (i : Int) : Dq F (.int i) (.int i)
  | str (x : Str) : Dq F (.str x) (.str x)
  | lst {a : Addr} {xs : List V} {ds : List PyData} : F a = some (.lst xs) → DqA F xs ds → Dq F (.ref a) (.list ds)
  | tup {a : Addr} {xs : List V} {ds : List PyData} : F a = some (.tup xs) → DqA F xs ds → Dq F (.ref a) (.tuple ds)
  | dct {a : Addr} : F a = some (.dK []) → Dq F (.ref a) (.dict [])
inductive DqA (F : Hp) : List V → List PyData → Prop
  | nil : DqA F [] []
  | cons {v : V} {vs : List V} {d : PyData} {ds : List PyData} : Dq F v d → DqA F vs ds → DqA F (v :: vs) (d :: ds)
end
mutual
theorem Dq.mono {F F' : Hp} (e : Same F F') : ∀ (d : PyData) (v : V), Dq F v d → Dq F' v d
  | .none, _, h => by cases h; exact .non
  | .bool b, _, h => by cases h; exact .bl b
  | .int i, _, h => by cases h; exact .int i
  | .str x, _, h => by cases h; exact .str x
  | .list ds, _, h => by
    cases h with
    | lst h1 h2 => exact .lst (e _ _ h1) (DqA.mono e ds _ h2)
  | .tuple ds, _, h => by
    cases h with
    | tup h1 h2 => exact .tup (e _ _ h1) (DqA.mono e ds _ h2)
  | .dict kvs, _, h => by
    cases h with
    | dct h1 => exact .dct (e _ _ h1)
theorem DqA.mono {F F' : Hp} (e : Same F F') : ∀ (ds : List PyData) (vs : List V), DqA F vs ds → DqA F' vs ds
  | [], _, h => by cases h; exact .nil
  | d :: ds, _, h => by
    cases h with
    | cons h1 h2 => exact .cons (Dq.mono e d _ h1) (DqA.mono e ds _ h2)
end
theorem Dq.up {F F' : Hp} {d : PyData} {v : V} (h : Dq F v d) (e : Same F F') : Dq F' v d := Dq.mono e d v h
theorem DqA.up {F F' : Hp} {d : List PyData} {v : List V} (h : DqA F v d) (e : Same F F') : DqA F' v d := DqA.mono e d v h
theorem DqA.len {F : Hp} : ∀ {ds : List PyData} {vs : List V}, DqA F vs ds → vs.length = ds.length
  | [], _, h => by cases h; rfl
  | d :: ds, _, h => by
    cases h with
    | cons h1 h2 => rw [List.length_cons, List.length_cons, DqA.len h2]
theorem DqA.get {F : Hp} : ∀ {ds : List PyData} {vs : List V} {i : Nat} {d : PyData}, DqA F vs ds → ds[i]? = some d → ∃ v, vs[i]? = some v ∧ Dq F v d
  | [], _, i, d, h, e => by simp at e
  | d :: ds, _, 0, d', h, e => by
    cases h with
    | cons h1 h2 => simp at e; subst e; exact ⟨_, rfl, h1⟩
  | d :: ds, _, i + 1, d', h, e => by
    cases h with
    | cons h1 h2 =>
      obtain ⟨v, hv, hd⟩ := DqA.get (i := i) (d := d') h2 (by simpa using e)
      exact ⟨v, by simpa using hv, hd⟩
theorem DqA.getV {F : Hp} : ∀ {ds : List PyData} {vs : List V} {i : Nat} {v : V}, DqA F vs ds → vs[i]? = some v → ∃ d, ds[i]? = some d ∧ Dq F v d
  | [], _, i, d, h, e => by cases h; simp at e
  | d :: ds, _, 0, v', h, e => by
    cases h with
    | cons h1 h2 => simp at e; subst e; exact ⟨_, rfl, h1⟩
  | d :: ds, _, i + 1, v', h, e => by
    cases h with
    | cons h1 h2 =>
      obtain ⟨v, hv, hd⟩ := DqA.getV (i := i) (v := v') h2 (by simpa using e)
      exact ⟨v, by simpa using hv, hd⟩
theorem DqA.app {F : Hp} : ∀ {ds es : List PyData} {vs ws : List V}, DqA F vs ds → DqA F ws es → DqA F (vs ++ ws) (ds ++ es)
  | [], _, _, _, h, k => by cases h; exact k
  | d :: ds, _, _, _, h, k => by
    cases h with
    | cons h1 h2 => exact .cons h1 (DqA.app h2 k)
theorem DqA.drop {F : Hp} : ∀ (n : Nat) {ds : List PyData} {vs : List V}, DqA F vs ds → DqA F (vs.drop n) (ds.drop n)
  | 0, _, _, h => h
  | n + 1, [], _, h => by cases h; exact .nil
  | n + 1, d :: ds, _, h => by
    cases h with
    | cons h1 h2 => exact DqA.drop n h2
theorem DqA.take {F : Hp} : ∀ (n : Nat) {ds : List PyData} {vs : List V}, DqA F vs ds → DqA F (vs.take n) (ds.take n)
  | 0, _, _, h => .nil
  | n + 1, [], _, h => by cases h; exact .nil
  | n + 1, d :: ds, _, h => by
    cases h with
    | cons h1 h2 => exact .cons h1 (DqA.take n h2)
theorem DqA.rev {F : Hp} : ∀ {ds : List PyData} {vs : List V}, DqA F vs ds → DqA F vs.reverse ds.reverse
  | [], _, h => by cases h; exact .nil
  | d :: ds, _, h => by
    cases h with
    | cons h1 h2 => rw [List.reverse_cons, List.reverse_cons]; exact (DqA.rev h2).app (.cons h1 .nil)
theorem DqA.rep {F : Hp} {ds : List PyData} {vs : List V} (h : DqA F vs ds) : ∀ k : Nat, DqA F (List.replicate k vs).flatten (List.replicate k ds).flatten
  | 0 => .nil
  | k + 1 => by
    rw [List.replicate_succ, List.replicate_succ, List.flatten_cons, List.flatten_cons]
    exact h.app (DqA.rep h k)
theorem DqA.ints {F : Hp} : ∀ {ns : List Int} {vs : List V}, DqA F vs (ns.map PyData.int) → vs = ns.map V.int
  | [], _, h => by cases h; rfl
  | n :: ns, _, h => by
    cases h with
    | cons h1 h2 => cases h1; rw [DqA.ints h2]; rfl
theorem DqA.ofInts {F : Hp} : ∀ (ns : List Int), DqA F (ns.map V.int) (ns.map PyData.int)
  | [] => .nil
  | n :: ns => .cons (.int n) (DqA.ofInts ns)
theorem DqA.bls {F : Hp} : ∀ {ns : List Bool} {vs : List V}, DqA F vs (ns.map PyData.bool) → vs = ns.map V.bl
  | [], _, h => by cases h; rfl
  | n :: ns, _, h => by
    cases h with
    | cons h1 h2 => cases h1; rw [DqA.bls h2]; rfl
/-- heaps joined -/
structure Gr (F H F' H' : Hp) : Prop where
  ff : Same F F'
  fh : Same F' H'
  hh : Same H H'
  nf : ∀ a, H a ≠ none → F a = none → F' a = none
theorem Gr.refl {F H : Hp} (e : Same F H) : Gr F H F H := ⟨Same.refl F, e, Same.refl H, fun _ _ h => h⟩
theorem Gr.trans {F H F1 H1 F2 H2 : Hp} (a : Gr F H F1 H1) (b : Gr F1 H1 F2 H2) : Gr F H F2 H2 :=
  ⟨a.ff.trans b.ff, b.fh, a.hh.trans b.hh, fun x h1 h2 => b.nf x (fun z => by
    cases e : H x with
    | none => exact h1 e
    | some o => rw [a.hh x o e] at z; cases z) (a.nf x h1 h2)⟩
theorem same_new {H : Hp} {p : Addr} {o : HO} (h : H p = none) : Same H (upd H p o) := fun a u e => by
  rw [upd_ne (ne_of_none e h)]; exact e
theorem same_upd {F H : Hp} {p : Addr} {o : HO} (e : Same F H) (h : H p = none) : Same (upd F p o) (upd H p o) := fun a u q => by
  by_cases z : a = p
  · subst z; rw [upd_same] at q ⊢; exact q
  · rw [upd_ne z] at q ⊢; exact e a u q
/-- a new object laid, frozen -/
theorem Gr.new {F H : Hp} {p : Addr} {o : HO} (e : Same F H) (h : H p = none) : Gr F H (upd F p o) (upd H p o) :=
  ⟨same_new (e.free h), same_upd e h, same_new h, fun a h1 h2 => by
    have z : a ≠ p := fun q => h1 (by rw [q]; exact h)
    rw [upd_ne z]; exact h2⟩
/-- a new object laid, not frozen -/
theorem Gr.lay {F H : Hp} {p : Addr} {o : HO} (e : Same F H) (h : H p = none) : Gr F H F (upd H p o) :=
  ⟨Same.refl F, e.trans (same_new h), same_new h, fun a h1 h2 => h2⟩
/-- a value's kind: data, or an instance that stays as it is -/
inductive Dt where
  | d (x : PyData)
  | ob (C : Addr) (fs : List (Str × PyData))
  | dk (ks : List (Key × PyData))
  | ad (a : Addr)
  | sc (K : PySem.W.Frag) (ns : List Int)
def DtR (F : Hp) (v : V) : Dt → Prop
  | .d x => Dq F v x
  | .ad a => v = .ref a
  | .sc K ns => ∃ a, v = .ref a ∧ SqL K F a (ns.map V.int)
  | .dk ks => ∃ a kvs, v = .ref a ∧ F a = some (.dK kvs) ∧ Paired (fun p q => p.1 = q.1 ∧ Dq F p.2 q.2) kvs ks
  | .ob C fs => ∃ a dx vs, v = .ref a ∧ F a = some (.ins C dx vs) ∧ ∀ f d, fs.lookup f = some d → ∃ u, vs.lookup f = some u ∧ Dq F u d
theorem Pd.up {α β : Type} {G G' : α → β → Prop} (e : ∀ a b, G a b → G' a b) : ∀ {xs : List α} {ys : List β}, Paired G xs ys → Paired G' xs ys
  | _, _, .nil => .nil
  | _, _, .cons h t => .cons (e _ _ h) (Pd.up e t)
theorem DtR.up {F F' : Hp} {v : V} {r : Dt} (h : DtR F v r) (e : Same F F') : DtR F' v r := by
  cases r with
  | d x => exact Dq.up h e
  | ad a => exact h
  | sc K ns =>
    obtain ⟨a, h1, h2⟩ := h
    refine ⟨a, h1, ?_⟩
    rcases h2 with (h2 | ⟨o, h2⟩) | h2
    · exact .inl (.inl (e _ _ h2))
    · exact .inl (.inr ⟨o, e _ _ h2⟩)
    · exact .inr h2
  | dk ks =>
    obtain ⟨a, kvs, h1, h2, h3⟩ := h
    exact ⟨a, kvs, h1, e _ _ h2, Pd.up (fun _ _ q => ⟨q.1, q.2.up e⟩) h3⟩
  | ob C fs =>
    obtain ⟨a, dx, vs, h1, h2, h3⟩ := h
    exact ⟨a, dx, vs, h1, e _ _ h2, fun f d q => let ⟨u, h4, h5⟩ := h3 f d q; ⟨u, h4, h5.up e⟩⟩
abbrev DtA (F : Hp) : List V → List Dt → Prop := Paired (DtR F)
theorem DtA.up {F F' : Hp} {vs : List V} {rs : List Dt} (h : DtA F vs rs) (e : Same F F') : DtA F' vs rs := Pd.up (fun _ _ q => DtR.up q e) h
abbrev KvR (F : Hp) : List (Key × V) → List (Key × PyData) → Prop := Paired fun p q => p.1 = q.1 ∧ Dq F p.2 q.2
theorem KvR.up {F F' : Hp} {kvs : List (Key × V)} {ks : List (Key × PyData)} (h : KvR F kvs ks) (e : Same F F') : KvR F' kvs ks := Pd.up (fun _ _ q => ⟨q.1, q.2.up e⟩) h

abbrev FsR (F : Hp) : List (Str × V) → List (Str × PyData) → Prop := Paired fun p q => p.1 = q.1 ∧ Dq F p.2 q.2
theorem FsR.up {F F' : Hp} {kvs : List (Str × V)} {ks : List (Str × PyData)} (h : FsR F kvs ks) (e : Same F F') : FsR F' kvs ks := Pd.up (fun _ _ q => ⟨q.1, q.2.up e⟩) h
/-! ### the hand -/
/-- what the drawing hand holds: the script's numbers without sign, the place, the number that is drawn from, two counters -/
def HandOk (hs : List PyData) : Prop := ∃ (cs : List Int) (at_ num seed cnt : Int), hs = [.list (cs.map PyData.int), .int at_, .int num, .int seed, .int cnt] ∧
  (∀ c ∈ cs, 0 ≤ c) ∧ cs.length ≤ 63 ∧ 0 ≤ at_ ∧ at_ ≤ cs.length ∧ 0 ≤ num
/-! ### slots -/
inductive Sl where
  | no
  | v (r : Dt)
  | lst (a : Addr) (xs : List PyData)
  | dct (a : Addr) (ks : List (Key × PyData))
  | hand (a : Addr)
  | rf (a : Addr)
  | ins (a C dx : Addr) (fs : List (Str × PyData))
  | obj (a C dx : Addr) (vs : List (Str × V))
  | gd (a : Addr) (ks : List (Key × PyData))
  | xt (a : Addr) (S : HO → List V → Prop) (ks : List PyData)
abbrev Ty := List Sl
def Sl.ad : Sl → Option Addr
  | .lst a _ => some a
  | .dct a _ => some a
  | .hand a => some a
  | .ins a _ _ _ => some a
  | .obj a _ _ _ => some a
  | .gd a _ => some a
  | .xt a _ _ => some a
  | _ => none
def SlK (F H : Hp) (v : Option V) : Sl → Prop
  | .no => True
  | .v r => ∃ x, v = some x ∧ DtR F x r
  | .lst a xs => v = some (.ref a) ∧ F a = none ∧ ∃ vs, H a = some (.lst vs) ∧ DqA F vs xs
  | .dct a ks => v = some (.ref a) ∧ F a = none ∧ ∃ kvs, H a = some (.dK kvs) ∧ KvR F kvs ks
  | .hand a => v = some (.ref a) ∧ F a = none ∧ ∃ vs hs, H a = some (.lst vs) ∧ DqA F vs hs ∧ HandOk hs
  | .rf a => v = some (.ref a)
  | .ins a C dx fs => v = some (.ref a) ∧ F a = none ∧ ∃ vs, H a = some (.ins C dx vs) ∧ FsR F vs fs
  | .obj a C dx vs => v = some (.ref a) ∧ F a = none ∧ H a = some (.ins C dx vs)
  | .gd a ks => F a = none ∧ ∃ kvs, H a = some (.dK kvs) ∧ KvR F kvs ks
  | .xt a S ks => v = some (.ref a) ∧ F a = none ∧ ∃ o vs, H a = some o ∧ S o vs ∧ DqA F vs ks
def ows (t : Ty) : List Addr := t.filterMap Sl.ad
structure En where
  F : Hp
  H : Hp
  bor : Addr → Prop
structure StO (N : En) (F H : Hp) (sg : St) (t : Ty) : Prop where
  ln : sg.length = t.length
  fh : Same F H
  f0 : Same N.F F
  nf : ∀ a, N.H a ≠ none → N.F a = none → F a = none
  un : ∀ a o, N.H a = some o → ¬ N.bor a → H a = some o
  th : ∀ a, N.H a ≠ none → H a ≠ none
  sl : ∀ (i : Nat) s, t[i]? = some s → ∃ v, sg[i]? = some v ∧ SlK F H v s
  ow : ∀ a ∈ ows t, N.H a = none ∨ N.bor a
  ap : (ows t).Nodup
theorem SlK.grow {F H F' H' : Hp} {v : Option V} {s : Sl} (h : SlK F H v s) (g : Gr F H F' H') : SlK F' H' v s := by
  cases s with
  | no => trivial
  | v r => obtain ⟨x, h1, h2⟩ := h; exact ⟨x, h1, h2.up g.ff⟩
  | lst a xs =>
    obtain ⟨h1, h2, vs, h3, h4⟩ := h
    exact ⟨h1, g.nf a (by rw [h3]; intro z; cases z) h2, vs, g.hh _ _ h3, h4.up g.ff⟩
  | dct a xs =>
    obtain ⟨h1, h2, vs, h3, h4⟩ := h
    exact ⟨h1, g.nf a (by rw [h3]; intro z; cases z) h2, vs, g.hh _ _ h3, h4.up g.ff⟩
  | hand a =>
    obtain ⟨h1, h2, vs, hs, h3, h4, h5⟩ := h
    exact ⟨h1, g.nf a (by rw [h3]; intro z; cases z) h2, vs, hs, g.hh _ _ h3, h4.up g.ff, h5⟩
  | rf a => exact h
  | ins a C dx fs =>
    obtain ⟨h1, h2, vs, h3, h4⟩ := h
    exact ⟨h1, g.nf a (by rw [h3]; intro z; cases z) h2, vs, g.hh _ _ h3, h4.up g.ff⟩
  | obj a C dx vs =>
    obtain ⟨h1, h2, h3⟩ := h
    exact ⟨h1, g.nf a (by rw [h3]; intro z; cases z) h2, g.hh _ _ h3⟩
  | gd a ks =>
    obtain ⟨h2, vs, h3, h4⟩ := h
    exact ⟨g.nf a (by rw [h3]; intro z; cases z) h2, vs, g.hh _ _ h3, h4.up g.ff⟩
  | xt a S ks =>
    obtain ⟨h1, h2, o, vs, h3, h4, h5⟩ := h
    exact ⟨h1, g.nf a (by rw [h3]; intro z; cases z) h2, o, vs, g.hh _ _ h3, h4, h5.up g.ff⟩
theorem Same.ne {H H' : Hp} (e : Same H H') {a : Addr} (h : H a ≠ none) : H' a ≠ none := fun z => h (e.free z)
theorem StO.grow {N : En} {F H F' H' : Hp} {sg : St} {t : Ty} (S : StO N F H sg t) (g : Gr F H F' H') : StO N F' H' sg t :=
  ⟨S.ln, g.fh, S.f0.trans g.ff, fun a h1 h2 => g.nf a (S.th a h1) (S.nf a h1 h2), fun a o h1 h2 => g.hh a o (S.un a o h1 h2), fun a h => Same.ne g.hh (S.th a h),
    fun i s h => let ⟨v, h1, h2⟩ := S.sl i s h; ⟨v, h1, h2.grow g⟩, S.ow, S.ap⟩
/-- the entry put here -/
abbrev here (F H : Hp) (t : Ty) : En := ⟨F, H, fun a => a ∈ ows t⟩
theorem StO.base {N : En} {F H : Hp} {sg : St} {t : Ty} (S : StO N F H sg t) : StO (here F H t) F H sg t :=
  ⟨S.ln, S.fh, Same.refl F, fun a _ h => h, fun a o h _ => h, fun a h => h, S.sl, fun a h => .inr h, S.ap⟩
theorem StO.back {N : En} {F H F' H' : Hp} {sg sg' : St} {t t' : Ty} (S : StO N F H sg t) (S' : StO (here F H t) F' H' sg' t') : StO N F' H' sg' t' :=
  ⟨S'.ln, S'.fh, S.f0.trans S'.f0, fun a h1 h2 => S'.nf a (S.th a h1) (S.nf a h1 h2), fun a o h1 h2 => S'.un a o (S.un a o h1 h2) (fun z => by
    rcases S.ow a z with q | q
    · rw [h1] at q; cases q
    · exact h2 q), fun a h => S'.th a (S.th a h), S'.sl, fun a h => by
    rcases S'.ow a h with q | q
    · left
      cases e : N.H a with
      | none => rfl
      | some o => exact absurd q (S.th a (by rw [e]; intro z; cases z))
    · exact S.ow a q, S'.ap⟩
/-- a slot takes a new value -/
theorem ows_set_sub {t : Ty} {i : Nat} {s : Sl} (h : s.ad = none) : ∀ {a}, a ∈ ows (t.set i s) → a ∈ ows t := by
  intro a ha
  obtain ⟨x, hx, e⟩ := List.mem_filterMap.mp ha
  rcases List.mem_or_eq_of_mem_set hx with q | q
  · exact List.mem_filterMap.mpr ⟨x, q, e⟩
  · subst q; rw [h] at e; cases e
theorem ows_set_nodup : ∀ {t : Ty} {i : Nat} {s : Sl}, s.ad = none → (ows t).Nodup → (ows (t.set i s)).Nodup
  | [], i, s, _, h => by simpa using h
  | x :: t, 0, s, e, h => by
    show (List.filterMap Sl.ad (s :: t)).Nodup
    have h : (List.filterMap Sl.ad (x :: t)).Nodup := h
    rw [List.filterMap_cons, e]
    rw [List.filterMap_cons] at h
    cases q : x.ad with
    | none => rw [q] at h; exact h
    | some a => rw [q] at h; exact (List.nodup_cons.mp h).2
  | x :: t, i + 1, s, e, h => by
    have ih := ows_set_nodup (t := t) (i := i) (s := s) e
    have sub := @ows_set_sub t i s e
    show (List.filterMap Sl.ad (x :: t.set i s)).Nodup
    have h : (List.filterMap Sl.ad (x :: t)).Nodup := h
    rw [List.filterMap_cons] at h ⊢
    cases q : x.ad with
    | none => rw [q] at h; exact ih h
    | some a =>
      rw [q] at h
      exact List.nodup_cons.mpr ⟨fun z => (List.nodup_cons.mp h).1 (sub z), ih (List.nodup_cons.mp h).2⟩
theorem StO.set {N : En} {F H : Hp} {sg : St} {t : Ty} (S : StO N F H sg t) {i : Nat} {v : Option V} {s : Sl} (hs : s.ad = none) (h : SlK F H v s) : StO N F H (sg.set i v) (t.set i s) :=
  ⟨by rw [List.length_set, List.length_set, S.ln], S.fh, S.f0, S.nf, S.un, S.th, fun j u hj => by
    by_cases e : i = j
    · subst e
      have hl : i < t.length := by
        have q := (List.getElem?_eq_some_iff.mp hj).1
        rwa [List.length_set] at q
      rw [List.getElem?_set_self hl] at hj
      cases hj
      exact ⟨v, List.getElem?_set_self (by rw [S.ln]; exact hl), h⟩
    · rw [List.getElem?_set_ne e] at hj ⊢
      exact S.sl j u hj, fun a ha => S.ow a (ows_set_sub hs ha), ows_set_nodup hs S.ap⟩
theorem ows_mem {t : Ty} {i : Nat} {s : Sl} {a : Addr} (h : t[i]? = some s) (e : s.ad = some a) : a ∈ ows t := List.mem_filterMap.mpr ⟨s, List.mem_of_getElem? h, e⟩
/-- a slot takes an owned thing -/
theorem ows_set_own : ∀ {t : Ty} {i : Nat} {s : Sl} {a : Addr}, s.ad = some a → (ows t).Nodup → (a ∉ ows t ∨ ∃ u, t[i]? = some u ∧ u.ad = some a) → (ows (t.set i s)).Nodup
  | [], i, s, a, _, h, _ => by simpa using h
  | x :: t, 0, s, a, e, h, k => by
    show (List.filterMap Sl.ad (s :: t)).Nodup
    have h : (List.filterMap Sl.ad (x :: t)).Nodup := h
    rw [List.filterMap_cons, e]
    rw [List.filterMap_cons] at h
    rcases k with k | ⟨u, hu, eu⟩
    · have k' : a ∉ List.filterMap Sl.ad t := fun z => k (by
        show a ∈ List.filterMap Sl.ad (x :: t)
        rw [List.filterMap_cons]
        cases q : x.ad with
        | none => exact z
        | some b => exact List.mem_cons_of_mem _ z)
      cases q : x.ad with
      | none => rw [q] at h; exact List.nodup_cons.mpr ⟨k', h⟩
      | some b => rw [q] at h; exact List.nodup_cons.mpr ⟨k', (List.nodup_cons.mp h).2⟩
    · have hu' : x = u := by simpa using hu
      subst hu'
      rw [eu] at h
      exact h
  | x :: t, i + 1, s, a, e, h, k => by
    have h : (List.filterMap Sl.ad (x :: t)).Nodup := h
    show (List.filterMap Sl.ad (x :: t.set i s)).Nodup
    rw [List.filterMap_cons] at h ⊢
    cases q : x.ad with
    | none =>
      rw [q] at h
      refine ows_set_own (t := t) (i := i) (s := s) (a := a) e h ?_
      rcases k with k | ⟨u, hu, eu⟩
      · exact .inl fun z => k (by show a ∈ List.filterMap Sl.ad (x :: t); rw [List.filterMap_cons, q]; exact z)
      · exact .inr ⟨u, by simpa using hu, eu⟩
    | some b =>
      rw [q] at h
      obtain ⟨h1, h2⟩ := List.nodup_cons.mp h
      have hk : a ∉ ows t ∨ ∃ u, t[i]? = some u ∧ u.ad = some a := by
        rcases k with k | ⟨u, hu, eu⟩
        · exact .inl fun z => k (by show a ∈ List.filterMap Sl.ad (x :: t); rw [List.filterMap_cons, q]; exact List.mem_cons_of_mem _ z)
        · exact .inr ⟨u, by simpa using hu, eu⟩
      have hne : a ≠ b := by
        rintro rfl
        rcases k with k | ⟨u, hu, eu⟩
        · exact k (by show a ∈ List.filterMap Sl.ad (x :: t); rw [List.filterMap_cons, q]; exact List.mem_cons_self)
        · exact h1 (ows_mem (t := t) (i := i) (by simpa using hu) eu)
      refine List.nodup_cons.mpr ⟨fun z => ?_, ows_set_own (t := t) (i := i) (s := s) (a := a) e h2 hk⟩
      obtain ⟨y, hy, ey⟩ := List.mem_filterMap.mp z
      rcases List.mem_or_eq_of_mem_set hy with w | w
      · exact h1 (List.mem_filterMap.mpr ⟨y, w, ey⟩)
      · subst w; rw [e] at ey; cases ey; exact hne rfl
end Fw

-- part FwExpr
set_option Elab.async false
set_option maxRecDepth 100000
set_option maxHeartbeats 4000000
set_option linter.all false
namespace Fw
open PySem PySem.Spec PyProof.Rows L2
/-! ### canonical operations -/
def orOf (X : Cx) (f : Value → Value → Sem Value) : R2 := fun x y H Q => ∀ (pins : List (Addr × Obj)) (s : Shared) (sg : St) (v u : Value), Inv X pins sg H s → RelV x v → RelV y u → wpAny (model X.prog X.w) X.A (f v u) (EP X pins sg Q) X.xe s
theorem o_of (X : Cx) (f : Value → Value → Sem Value) : OpR X f (orOf X f) := fun pins s sg H x y v u Q I rx ry h => h pins s sg v u I rx ry
theorem use_o {X : Cx} {f : Value → Value → Sem Value} {r : R2} (h : OpR X f r) {x y : V} {H : Hp} {Q : VK} (q : r x y H Q) : orOf X f x y H Q := fun pins s sg v u I rx ry => h pins s sg H x y v u Q I rx ry q
def crOf (X : Cx) (f : Value) : List V → Hp → VK → Prop := fun xs H Q => ∀ (pins : List (Addr × Obj)) (s : Shared) (sg : St) (us : List Value), Inv X pins sg H s → Vals xs us → wpAny (model X.prog X.w) X.A (call f us) (EP X pins sg Q) X.xe s
theorem c_of (X : Cx) (f : Value) : CallR X f (crOf X f) := fun pins s sg H xs us Q I r h => h pins s sg us I r
theorem use_c {X : Cx} {f : Value} {r : List V → Hp → VK → Prop} (h : CallR X f r) {xs : List V} {H : Hp} {Q : VK} (q : r xs H Q) : crOf X f xs H Q := fun pins s sg us I rr => h pins s sg H xs us Q I rr q
def ixOf (X : Cx) : R2 := fun x y H Q => ∀ (value slice : Expr) (pins : List (Addr × Obj)) (s : Shared) (sg : St) (v u : Value), Inv X pins sg H s → RelV x v → RelV y u →
    subscripted slice false v u = operate [v, u] (getItem v u) → wpAny (model X.prog X.w) X.A (subscriptTail value slice v u) (EP X pins sg Q) X.xe s
theorem i_of (X : Cx) : IxR X (ixOf X) := fun value slice pins s sg H x y v u Q I rx ry h hs => h value slice pins s sg v u I rx ry hs
theorem use_i {X : Cx} {r : R2} (h : IxR X r) {x y : V} {H : Hp} {Q : VK} (q : r x y H Q) : ixOf X x y H Q := fun value slice pins s sg v u I rx ry hs => h value slice pins s sg H x y v u Q I rx ry q hs
def slOf (X : Cx) : V → Option Int → Option Int → Hp → VK → Prop := fun x lo hi H Q => ∀ (pins : List (Addr × Obj)) (s : Shared) (sg : St) (v vl vu : Value) (sl : Addr), Inv X pins sg H s → RelV x v → s.heap.IsSliceOf sl vl vu .none → IsPart vl lo → IsPart vu hi →
    ∃ T id, typeLookup (.type T) "__getitem__" = pure (some (.builtin id)) ∧ s.TypeIs v T ∧ wpAny (model X.prog X.w) X.A (getItem v (.ref sl)) (EP X pins sg Q) X.xe s
theorem s_of (X : Cx) : SlR X (slOf X) := fun pins s sg H x v vl vu lo hi sl Q I rx hs pl pu h => h pins s sg v vl vu sl I rx hs pl pu
theorem use_sl {X : Cx} {r : V → Option Int → Option Int → Hp → VK → Prop} (h : SlR X r) {x : V} {lo hi : Option Int} {H : Hp} {Q : VK} (q : r x lo hi H Q) : slOf X x lo hi H Q := fun pins s sg v vl vu sl I rx hs pl pu => h pins s sg H x v vl vu lo hi sl Q I rx hs pl pu q
/-! ### judgements of expressions -/
def PM (X : Cx) (e : Expr) (t : Ty) (R : Dt → Prop) : Prop := ∀ (N : En) (sg : St) (F H : Hp) (Q : VK), StO N F H sg t →
  (∀ v F' H' r, StO N F' H' sg t → Same F F' → DtR F' v r → R r → Q v H') → teOf X e sg H Q
abbrev PD (X : Cx) (e : Expr) (t : Ty) (d : PyData) : Prop := PM X e t (fun r => r = .d d)
def PMT (X : Cx) (e : Expr) (t : Ty) (R : Bool → Prop) : Prop := ∀ (N : En) (sg : St) (F H : Hp) (Q : Bool → Hp → Prop), StO N F H sg t →
  (∀ b F' H', StO N F' H' sg t → Same F F' → R b → Q b H') → ttOf X e sg H Q
abbrev PDT (X : Cx) (e : Expr) (t : Ty) (b : Bool) : Prop := PMT X e t (fun c => c = b)
def PMA (X : Cx) (es : List Expr) (t : Ty) (R : List Dt → Prop) : Prop := ∀ (N : En) (sg : St) (F H : Hp) (Q : List V → Hp → Prop), StO N F H sg t →
  (∀ vs F' H' rs, StO N F' H' sg t → Same F F' → DtA F' vs rs → R rs → Q vs H') → taOf X es sg H Q
abbrev PDA (X : Cx) (es : List Expr) (t : Ty) (rs : List Dt) : Prop := PMA X es t (fun r => r = rs)
section
variable {X : Cx} {a b c e : Expr} {es : List Expr} {t : Ty} {R R' Ra : Dt → Prop} {pos : Pos} {x y z d : PyData}
theorem PM.mono (h : PM X e t R) (k : ∀ r, R r → R' r) : PM X e t R' := fun N sg F H Q S q => h N sg F H Q S fun v F' H' r S' s d hr => q v F' H' r S' s d (k r hr)
theorem PMT.mono {R R' : Bool → Prop} (h : PMT X e t R) (k : ∀ r, R r → R' r) : PMT X e t R' := fun N sg F H Q S q => h N sg F H Q S fun v F' H' S' s hr => q v F' H' S' s (k v hr)
theorem PMA.mono {R R' : List Dt → Prop} (h : PMA X es t R) (k : ∀ r, R r → R' r) : PMA X es t R' := fun N sg F H Q S q => h N sg F H Q S fun v F' H' r S' s d hr => q v F' H' r S' s d (k r hr)
theorem PD.as (h : PD X e t d) (k : d = x) : PD X e t x := k ▸ h
theorem PDT.as {b c : Bool} (h : PDT X e t b) (k : b = c) : PDT X e t c := k ▸ h
theorem pm_var {x : Str} {r : Dt} (i : Nat) (hN : X.N[i]? = some x) (hv : Vis X.env.scope x) (ht : t[i]? = some (.v r)) (hd : (x == ("__debug__" : Str)) = false)
    (hcd : (x == ("__classdict__" : Str)) = false) : PM X (.Name x pos) t (fun z => z = r) := fun N sg F H Q S q => by
  refine use_e (pe_var hN hv hd hcd) ?_
  obtain ⟨v, h1, y, rfl, h2⟩ := S.sl i _ ht
  exact ⟨y, h1, q y F H r S (Same.refl F) h2 rfl⟩
theorem pd_int {i : Int} {j} : PD X (.Constant (.int i) j pos) t (.int i) := fun N sg F H Q S q => use_e pe_int (q _ F H (.d _) S (Same.refl F) (Dq.int i) rfl)
theorem pd_bl {i : Bool} {j} : PD X (.Constant (.bool i) j pos) t (.bool i) := fun N sg F H Q S q => use_e pe_bl (q _ F H (.d _) S (Same.refl F) (Dq.bl i) rfl)
theorem pd_non {j} : PD X (.Constant .none j pos) t .none := fun N sg F H Q S q => use_e pe_non (q _ F H (.d _) S (Same.refl F) Dq.non rfl)
theorem pd_str {x : Str} {j} : PD X (.Constant (.str x) j pos) t (.str x) := fun N sg F H Q S q => use_e pe_str (q _ F H (.d _) S (Same.refl F) (Dq.str x) rfl)
theorem pd_globI {x : Str} {i : Int} {tk : Tok} (hg : Gl X x) (hm : X.mg x = some (.int i tk)) (hd : (x == ("__debug__" : Str)) = false := by decide) : PD X (.Name x pos) t (.int i) :=
  fun N sg F H Q S q => use_e (pe_glob (v := .int i) hg hm ⟨_, rfl⟩ hd) (q _ F H (.d _) S (Same.refl F) (Dq.int i) rfl)
/-! ### two-place operators -/
def BinD (X : Cx) (op : Operator) (x y z : PyData) : Prop := ∀ (F H : Hp) (v u : V) (Q : VK), Same F H → Dq F v x → Dq F u y → (∀ w F' H', Gr F H F' H' → Dq F' w z → Q w H') → orOf X (binaryOp op) v u H Q
theorem pm_bin {op : Operator} {Rb : Dt → Dt → Prop} (ha : PM X a t Ra) (hb : ∀ r, Ra r → PM X b t (Rb r)) (h : ∀ r s, Ra r → Rb r s → ∃ x y z, r = .d x ∧ s = .d y ∧ BinD X op x y z ∧ R (.d z)) : PM X (.BinOp a op b pos) t R := fun N sg F H Q S q => by
  refine use_e (pe_op (o_of X _) (pe_of X a) (pe_of X b)) (ha N sg F H _ S fun v F1 H1 r1 S1 s1 d1 hr1 => hb r1 hr1 N sg F1 H1 _ S1 fun u F2 H2 r2 S2 s2 d2 hr2 => ?_)
  obtain ⟨x, y, z, rfl, rfl, k, hz⟩ := h _ _ hr1 hr2
  exact k F2 H2 v u Q S2.fh (Dq.up d1 s2) d2 fun w F3 H3 g dz => q w F3 H3 (.d _) (S2.grow g) ((s1.trans s2).trans g.ff) dz hz
theorem pd_bin {op : Operator} (ha : PD X a t x) (hb : PD X b t y) (h : BinD X op x y z) : PD X (.BinOp a op b pos) t z :=
  pm_bin (Rb := fun _ r => r = .d y) ha (fun _ _ => hb) fun _ _ e1 e2 => ⟨x, y, z, e1, e2, h, rfl⟩
theorem bd_of {op : Operator} {f : Int → Int → Int} (h : OpR X (binaryOp op) (rI0 fun i j => .int (f i j))) (i j : Int) : BinD X op (.int i) (.int j) (.int (f i j)) := fun F H v u Q e h1 h2 k => by
  cases h1; cases h2
  exact use_o h ⟨i, j, rfl, rfl, k _ F H (Gr.refl e) (.int _)⟩
theorem bd_ofC {op : Operator} {C : Int → Int → Prop} {f : Int → Int → Int} (h : OpR X (binaryOp op) (rI C fun i j => .int (f i j))) (i j : Int) (hc : C i j) : BinD X op (.int i) (.int j) (.int (f i j)) := fun F H v u Q e h1 h2 k => by
  cases h1; cases h2
  exact use_o h ⟨i, j, rfl, rfl, hc, k _ F H (Gr.refl e) (.int _)⟩
theorem bd_add (i j : Int) : BinD X .Add (.int i) (.int j) (.int (i + j)) := bd_of op_add i j
theorem bd_sub (i j : Int) : BinD X .Sub (.int i) (.int j) (.int (i - j)) := bd_of op_sub i j
theorem bd_mul (i j : Int) (h : CMul i j) : BinD X .Mult (.int i) (.int j) (.int (i * j)) := bd_ofC op_mul i j h
theorem bd_mod (i j : Int) (h : 0 < j) : BinD X .Mod (.int i) (.int j) (.int (i % j)) := bd_ofC op_mod i j h
theorem bd_div (i j : Int) (h : CDivW i j) : BinD X .FloorDiv (.int i) (.int j) (.int (i / j)) := bd_ofC op_fdivW i j h
theorem bd_pow (i j : Int) (h : CPow i j) : BinD X .Pow (.int i) (.int j) (.int (i ^ j.toNat)) := bd_ofC op_pow i j h
theorem bd_catT (xs ys : List PyData) (hz : xs.length + ys.length ≤ sizeLine) : BinD X .Add (.tuple xs) (.tuple ys) (.tuple (xs ++ ys)) := fun F H v u Q e h1 h2 k => by
  cases h1 with
  | tup g1 a1 =>
    cases h2 with
    | tup g2 a2 =>
      have l1 := a1.len
      have l2 := a2.len
      refine use_o op_catA ⟨_, _, _, _, rfl, rfl, SqT.of (e _ _ g1), SqT.of (e _ _ g2), by omega, fun hx => ?_, fun _ hy => ?_, fun _ _ p hp => ?_⟩
      · subst hx
        cases a1
        exact k _ F H (Gr.refl e) (.tup g2 a2)
      · subst hy
        cases a2
        rw [List.append_nil] at k
        exact k _ F H (Gr.refl e) (.tup g1 a1)
      · exact k _ _ _ (Gr.new e hp) (.tup upd_same ((a1.app a2).up (same_new (e.free hp))))
theorem bd_catL (xs ys : List PyData) (hz : xs.length + ys.length ≤ sizeLine) : BinD X .Add (.list xs) (.list ys) (.list (xs ++ ys)) := fun F H v u Q e h1 h2 k => by
  cases h1 with
  | lst g1 a1 =>
    cases h2 with
    | lst g2 a2 =>
      have l1 := a1.len
      have l2 := a2.len
      exact use_o op_cat ⟨_, _, _, _, rfl, rfl, e _ _ g1, e _ _ g2, by omega, fun p hp => k _ _ _ (Gr.new e hp) (.lst upd_same ((a1.app a2).up (same_new (e.free hp))))⟩
theorem bd_repL (xs : List PyData) (n : Int) (h0 : -(2 ^ 63) ≤ n) (h1 : n < 2 ^ 63) (hz : xs.length * n.toNat ≤ sizeLine) : BinD X .Mult (.list xs) (.int n) (.list (List.replicate n.toNat xs).flatten) := fun F H v u Q e q1 q2 k => by
  cases q2
  cases q1 with
  | lst g1 a1 =>
    have l1 := a1.len
    exact use_o op_rep ⟨_, _, _, rfl, rfl, e _ _ g1, h0, h1, by rw [l1]; exact hz, fun p hp => k _ _ _ (Gr.new e hp) (.lst upd_same ((a1.rep n.toNat).up (same_new (e.free hp))))⟩
/-! ### comparisons -/
def CmpD (X : Cx) (op : CmpOp) (x y : PyData) (b : Bool) : Prop := ∀ (F H : Hp) (v u : V) (Q : VK), Same F H → Dq F v x → Dq F u y → (∀ F' H', Gr F H F' H' → Q (.bl b) H') → orOf X (compareOp op) v u H Q
theorem pm_cmp {op : CmpOp} {Rb : Dt → Dt → Prop} (ha : PM X a t Ra) (hb : ∀ r, Ra r → PM X b t (Rb r)) (h : ∀ r s, Ra r → Rb r s → ∃ x y b, r = .d x ∧ s = .d y ∧ CmpD X op x y b ∧ R (.d (.bool b))) (hm : behindInMarks op b = false) : PM X (.Compare a [op] [b] pos) t R := fun N sg F H Q S q => by
  refine use_e (pe_cmpR (o_of X _) (pe_of X a) (pe_of X b) hm) (ha N sg F H _ S fun v F1 H1 r1 S1 s1 d1 hr1 => hb r1 hr1 N sg F1 H1 _ S1 fun u F2 H2 r2 S2 s2 d2 hr2 => ?_)
  obtain ⟨x, y, z, rfl, rfl, k, hz⟩ := h _ _ hr1 hr2
  exact k F2 H2 v u Q S2.fh (Dq.up d1 s2) d2 fun F3 H3 g => q _ F3 H3 (.d _) (S2.grow g) ((s1.trans s2).trans g.ff) (Dq.bl z) hz
theorem pd_cmp {op : CmpOp} {k : Bool} (ha : PD X a t x) (hb : PD X b t y) (h : CmpD X op x y k) (hm : behindInMarks op b = false) : PD X (.Compare a [op] [b] pos) t (.bool k) :=
  pm_cmp (Rb := fun _ r => r = .d y) ha (fun _ _ => hb) (fun _ _ e1 e2 => ⟨x, y, k, e1, e2, h, rfl⟩) hm
theorem pmt_cmp {op : CmpOp} {P : Bool → Prop} {Rb : Dt → Dt → Prop} (ha : PM X a t Ra) (hb : ∀ r, Ra r → PM X b t (Rb r)) (h : ∀ r s, Ra r → Rb r s → ∃ x y b, r = .d x ∧ s = .d y ∧ CmpD X op x y b ∧ P b) (hm : behindInMarks op b = false) : PMT X (.Compare a [op] [b] pos) t P := fun N sg F H Q S q => by
  refine use_t (pt_cmpR (o_of X _) (pe_of X a) (pe_of X b) hm) (ha N sg F H _ S fun v F1 H1 r1 S1 s1 d1 hr1 => hb r1 hr1 N sg F1 H1 _ S1 fun u F2 H2 r2 S2 s2 d2 hr2 => ?_)
  obtain ⟨x, y, z, rfl, rfl, k, hz⟩ := h _ _ hr1 hr2
  exact k F2 H2 v u _ S2.fh (Dq.up d1 s2) d2 fun F3 H3 g => ⟨z, rfl, q _ F3 H3 (S2.grow g) ((s1.trans s2).trans g.ff) hz⟩
theorem pdt_cmp {op : CmpOp} {k : Bool} (ha : PD X a t x) (hb : PD X b t y) (h : CmpD X op x y k) (hm : behindInMarks op b = false) : PDT X (.Compare a [op] [b] pos) t k :=
  pmt_cmp (Rb := fun _ r => r = .d y) ha (fun _ _ => hb) (fun _ _ e1 e2 => ⟨x, y, k, e1, e2, h, rfl⟩) hm
theorem cd_of {op : CmpOp} {f : Int → Int → Bool} (h : OpR X (compareOp op) (rI0 fun i j => .bl (f i j))) (i j : Int) : CmpD X op (.int i) (.int j) (f i j) := fun F H v u Q e h1 h2 k => by
  cases h1; cases h2
  exact use_o h ⟨i, j, rfl, rfl, k F H (Gr.refl e)⟩
theorem cd_lt (i j : Int) : CmpD X .Lt (.int i) (.int j) (decide (i < j)) := cd_of op_lt i j
theorem cd_le (i j : Int) : CmpD X .LtE (.int i) (.int j) (decide (i ≤ j)) := cd_of op_le i j
theorem cd_gt (i j : Int) : CmpD X .Gt (.int i) (.int j) (decide (j < i)) := cd_of op_gt i j
theorem cd_ge (i j : Int) : CmpD X .GtE (.int i) (.int j) (decide (j ≤ i)) := cd_of op_ge i j
def isNoneD : PyData → Bool
  | .none => true
  | _ => false
theorem Dq.isN {F : Hp} {v : V} {x : PyData} (h : Dq F v x) : decide (v = .non) = isNoneD x := by
  cases h with
  | non => exact decide_eq_true rfl
  | _ => exact decide_eq_false (fun q => nomatch q)
theorem cd_isN : CmpD X .Is x .none (isNoneD x) := fun F H v u Q e h1 h2 k => by
  cases h2
  exact use_o op_isN ⟨rfl, by rw [h1.isN]; exact k F H (Gr.refl e)⟩
theorem cd_notN : CmpD X .IsNot x .none (!isNoneD x) := fun F H v u Q e h1 h2 k => by
  cases h2
  exact use_o op_notN ⟨rfl, by rw [h1.isN]; exact k F H (Gr.refl e)⟩
/-- no dict in it -/
def noD (x : PyData) : Bool := !PyData.hasDict x
mutual
theorem Dq.dp {K : PySem.W.Frag} {F H : Hp} (e : Same F H) : ∀ (d : PyData) (v : V), PyData.hasDict d = false → Dq F v d → Dp K H v d
  | .none, _, _, h => by cases h; exact .non
  | .bool b, _, _, h => by cases h; exact .bl b
  | .int i, _, _, h => by cases h; exact .int i
  | .str x, _, _, h => by cases h; exact .str x
  | .list ds, _, n, h => by
    cases h with
    | lst h1 h2 => exact .lst (SqL.of (e _ _ h1)) (DqA.dp e ds _ (by simpa [PyData.hasDict] using n) h2)
  | .tuple ds, _, n, h => by
    cases h with
    | tup h1 h2 => exact .tup (SqT.of (e _ _ h1)) (DqA.dp e ds _ (by simpa [PyData.hasDict] using n) h2)
  | .dict kvs, _, n, h => by simp [PyData.hasDict] at n
theorem DqA.dp {K : PySem.W.Frag} {F H : Hp} (e : Same F H) : ∀ (ds : List PyData) (vs : List V), PyData.hasDictAll ds = false → DqA F vs ds → DpAll K H vs ds
  | [], _, _, h => by cases h; exact .nil
  | d :: ds, _, n, h => by
    simp only [PyData.hasDictAll, Bool.or_eq_false_iff] at n
    cases h with
    | cons h1 h2 => exact .cons (Dq.dp e d _ n.1 h1) (DqA.dp e ds _ n.2 h2)
end
theorem cd_eq (hu : X.A.units + 64 < cLine) (hx : SeqAt.shaped x = true) (hy : SeqAt.shaped y = true) (nx : x.hasDict = false) (ny : y.hasDict = false) : CmpD X .Eq x y (PyData.eqv x y) := fun F H v u Q e h1 h2 k =>
  use_o (op_eqD hu) ⟨x, y, Dq.dp e x _ nx h1, Dq.dp e y _ ny h2, hx, hy, k F H (Gr.refl e)⟩
theorem cd_ne (hu : X.A.units + 64 < cLine) (hx : SeqAt.shaped x = true) (hy : SeqAt.shaped y = true) (nx : x.hasDict = false) (ny : y.hasDict = false) : CmpD X .NotEq x y (!PyData.eqv x y) := fun F H v u Q e h1 h2 k =>
  use_o (op_neD hu) ⟨x, y, Dq.dp e x _ nx h1, Dq.dp e y _ ny h2, hx, hy, k F H (Gr.refl e)⟩
theorem cd_eqI (i j : Int) : CmpD X .Eq (.int i) (.int j) (decide (i = j)) := fun F H v u Q e h1 h2 k => by
  cases h1; cases h2
  refine use_o op_eq ⟨rfl, ?_⟩
  rw [dec_int, show (i == j) = decide (i = j) from by by_cases q : i = j <;> simp [q]]
  exact k F H (Gr.refl e)
theorem cd_neI (i j : Int) : CmpD X .NotEq (.int i) (.int j) (!decide (i = j)) := fun F H v u Q e h1 h2 k => by
  cases h1; cases h2
  refine use_o op_ne ⟨rfl, ?_⟩
  rw [dec_int, show (i == j) = decide (i = j) from by by_cases q : i = j <;> simp [q]]
  exact k F H (Gr.refl e)
theorem cd_eqB (i j : Bool) : CmpD X .Eq (.bool i) (.bool j) (i == j) := fun F H v u Q e h1 h2 k => by
  cases h1; cases h2
  refine use_o op_eq ⟨rfl, ?_⟩
  rw [dec_bl]
  exact k F H (Gr.refl e)
theorem cd_neB (i j : Bool) : CmpD X .NotEq (.bool i) (.bool j) (!(i == j)) := fun F H v u Q e h1 h2 k => by
  cases h1; cases h2
  refine use_o op_ne ⟨rfl, ?_⟩
  rw [dec_bl]
  exact k F H (Gr.refl e)
theorem cd_neS (i j : Str) : CmpD X .NotEq (.str i) (.str j) (!(i == j)) := fun F H v u Q e h1 h2 k => by
  cases h1; cases h2
  refine use_o op_ne ⟨rfl, ?_⟩
  rw [dec_str]
  exact k F H (Gr.refl e)
theorem inV_ints (i : Int) : ∀ ns : List Int, inV (.int i) (ns.map V.int) = decide (i ∈ ns)
  | [] => by simp [inV]
  | n :: ns => by
    have ih := inV_ints i ns
    unfold inV at ih ⊢
    rw [List.map_cons, List.any_cons, ih]
    by_cases q : n = i
    · subst q; simp [eqV]
    · have q' : ¬ i = n := fun z => q z.symm
      simp [eqV, q, q']
theorem flat_ints : ∀ ns : List Int, (ns.map V.int).all flatV = true
  | [] => rfl
  | n :: ns => by rw [List.map_cons, List.all_cons, flat_ints ns]; rfl
theorem cd_inT (i : Int) (ns : List Int) : CmpD X .In (.int i) (.tuple (ns.map PyData.int)) (decide (i ∈ ns)) := fun F H v u Q e h1 h2 k => by
  cases h1
  cases h2 with
  | tup g a =>
    rw [a.ints] at g
    refine use_o op_in_seq ⟨_, _, rfl, .inr (SqT.of (e _ _ g)), rfl, flat_ints ns, ?_⟩
    show Q (.bl (inV (.int i) (ns.map V.int))) H
    rw [inV_ints]
    exact k F H (Gr.refl e)
theorem cd_ninT (i : Int) (ns : List Int) : CmpD X .NotIn (.int i) (.tuple (ns.map PyData.int)) (!decide (i ∈ ns)) := fun F H v u Q e h1 h2 k => by
  cases h1
  cases h2 with
  | tup g a =>
    rw [a.ints] at g
    refine use_o op_notIn_seq ⟨_, _, rfl, .inr (SqT.of (e _ _ g)), rfl, flat_ints ns, ?_⟩
    show Q (.bl (!inV (.int i) (ns.map V.int))) H
    rw [inV_ints]
    exact k F H (Gr.refl e)
/-! ### a chain of two comparisons -/
theorem pd_chain {op op' : CmpOp} {k k' : Bool} (ha : PD X a t x) (hb : PD X b t y) (h : CmpD X op x y k) (hc : k = true → PD X c t z) (h' : k = true → CmpD X op' y z k')
    (hm : lastMarks [op, op'] [b, c] = false := by with_unfolding_all rfl) : PD X (.Compare a [op, op'] [b, c] pos) t (.bool (k && k')) := fun N sg F H Q S q => by
  refine use_e (pe_chain (o_of X _) (o_of X _) (pe_of X a) (pe_of X b) (pe_of X c) hm) (ha N sg F H _ S fun v F1 H1 r1 S1 s1 d1 hr1 => hb N sg F1 H1 _ S1 fun u F2 H2 r2 S2 s2 d2 hr2 => ?_)
  subst hr1 hr2
  refine h F2 H2 v u _ S2.fh (Dq.up d1 s2) d2 fun F3 H3 g => ⟨k, rfl, ?_⟩
  cases k with
  | false =>
    rw [if_neg Bool.false_ne_true]
    exact q _ F3 H3 (.d _) (S2.grow g) ((s1.trans s2).trans g.ff) (Dq.bl false) rfl
  | true =>
    rw [if_pos rfl]
    refine hc rfl N sg F3 H3 _ (S2.grow g) fun w F4 H4 r4 S4 s4 d4 hr4 => ?_
    subst hr4
    exact h' rfl F4 H4 u w Q S4.fh (Dq.up d2 (g.ff.trans s4)) d4 fun F5 H5 g5 => q _ F5 H5 (.d _) (S4.grow g5) ((((s1.trans s2).trans g.ff).trans s4).trans g5.ff) (Dq.bl _) rfl
/-! ### tests, and, or, not -/
theorem PD.tst {k : Bool} (h : PD X e t (.bool k)) (he : ∀ whole, isTrue e X.env whole = (do let v ← whole; standAt e.pos; holding [v] (truthy v)) := by intro _; rfl) : PDT X e t k := fun N sg F H Q S q =>
  use_t (pt_val (pe_of X e) he) (h N sg F H _ S fun v F1 H1 r1 S1 s1 d1 hr1 => by
    subst hr1
    cases d1
    exact ⟨k, rfl, q k F1 H1 S1 s1 rfl⟩)
theorem pdt_not {k : Bool} (h : PDT X e t k) : PDT X (.UnaryOp .Not e pos) t (!k) := fun N sg F H Q S q => use_t (pt_not (pt_of X e)) (h N sg F H _ S fun b F1 H1 S1 s1 hb => q _ F1 H1 S1 s1 (by rw [hb]))
theorem pd_not {k : Bool} (h : PD X e t (.bool k)) : PD X (.UnaryOp .Not e pos) t (.bool (!k)) := fun N sg F H Q S q => use_e (pe_not (pe_of X e)) (h N sg F H _ S fun v F1 H1 r1 S1 s1 d1 hr1 => by
  subst hr1
  cases d1
  exact ⟨k, rfl, q _ F1 H1 (.d _) S1 s1 (Dq.bl _) rfl⟩)
theorem pd_one {op : BoolOp} (h : PD X e t d) : PD X (.BoolOp op [e] pos) t d := fun N sg F H Q S q => use_e (pe_one (pe_of X e)) (h N sg F H _ S q)
theorem pd_and {rest : List Expr} {k k' : Bool} (ha : PD X a t (.bool k)) (hb : k = true → PD X (.BoolOp .And (b :: rest) pos) t (.bool k')) : PD X (.BoolOp .And (a :: b :: rest) pos) t (.bool (k && k')) := fun N sg F H Q S q => by
  refine use_e (pe_and (pe_of X a) (pe_of X _)) (ha N sg F H _ S fun v F1 H1 r1 S1 s1 d1 hr1 => ?_)
  subst hr1
  cases d1
  refine ⟨k, rfl, ?_⟩
  cases k with
  | false => rw [if_neg Bool.false_ne_true]; exact q _ F1 H1 (.d _) S1 s1 (Dq.bl _) rfl
  | true => rw [if_pos rfl]; exact hb rfl N sg F1 H1 _ S1 fun w F2 H2 r2 S2 s2 d2 hr2 => q w F2 H2 r2 S2 (s1.trans s2) d2 (by rw [hr2]; rfl)
theorem pd_or {rest : List Expr} {k k' : Bool} (ha : PD X a t (.bool k)) (hb : k = false → PD X (.BoolOp .Or (b :: rest) pos) t (.bool k')) : PD X (.BoolOp .Or (a :: b :: rest) pos) t (.bool (k || k')) := fun N sg F H Q S q => by
  refine use_e (pe_or (pe_of X a) (pe_of X _)) (ha N sg F H _ S fun v F1 H1 r1 S1 s1 d1 hr1 => ?_)
  subst hr1
  cases d1
  refine ⟨k, rfl, ?_⟩
  cases k with
  | true => rw [if_pos rfl]; exact q _ F1 H1 (.d _) S1 s1 (Dq.bl _) rfl
  | false => rw [if_neg Bool.false_ne_true]; exact hb rfl N sg F1 H1 _ S1 fun w F2 H2 r2 S2 s2 d2 hr2 => q w F2 H2 r2 S2 (s1.trans s2) d2 (by rw [hr2]; rfl)
/-- a test over and, or -/
structure PWD (X : Cx) (e : Expr) (t : Ty) (R : Bool → Prop) : Prop where
  w : ∀ (N : En) (sg : St) (F H : Hp) (Q : Bool → Hp → Prop), StO N F H sg t → (∀ b F' H', StO N F' H' sg t → Same F F' → R b → Q b H') →
    ∀ (whole : Sem Value) (pins : List (Addr × Obj)) (s : Shared), Inv X pins sg H s → wpAny (model X.prog X.w) X.A (isTrue e X.env whole) (TP X pins sg Q) X.xe s
def twOf (X : Cx) (e : Expr) : TT := fun sg H Q => ∀ (whole : Sem Value) (pins : List (Addr × Obj)) (s : Shared), Inv X pins sg H s → wpAny (model X.prog X.w) X.A (isTrue e X.env whole) (TP X pins sg Q) X.xe s
theorem pw_of (X : Cx) (e : Expr) : PW X e (twOf X e) := ⟨fun whole pins s _ _ _ I h => h whole pins s I⟩
theorem PWD.tst {P : Bool → Prop} (h : PWD X e t P) : PMT X e t P := fun N sg F H Q S q => tt_mk fun pins s I => h.w N sg F H Q S q _ pins s I
theorem pwd_and1 {P : Bool → Prop} (h : PMT X a t P) : PWD X (.BoolOp .And [a] pos) t P := ⟨fun N sg F H Q S q whole pins s I => (pw_and1 (pt_of X a)).run whole pins s sg H Q I (h N sg F H Q S q)⟩
theorem pwd_or1 {P : Bool → Prop} (h : PMT X a t P) : PWD X (.BoolOp .Or [a] pos) t P := ⟨fun N sg F H Q S q whole pins s I => (pw_or1 (pt_of X a)).run whole pins s sg H Q I (h N sg F H Q S q)⟩
theorem pwd_and {rest : List Expr} {P P' : Bool → Prop} (ha : PMT X a t P) (h0 : P false → P' false) (hb : P true → PWD X (.BoolOp .And (b :: rest) pos) t P') : PWD X (.BoolOp .And (a :: b :: rest) pos) t P' := ⟨fun N sg F H Q S q whole pins s I => by
  refine (pw_and (pt_of X a) (pw_of X _)).run whole pins s sg H Q I (ha N sg F H _ S fun k F1 H1 S1 s1 hk => ?_)
  cases k with
  | false => rw [if_neg Bool.false_ne_true]; exact q _ F1 H1 S1 s1 (h0 hk)
  | true => rw [if_pos rfl]; exact (hb hk).w N sg F1 H1 Q S1 fun b F2 H2 S2 s2 hb2 => q b F2 H2 S2 (s1.trans s2) hb2⟩
theorem pwd_or {rest : List Expr} {P P' : Bool → Prop} (ha : PMT X a t P) (h0 : P true → P' true) (hb : P false → PWD X (.BoolOp .Or (b :: rest) pos) t P') : PWD X (.BoolOp .Or (a :: b :: rest) pos) t P' := ⟨fun N sg F H Q S q whole pins s I => by
  refine (pw_or (pt_of X a) (pw_of X _)).run whole pins s sg H Q I (ha N sg F H _ S fun k F1 H1 S1 s1 hk => ?_)
  cases k with
  | true => rw [if_pos rfl]; exact q _ F1 H1 S1 s1 (h0 hk)
  | false => rw [if_neg Bool.false_ne_true]; exact (hb hk).w N sg F1 H1 Q S1 fun b F2 H2 S2 s2 hb2 => q b F2 H2 S2 (s1.trans s2) hb2⟩
/-- .. where each answer is told -/
theorem pdw_and {rest : List Expr} {k k' : Bool} (ha : PDT X a t k) (hb : k = true → PWD X (.BoolOp .And (b :: rest) pos) t (fun c => c = k')) : PWD X (.BoolOp .And (a :: b :: rest) pos) t (fun c => c = (k && k')) := by
  refine pwd_and ha (fun e => by rw [← e]; rfl) fun e => ?_
  have h := hb e.symm
  rw [← e]
  exact h
theorem pdw_or {rest : List Expr} {k k' : Bool} (ha : PDT X a t k) (hb : k = false → PWD X (.BoolOp .Or (b :: rest) pos) t (fun c => c = k')) : PWD X (.BoolOp .Or (a :: b :: rest) pos) t (fun c => c = (k || k')) := by
  refine pwd_or ha (fun e => by rw [← e]; rfl) fun e => ?_
  have h := hb e.symm
  rw [← e]
  exact h
theorem pm_if {P : Bool → Prop} (hc : PMT X c t P) (h1 : P true → PM X a t R) (h0 : P false → PM X b t R) : PM X (.IfExp c a b pos) t R := fun N sg F H Q S q => by
  refine use_e (pe_ifExp (pt_of X c) (pe_of X a) (pe_of X b)) (hc N sg F H _ S fun k F1 H1 S1 s1 hk => ?_)
  cases k with
  | true => rw [if_pos rfl]; exact h1 hk N sg F1 H1 Q S1 fun v F2 H2 r2 S2 s2 d2 hr2 => q v F2 H2 r2 S2 (s1.trans s2) d2 hr2
  | false => rw [if_neg Bool.false_ne_true]; exact h0 hk N sg F1 H1 Q S1 fun v F2 H2 r2 S2 s2 d2 hr2 => q v F2 H2 r2 S2 (s1.trans s2) d2 hr2
theorem pd_neg {i : Int} (h : PD X e t (.int i)) : PD X (.UnaryOp .USub e pos) t (.int (-i)) := fun N sg F H Q S q => use_e (pe_un un_neg (pe_of X e)) (h N sg F H _ S fun v F1 H1 r1 S1 s1 d1 hr1 => by
  subst hr1
  cases d1
  exact ⟨i, rfl, q _ F1 H1 (.d _) S1 s1 (Dq.int _) rfl⟩)
/-! ### lists of arguments, displays -/
theorem pma_nil : PDA X [] t [] := fun N sg F H Q S q => use_a pa_nil (q [] F H [] S (Same.refl F) .nil rfl)
theorem pma_cons {Rs : Dt → List Dt → Prop} {R' : List Dt → Prop} (h : PM X e t R) (hs : ∀ r, R r → PMA X es t (Rs r)) (k : ∀ r rs, R r → Rs r rs → R' (r :: rs)) (hst : starEach (e :: es) X.env = (false, eval e X.env) :: starEach es X.env := by rfl) : PMA X (e :: es) t R' := fun N sg F H Q S q =>
  use_a (pa_cons (pe_of X e) (pa_of X es) hst) (h N sg F H _ S fun v F1 H1 r1 S1 s1 d1 hr1 => hs r1 hr1 N sg F1 H1 _ S1 fun vs F2 H2 rs S2 s2 d2 hr2 => q _ F2 H2 _ S2 (s1.trans s2) (.cons (d1.up s2) d2) (k _ _ hr1 hr2))
theorem pda_cons {r : Dt} {rs : List Dt} (h : PM X e t (fun z => z = r)) (hs : PDA X es t rs) (hst : starEach (e :: es) X.env = (false, eval e X.env) :: starEach es X.env := by rfl) : PDA X (e :: es) t (r :: rs) :=
  pma_cons (Rs := fun _ z => z = rs) h (fun _ _ => hs) (fun _ _ e1 e2 => by rw [e1, e2]) hst
def allD (ds : List PyData) : List Dt := ds.map Dt.d
theorem dqa_of {F : Hp} : ∀ {ds : List PyData} {vs : List V}, DtA F vs (allD ds) → DqA F vs ds
  | [], _, h => by cases h; exact .nil
  | d :: ds, _, h => by
    cases h with
    | cons h1 h2 => exact .cons h1 (dqa_of h2)
theorem pm_tup {k : Nat} {P : List Dt → Prop} (h : PMA X es t P) (hl : ∀ rs, P rs → ∃ ds, rs = allD ds ∧ ds.length ≤ sizeLine ∧ R (.d (.tuple ds))) : PM X (.Tuple es k pos) t R := fun N sg F H Q S q =>
  use_e (pe_tup (pa_of X es)) (h N sg F H _ S fun vs F1 H1 rs S1 s1 d1 hr => by
    obtain ⟨ds, rfl, hz, hR⟩ := hl rs hr
    have d2 := dqa_of d1
    exact ⟨by rw [d2.len]; exact hz, fun p hp => q _ _ _ (.d _) (S1.grow (Gr.new S1.fh hp)) (s1.trans (same_new (S1.fh.free hp))) (Dq.tup upd_same (d2.up (same_new (S1.fh.free hp)))) hR⟩)
theorem pd_tup {k : Nat} {ds : List PyData} (h : PDA X es t (allD ds)) (hz : ds.length ≤ sizeLine) : PD X (.Tuple es k pos) t (.tuple ds) := pm_tup h fun rs e => ⟨ds, e, hz, rfl⟩
theorem pm_lst {P : List Dt → Prop} (h : PMA X es t P) (hl : ∀ rs, P rs → ∃ ds, rs = allD ds ∧ ds.length ≤ sizeLine ∧ R (.d (.list ds))) : PM X (.List es pos) t R := fun N sg F H Q S q =>
  use_e (pe_lst (pa_of X es)) (h N sg F H _ S fun vs F1 H1 rs S1 s1 d1 hr => by
    obtain ⟨ds, rfl, hz, hR⟩ := hl rs hr
    have d2 := dqa_of d1
    exact ⟨by rw [d2.len]; exact hz, fun p hp => q _ _ _ (.d _) (S1.grow (Gr.new S1.fh hp)) (s1.trans (same_new (S1.fh.free hp))) (Dq.lst upd_same (d2.up (same_new (S1.fh.free hp)))) hR⟩)
theorem pd_lst {ds : List PyData} (h : PDA X es t (allD ds)) (hz : ds.length ≤ sizeLine) : PD X (.List es pos) t (.list ds) := pm_lst h fun rs e => ⟨ds, e, hz, rfl⟩
theorem pd_dict0 : PD X (.Dict [] [] pos) t (.dict []) := fun N sg F H Q S q =>
  use_e pe_dnewK fun p hp => q _ _ _ (.d _) (S.grow (Gr.new S.fh hp)) (same_new (S.fh.free hp)) (Dq.dct upd_same) rfl
/-! ### subscripts -/
def IxD (X : Cx) (x y z : PyData) : Prop := ∀ (F H : Hp) (v u : V) (Q : VK), Same F H → Dq F v x → Dq F u y → (∀ w, Dq F w z → Q w H) → ixOf X v u H Q
theorem pm_ix {Rb : Dt → Dt → Prop} (ha : PM X a t Ra) (hb : ∀ r, Ra r → PM X b t (Rb r)) (h : ∀ r s, Ra r → Rb r s → ∃ x y z, r = .d x ∧ s = .d y ∧ IxD X x y z ∧ R (.d z)) (hs : PlainIx b) : PM X (.Subscript a b pos) t R := fun N sg F H Q S q => by
  refine use_e (pe_ix (i_of X) (pe_of X a) (pe_of X b) hs) (ha N sg F H _ S fun v F1 H1 r1 S1 s1 d1 hr1 => hb r1 hr1 N sg F1 H1 _ S1 fun u F2 H2 r2 S2 s2 d2 hr2 => ?_)
  obtain ⟨x, y, z, rfl, rfl, k, hz⟩ := h _ _ hr1 hr2
  exact k F2 H2 v u Q S2.fh (Dq.up d1 s2) d2 fun w dz => q w F2 H2 (.d _) S2 (s1.trans s2) dz hz
theorem pd_ix (ha : PD X a t x) (hb : PD X b t y) (h : IxD X x y z) (hs : PlainIx b) : PD X (.Subscript a b pos) t z :=
  pm_ix (Rb := fun _ r => r = .d y) ha (fun _ _ => hb) (fun _ _ e1 e2 => ⟨x, y, z, e1, e2, h, rfl⟩) hs
theorem ixN_map {n : Nat} {i : Int} {j : Nat} (h : ixN n i = some j) : j < n := (ixN_seq h).2.1
theorem atI_dq {F : Hp} {vs : List V} {ds : List PyData} {i : Int} {d : PyData} (h : DqA F vs ds) (e : atI ds i = some d) : ∃ v, atI vs i = some v ∧ Dq F v d := by
  unfold atI at e ⊢
  rw [h.len]
  cases q : ixN ds.length i with
  | none => rw [q] at e; cases e
  | some j =>
    rw [q] at e
    exact h.get e
theorem id_tup {ds : List PyData} {i : Int} {d : PyData} (h : atI ds i = some d) : IxD X (.tuple ds) (.int i) d := fun F H v u Q e h1 h2 k => by
  cases h2
  cases h1 with
  | tup g a =>
    obtain ⟨w, hw, hd⟩ := atI_dq a h
    exact use_i ix_tup ⟨_, _, i, w, rfl, rfl, SqT.of (e _ _ g), hw, k w hd⟩
theorem id_lst {ds : List PyData} {i : Int} {d : PyData} (h : atI ds i = some d) : IxD X (.list ds) (.int i) d := fun F H v u Q e h1 h2 k => by
  cases h2
  cases h1 with
  | lst g a =>
    obtain ⟨w, hw, hd⟩ := atI_dq a h
    exact use_i ix_list ⟨_, _, i, w, rfl, rfl, SqL.of (e _ _ g), hw, k w hd⟩
theorem at_nat {α : Type} {ds : List α} {i : Int} {d : α} (h0 : 0 ≤ i) (h : ds[i.toNat]? = some d) : atI ds i = some d := by
  have e : i = (i.toNat : Int) := by omega
  rw [e]
  exact atI_nat h
/-! ### attributes of an instance that stays -/
theorem pm_fld {C : Addr} {fs : List (Str × PyData)} {f : Str} (he : PM X e t (fun r => r = .ob C fs)) (hc : Cls X.K C) (hn : NoAttr X.K C f) (hl : fs.lookup f = some d) (hb : attributeBase e f X.env (eval e X.env) = eval e X.env := by rfl) : PD X (.Attribute e f pos) t d := fun N sg F H Q S q =>
  use_e (pe_fld (pe_of X e) hb) (he N sg F H _ S fun v F1 H1 r1 S1 s1 d1 hr1 => by
    subst hr1
    obtain ⟨a, dx, vs, rfl, g1, g2⟩ := d1
    obtain ⟨u, g3, g4⟩ := g2 f d hl
    exact ⟨a, C, dx, vs, u, rfl, S1.fh _ _ g1, hc, hn, g3, q u F1 H1 (.d _) S1 s1 g4 rfl⟩)
/-! ### calls of built-ins -/
def CallD (X : Cx) (f : Value) (rs : List Dt) (z : PyData) : Prop := ∀ (F H : Hp) (vs : List V) (Q : VK), Same F H → DtA F vs rs → (∀ w F' H', Gr F H F' H' → Dq F' w z → Q w H') → crOf X f vs H Q
theorem pm_callB {x : Str} {id : String} {p : Pos} {P : List Dt → Prop} (hg : Gl X x) (hm : X.mg x = none) (hv : bootBuiltins x = some (.builtin id)) (ha : PMA X (e :: es) t P) (h : ∀ rs, P rs → ∃ z, CallD X (.builtin id) rs z ∧ R (.d z)) (hn : x ≠ "__name__" := by decide) (hdb : (x == ("__debug__" : Str)) = false := by decide)
    (he : starEach (e :: es) X.env = (false, eval e X.env) :: starEach es X.env := by rfl) (hpl : (backTo pos (starEach es X.env)).any (·.1) = false := by rfl) : PM X (.Call (.Name x p) (e :: es) [] pos) t R := fun N sg F H Q S q =>
  use_e (pe_callB (c_of X _) hg hm hv (pa_of X _) hn hdb he hpl) (ha N sg F H _ S fun vs F1 H1 rs S1 s1 d1 hr => by
    obtain ⟨z, k, hz⟩ := h rs hr
    exact k F1 H1 vs Q S1.fh d1 fun w F2 H2 g dz => q w F2 H2 (.d _) (S1.grow g) (s1.trans g.ff) dz hz)
theorem pd_callB {x : Str} {id : String} {p : Pos} {rs : List Dt} (hg : Gl X x) (hm : X.mg x = none) (hv : bootBuiltins x = some (.builtin id)) (ha : PDA X (e :: es) t rs) (h : CallD X (.builtin id) rs z) (hn : x ≠ "__name__" := by decide) (hdb : (x == ("__debug__" : Str)) = false := by decide)
    (he : starEach (e :: es) X.env = (false, eval e X.env) :: starEach es X.env := by rfl) (hpl : (backTo pos (starEach es X.env)).any (·.1) = false := by rfl) : PD X (.Call (.Name x p) (e :: es) [] pos) t z :=
  pm_callB (x := x) (id := id) hg hm hv ha (fun rs' e' => by subst e'; exact ⟨z, h, rfl⟩) hn hdb he hpl
theorem pm_callT {x : Str} {T : String} {p : Pos} {P : List Dt → Prop} (hg : Gl X x) (hm : X.mg x = none) (hv : bootBuiltins x = some (.type T)) (ha : PMA X (e :: es) t P) (h : ∀ rs, P rs → ∃ z, CallD X (.type T) rs z ∧ R (.d z)) (hn : x ≠ "__name__" := by decide) (hdb : (x == ("__debug__" : Str)) = false := by decide)
    (he : starEach (e :: es) X.env = (false, eval e X.env) :: starEach es X.env := by rfl) (hpl : (backTo pos (starEach es X.env)).any (·.1) = false := by rfl) : PM X (.Call (.Name x p) (e :: es) [] pos) t R := fun N sg F H Q S q =>
  use_e (pe_callTy (c_of X _) hg hm hv (pa_of X _) hn hdb he hpl) (ha N sg F H _ S fun vs F1 H1 rs S1 s1 d1 hr => by
    obtain ⟨z, k, hz⟩ := h rs hr
    exact k F1 H1 vs Q S1.fh d1 fun w F2 H2 g dz => q w F2 H2 (.d _) (S1.grow g) (s1.trans g.ff) dz hz)
theorem pd_callT {x : Str} {T : String} {p : Pos} {rs : List Dt} (hg : Gl X x) (hm : X.mg x = none) (hv : bootBuiltins x = some (.type T)) (ha : PDA X (e :: es) t rs) (h : CallD X (.type T) rs z) (hn : x ≠ "__name__" := by decide) (hdb : (x == ("__debug__" : Str)) = false := by decide)
    (he : starEach (e :: es) X.env = (false, eval e X.env) :: starEach es X.env := by rfl) (hpl : (backTo pos (starEach es X.env)).any (·.1) = false := by rfl) : PD X (.Call (.Name x p) (e :: es) [] pos) t z :=
  pm_callT (x := x) (T := T) hg hm hv ha (fun rs' e' => by subst e'; exact ⟨z, h, rfl⟩) hn hdb he hpl
theorem ll_lenT (ds : List PyData) : CallD X (.builtin "len") [.d (.tuple ds)] (.int ds.length) := fun F H vs Q e h k => by
  cases h with
  | cons h1 h2 =>
    cases h2
    cases h1 with
    | tup g a => exact use_c call_len_seq ⟨_, _, rfl, .inr (SqT.of (e _ _ g)), by rw [a.len]; exact k _ F H (Gr.refl e) (.int _)⟩
theorem ll_lenL (ds : List PyData) : CallD X (.builtin "len") [.d (.list ds)] (.int ds.length) := fun F H vs Q e h k => by
  cases h with
  | cons h1 h2 =>
    cases h2
    cases h1 with
    | lst g a => exact use_c call_len_seq ⟨_, _, rfl, .inl (SqL.of (e _ _ g)), by rw [a.len]; exact k _ F H (Gr.refl e) (.int _)⟩
theorem ll_tupL (ds : List PyData) : CallD X (.type "tuple") [.d (.list ds)] (.tuple ds) := fun F H vs Q e h k => by
  cases h with
  | cons h1 h2 =>
    cases h2
    cases h1 with
    | lst g a => exact use_c call_tuple_of ⟨_, _, rfl, .inl ⟨SqL.of (e _ _ g), fun l hl => k _ _ _ (Gr.new e hl) (.tup upd_same (a.up (same_new (e.free hl))))⟩⟩
theorem ll_lstT (ds : List PyData) : CallD X (.type "list") [.d (.tuple ds)] (.list ds) := fun F H vs Q e h k => by
  cases h with
  | cons h1 h2 =>
    cases h2
    cases h1 with
    | tup g a => exact use_c call_list_of ⟨_, _, rfl, .inr (SqT.of (e _ _ g)), fun l hl => k _ _ _ (Gr.new e hl) (.lst upd_same (a.up (same_new (e.free hl))))⟩
theorem ll_int (i : Int) : CallD X (.type "int") [.d (.int i)] (.int i) := fun F H vs Q e h k => by
  cases h with
  | cons h1 h2 =>
    cases h2
    cases h1
    exact use_c call_int1 (.inl ⟨i, rfl, k _ F H (Gr.refl e) (.int _)⟩)
theorem ll_intB (b : Bool) : CallD X (.type "int") [.d (.bool b)] (.int (if b then 1 else 0)) := fun F H vs Q e h k => by
  cases h with
  | cons h1 h2 =>
    cases h2
    cases h1
    exact use_c call_int1 (.inr ⟨b, rfl, k _ F H (Gr.refl e) (.int _)⟩)
theorem ll_abs (i : Int) : CallD X (.builtin "abs") [.d (.int i)] (.int (if i < 0 then -i else i)) := fun F H vs Q e h k => by
  cases h with
  | cons h1 h2 =>
    cases h2
    cases h1
    exact use_c call_abs ⟨i, rfl, k _ F H (Gr.refl e) (.int _)⟩
theorem ll_sum (hc : X.calm = true) (ns : List Int) : CallD X (.builtin "sum") [.d (.list (ns.map PyData.int))] (.int ns.sum) := fun F H vs Q e h k => by
  cases h with
  | cons h1 h2 =>
    cases h2
    cases h1 with
    | lst g a =>
      rw [a.ints] at g
      exact use_c (cr_sum hc) ⟨_, ns, rfl, SqL.of (e _ _ g), k _ F H (Gr.refl e) (.int _)⟩
theorem ll_any (hc : X.calm = true) (ns : List Bool) : CallD X (.builtin "any") [.d (.list (ns.map PyData.bool))] (.bool (ns.any id)) := fun F H vs Q e h k => by
  cases h with
  | cons h1 h2 =>
    cases h2
    cases h1 with
    | lst g a =>
      rw [a.bls] at g
      exact use_c (cr_any hc) ⟨_, ns, rfl, SqL.of (e _ _ g), k _ F H (Gr.refl e) (.bl _)⟩
theorem ll_max2 (hc : X.calm = true) (i j : Int) : CallD X (.builtin "max") [.d (.int i), .d (.int j)] (.int (if j > i then j else i)) := fun F H vs Q e h k => by
  cases h with
  | cons h1 h2 =>
    cases h2 with
    | cons h2 h3 =>
      cases h3; cases h1; cases h2
      exact use_c (call_max2 hc) ⟨i, j, rfl, k _ F H (Gr.refl e) (.int _)⟩
theorem ll_min2 (hc : X.calm = true) (i j : Int) : CallD X (.builtin "min") [.d (.int i), .d (.int j)] (.int (if j < i then j else i)) := fun F H vs Q e h k => by
  cases h with
  | cons h1 h2 =>
    cases h2 with
    | cons h2 h3 =>
      cases h3; cases h1; cases h2
      exact use_c (call_min2 hc) ⟨i, j, rfl, k _ F H (Gr.refl e) (.int _)⟩
def maxL : List Int → Int
  | [] => 0
  | [a] => a
  | a :: b :: r => if a < maxL (b :: r) then maxL (b :: r) else a
def minL : List Int → Int
  | [] => 0
  | [a] => a
  | a :: b :: r => if minL (b :: r) < a then minL (b :: r) else a
theorem maxL_spec : ∀ (ns : List Int), ns ≠ [] → maxL ns ∈ ns ∧ ∀ y ∈ ns, y ≤ maxL ns
  | [], h => absurd rfl h
  | [a], _ => by simp [maxL]
  | a :: b :: r, _ => by
    have ih := maxL_spec (b :: r) (by simp)
    show (if a < maxL (b :: r) then maxL (b :: r) else a) ∈ a :: b :: r ∧ ∀ y ∈ a :: b :: r, y ≤ (if a < maxL (b :: r) then maxL (b :: r) else a)
    by_cases q : a < maxL (b :: r)
    · rw [if_pos q]
      refine ⟨List.mem_cons_of_mem _ ih.1, fun y hy => ?_⟩
      rcases List.mem_cons.mp hy with e | e
      · omega
      · exact ih.2 y e
    · rw [if_neg q]
      refine ⟨List.mem_cons_self, fun y hy => ?_⟩
      rcases List.mem_cons.mp hy with e | e
      · omega
      · have := ih.2 y e; omega
theorem minL_spec : ∀ (ns : List Int), ns ≠ [] → minL ns ∈ ns ∧ ∀ y ∈ ns, minL ns ≤ y
  | [], h => absurd rfl h
  | [a], _ => by simp [minL]
  | a :: b :: r, _ => by
    have ih := minL_spec (b :: r) (by simp)
    show (if minL (b :: r) < a then minL (b :: r) else a) ∈ a :: b :: r ∧ ∀ y ∈ a :: b :: r, (if minL (b :: r) < a then minL (b :: r) else a) ≤ y
    by_cases q : minL (b :: r) < a
    · rw [if_pos q]
      refine ⟨List.mem_cons_of_mem _ ih.1, fun y hy => ?_⟩
      rcases List.mem_cons.mp hy with e | e
      · omega
      · exact ih.2 y e
    · rw [if_neg q]
      refine ⟨List.mem_cons_self, fun y hy => ?_⟩
      rcases List.mem_cons.mp hy with e | e
      · omega
      · have := ih.2 y e; omega
theorem ll_max (hc : X.calm = true) (ns : List Int) (h0 : ns ≠ []) : CallD X (.builtin "max") [.d (.list (ns.map PyData.int))] (.int (maxL ns)) := fun F H vs Q e h k => by
  cases h with
  | cons h1 h2 =>
    cases h2
    cases h1 with
    | lst g a =>
      rw [a.ints] at g
      refine use_c (cr_max hc) ⟨_, ns, rfl, SqL.of (e _ _ g), List.length_pos_iff.mpr h0, fun m hm hle => ?_⟩
      have s := maxL_spec ns h0
      have em : m = maxL ns := by
        have h1 := hle _ s.1
        have h2 := s.2 m hm
        omega
      rw [em]
      exact k _ F H (Gr.refl e) (.int _)
theorem ll_min (hc : X.calm = true) (ns : List Int) (h0 : ns ≠ []) : CallD X (.builtin "min") [.d (.list (ns.map PyData.int))] (.int (minL ns)) := fun F H vs Q e h k => by
  cases h with
  | cons h1 h2 =>
    cases h2
    cases h1 with
    | lst g a =>
      rw [a.ints] at g
      refine use_c (cr_min hc) ⟨_, ns, rfl, SqL.of (e _ _ g), List.length_pos_iff.mpr h0, fun m hm hle => ?_⟩
      have s := minL_spec ns h0
      have em : m = minL ns := by
        have h1 := hle _ s.1
        have h2 := s.2 m hm
        omega
      rw [em]
      exact k _ F H (Gr.refl e) (.int _)
end
end Fw

-- part FwStmt
set_option Elab.async false
set_option maxRecDepth 100000
set_option maxHeartbeats 4000000
set_option linter.all false
namespace Fw
open PySem PySem.Spec PyProof.Rows L2
/-! ### slots apart -/
theorem ows_inj : ∀ {t : Ty} {i j : Nat} {s u : Sl} {a : Addr}, (ows t).Nodup → t[i]? = some s → t[j]? = some u → s.ad = some a → u.ad = some a → i = j
  | [], i, j, s, u, a, _, h, _, _, _ => by simp at h
  | x :: t, 0, 0, s, u, a, _, _, _, _, _ => rfl
  | x :: t, 0, j + 1, s, u, a, nd, h1, h2, e1, e2 => by
    exfalso
    have q : x = s := by simpa using h1
    subst q
    have nd : (List.filterMap Sl.ad (x :: t)).Nodup := nd
    rw [List.filterMap_cons, e1] at nd
    exact (List.nodup_cons.mp nd).1 (ows_mem (t := t) (i := j) (by simpa using h2) e2)
  | x :: t, i + 1, 0, s, u, a, nd, h1, h2, e1, e2 => by
    exfalso
    have q : x = u := by simpa using h2
    subst q
    have nd : (List.filterMap Sl.ad (x :: t)).Nodup := nd
    rw [List.filterMap_cons, e2] at nd
    exact (List.nodup_cons.mp nd).1 (ows_mem (t := t) (i := i) (by simpa using h1) e1)
  | x :: t, i + 1, j + 1, s, u, a, nd, h1, h2, e1, e2 => by
    have nd' : (ows t).Nodup := by
      have nd : (List.filterMap Sl.ad (x :: t)).Nodup := nd
      rw [List.filterMap_cons] at nd
      cases q : x.ad with
      | none => rw [q] at nd; exact nd
      | some b => rw [q] at nd; exact (List.nodup_cons.mp nd).2
    rw [ows_inj (t := t) (i := i) (j := j) nd' (by simpa using h1) (by simpa using h2) e1 e2]
/-- an owned thing has changed: slot i bears its new kind -/
theorem StO.mut {N : En} {F H F' H' : Hp} {sg : St} {t : Ty} {i : Nat} {s s' : Sl} {a : Addr} (S : StO N F H sg t) (ht : t[i]? = some s) (e : s.ad = some a) (e' : s'.ad = some a)
    (ff : Same F F') (fh : Same F' H') (nf : ∀ b, H b ≠ none → F b = none → F' b = none) (un : ∀ b o, b ≠ a → H b = some o → H' b = some o) (na : H' a ≠ none) (k : ∀ v, SlK F H v s → SlK F' H' v s') : StO N F' H' sg (t.set i s') := by
  have hil : i < t.length := (List.getElem?_eq_some_iff.mp ht).1
  have am : a ∈ ows t := ows_mem ht e
  refine ⟨by rw [List.length_set]; exact S.ln, fh, S.f0.trans ff, fun b h1 h2 => nf b (S.th b h1) (S.nf b h1 h2), fun b o h1 h2 => un b o (fun z => ?_) (S.un b o h1 h2), fun b h => ?_, fun j u hj => ?_, fun b hb => ?_, ows_set_own e' S.ap (.inr ⟨s, ht, e⟩)⟩
  · subst z
    rcases S.ow b am with q | q
    · rw [h1] at q; cases q
    · exact h2 q
  · by_cases z : b = a
    · rw [z]; exact na
    · have q := S.th b h
      intro w
      cases e2 : H b with
      | none => exact q e2
      | some o => rw [un b o z e2] at w; cases w
  · by_cases hij : i = j
    · subst hij
      rw [List.getElem?_set_self hil] at hj
      cases hj
      obtain ⟨v, h1, h2⟩ := S.sl i s ht
      exact ⟨v, h1, k v h2⟩
    · rw [List.getElem?_set_ne hij] at hj
      obtain ⟨v, h1, h2⟩ := S.sl j u hj
      refine ⟨v, h1, ?_⟩
      have ne : ∀ b, u.ad = some b → b ≠ a := fun b hb z => hij (ows_inj S.ap ht hj e (z ▸ hb))
      cases u with
      | no => trivial
      | v r => obtain ⟨x, g1, g2⟩ := h2; exact ⟨x, g1, g2.up ff⟩
      | lst b xs =>
        obtain ⟨g1, g2, vs, g3, g4⟩ := h2
        exact ⟨g1, nf b (by rw [g3]; intro z; cases z) g2, vs, un b _ (ne b rfl) g3, g4.up ff⟩
      | dct b xs =>
        obtain ⟨g1, g2, vs, g3, g4⟩ := h2
        exact ⟨g1, nf b (by rw [g3]; intro z; cases z) g2, vs, un b _ (ne b rfl) g3, g4.up ff⟩
      | hand b =>
        obtain ⟨g1, g2, vs, hs, g3, g4, g5⟩ := h2
        exact ⟨g1, nf b (by rw [g3]; intro z; cases z) g2, vs, hs, un b _ (ne b rfl) g3, g4.up ff, g5⟩
      | rf b => exact h2
      | ins b C dx fs =>
        obtain ⟨g1, g2, vs, g3, g4⟩ := h2
        exact ⟨g1, nf b (by rw [g3]; intro z; cases z) g2, vs, un b _ (ne b rfl) g3, g4.up ff⟩
      | obj b C dx vs =>
        obtain ⟨g1, g2, g3⟩ := h2
        exact ⟨g1, nf b (by rw [g3]; intro z; cases z) g2, un b _ (ne b rfl) g3⟩
      | gd b ks =>
        obtain ⟨g2, vs, g3, g4⟩ := h2
        exact ⟨nf b (by rw [g3]; intro z; cases z) g2, vs, un b _ (ne b rfl) g3, g4.up ff⟩
      | xt b S ks =>
        obtain ⟨g1, g2, o, vs, g3, g4, g5⟩ := h2
        exact ⟨g1, nf b (by rw [g3]; intro z; cases z) g2, o, vs, un b _ (ne b rfl) g3, g4, g5.up ff⟩
  · obtain ⟨x, hx, ex⟩ := List.mem_filterMap.mp hb
    rcases List.mem_or_eq_of_mem_set hx with q | q
    · exact S.ow b (List.mem_filterMap.mpr ⟨x, q, ex⟩)
    · subst q
      rw [e'] at ex
      cases ex
      exact S.ow _ am
theorem set_same {t : Ty} {i : Nat} {s : Sl} (h : t[i]? = some s) : t.set i s = t := by
  obtain ⟨hl, e⟩ := List.getElem?_eq_some_iff.mp h
  subst e
  exact List.set_getElem_self hl
/-! ### calls of the text's own defs -/
/-- a pure def: from data to data -/
def spP (n : Nat) (Phi : List Dt → Dt → Prop) : Sp := fun vs H Q _ => vs.length = n ∧ ∃ F rs r, Same F H ∧ DtA F vs rs ∧ Phi rs r ∧ ∀ w F' H', Gr F H F' H' → DtR F' w r → Q w H'
/-- a def that draws: the hand, then data -/
def spH (n : Nat) (Pre : List Dt → Prop) (Phi : List Dt → Dt → Prop) : Sp := fun vs H Q _ => vs.length = n ∧ ∃ (F : Hp) (h : Addr) (vs' : List V) (rs : List Dt) (ws : List V) (hs : List PyData), vs = .ref h :: vs' ∧ Same F H ∧ F h = none ∧ H h = some (.lst ws) ∧ DqA F ws hs ∧ HandOk hs ∧ DtA F vs' rs ∧ Pre rs ∧
  ∀ w F' H' r ws' hs', Same F F' → Same F' H' → (∀ a, H a ≠ none → F a = none → F' a = none) → (∀ a o, a ≠ h → H a = some o → H' a = some o) → H' h = some (.lst ws') → DqA F' ws' hs' → HandOk hs' → Phi rs r → DtR F' w r → Q w H'
section
variable {X : Cx} {a b c e : Expr} {es : List Expr} {t : Ty} {R R' Ra : Dt → Prop} {pos : Pos} {x y z d : PyData} {k : Nat} {f : Addr} {fd : FuncData} {ps : List Str} {nm : Str} {p : Pos}
theorem DtA.len {F : Hp} : ∀ {vs : List V} {rs : List Dt}, DtA F vs rs → vs.length = rs.length
  | _, _, .nil => rfl
  | _, _, .cons _ h => by rw [List.length_cons, List.length_cons, DtA.len h]
theorem pm_call {n : Nat} {Phi : List Dt → Dt → Prop} {P : List Dt → Prop} (G : FnOk X.prog X.w X.K X.mg X.base CX0 k f fd ps (spP n Phi)) (hr : Room k X.A) (hg : Gl X nm) (hm : X.mg nm = some (.ref f)) (hk : PySem.W.keepIn X.K (.ref f) = true) (hb : Binds X.K fd ps [])
    (ha : PMA X (e :: es) t P) (h : ∀ rs, P rs → rs.length = n ∧ ∃ r, Phi rs r ∧ R r) (hdb : (nm == ("__debug__" : Str)) = false := by decide) (he : starEach (e :: es) X.env = (false, eval e X.env) :: starEach es X.env := by rfl) (hpl : (backTo pos (starEach es X.env)).any (·.1) = false := by rfl) :
    PM X (.Call (.Name nm p) (e :: es) [] pos) t R := fun N sg F H Q S q =>
  use_e (pe_call (dvs := []) (E := E0) G hr hg hm hk hb .nil pass0 (pa_of X _) hdb he hpl) (ha N sg F H _ S fun vs F1 H1 rs S1 s1 d1 hr1 => by
    obtain ⟨hl, r, h1, h2⟩ := h rs hr1
    rw [List.append_nil]
    exact ⟨by rw [d1.len]; exact hl, F1, rs, r, S1.fh, d1, h1, fun w F2 H2 g dw => q w F2 H2 r (S1.grow g) (s1.trans g.ff) dw h2⟩)
theorem pm_callH {n : Nat} {Pre : List Dt → Prop} {Phi : List Dt → Dt → Prop} {P : List Dt → Prop} {hx : Str} {hp : Pos} {h : Addr} (i : Nat) (G : FnOk X.prog X.w X.K X.mg X.base CX0 k f fd ps (spH n Pre Phi)) (hr : Room k X.A) (hg : Gl X nm) (hm : X.mg nm = some (.ref f)) (hk : PySem.W.keepIn X.K (.ref f) = true) (hb : Binds X.K fd ps [])
    (hN : X.N[i]? = some hx) (hv : Vis X.env.scope hx) (ht : t[i]? = some (.hand h)) (ha : PMA X es t P) (hh : ∀ rs, P rs → rs.length + 1 = n ∧ Pre rs ∧ ∀ r, Phi rs r → R r)
    (hd : (hx == ("__debug__" : Str)) = false) (hcd : (hx == ("__classdict__" : Str)) = false) (hdb : (nm == ("__debug__" : Str)) = false := by decide) (he : starEach (.Name hx hp :: es) X.env = (false, eval (.Name hx hp) X.env) :: starEach es X.env := by rfl) (hpl : (backTo pos (starEach es X.env)).any (·.1) = false := by rfl) :
    PM X (.Call (.Name nm p) (.Name hx hp :: es) [] pos) t R := fun N sg F H Q S q => by
  refine use_e (pe_call (dvs := []) (E := E0) G hr hg hm hk hb .nil pass0 (pa_cons (pe_var (i := i) hN hv hd hcd) (pa_of X es) he) hdb he hpl) ?_
  obtain ⟨v0, g1, g2, g3, _⟩ := S.sl i _ ht
  subst g2
  refine ⟨_, g1, ha N sg F H _ S fun vs F1 H1 rs S1 s1 d1 hr1 => ?_⟩
  obtain ⟨hl, hpre, hphi⟩ := hh rs hr1
  obtain ⟨v1, j1, j2, j3, ws, hs, j4, j5, j6⟩ := S1.sl i _ ht
  rw [List.append_nil]
  refine ⟨by rw [List.length_cons, d1.len]; exact hl, F1, h, vs, rs, ws, hs, rfl, S1.fh, j3, j4, j5, j6, d1, hpre, fun w F2 H2 r ws' hs' ff fh nf un l1 l2 l3 ph dw => q w F2 H2 r ?_ (s1.trans ff) dw (hphi r ph)⟩
  have S2 : StO N F2 H2 sg (t.set i (.hand h)) := S1.mut (s' := .hand h) ht rfl rfl ff fh nf un (by rw [l1]; intro z; cases z) fun v hv2 => ⟨hv2.1, nf h (by rw [j4]; intro z; cases z) j3, ws', hs', l1, l2, l3⟩
  rw [set_same ht] at S2
  exact S2
end
/-! ### targets -/
def setsV (sg : St) (qs : List (Nat × V)) : St := qs.foldl (fun s q => s.set q.1 (some q.2)) sg
def setsT (t : Ty) (ps : List (Nat × PyData)) : Ty := ps.foldl (fun s q => s.set q.1 (.v (.d q.2))) t
abbrev Bnd (F : Hp) : List (Nat × V) → List (Nat × PyData) → Prop := Paired fun q p => q.1 = p.1 ∧ Dq F q.2 p.2
theorem Pd.app {α β : Type} {G : α → β → Prop} : ∀ {xs xs' : List α} {ys ys' : List β}, Paired G xs ys → Paired G xs' ys' → Paired G (xs ++ xs') (ys ++ ys')
  | _, _, _, _, .nil, k => k
  | _, _, _, _, .cons h t, k => .cons h (Pd.app t k)
theorem StO.sets {N : En} {F H : Hp} : ∀ {qs : List (Nat × V)} {ps : List (Nat × PyData)} {sg : St} {t : Ty}, StO N F H sg t → Bnd F qs ps → StO N F H (setsV sg qs) (setsT t ps)
  | _, _, _, _, S, .nil => S
  | q :: qs, p :: ps, sg, t, S, .cons h r => by
    obtain ⟨e, d⟩ := h
    show StO N F H (setsV (sg.set q.1 (some q.2)) qs) (setsT (t.set p.1 (.v (.d p.2))) ps)
    rw [e]
    exact StO.sets (S.set rfl ⟨q.2, rfl, d⟩) r
def TgS (g : TG) (d : PyData) (ps : List (Nat × PyData)) : Prop := ∀ (F H : Hp) (v : V) (sg : St) (Q : St → Hp → Prop), Same F H → Dq F v d → (∀ qs, Bnd F qs ps → Q (setsV sg qs) H) → g v sg H Q
def TgSs (g : TGs) (ds : List PyData) (ps : List (Nat × PyData)) : Prop := ∀ (F H : Hp) (vs : List V) (sg : St) (Q : St → Hp → Prop), Same F H → DqA F vs ds → (∀ qs, Bnd F qs ps → Q (setsV sg qs) H) → g vs sg H Q
theorem tg_name {i : Nat} {d : PyData} : TgS (gName i) d [(i, d)] := fun F H v sg Q _ h k => k [(i, v)] (.cons ⟨rfl, h⟩ .nil)
theorem tgs_nil : TgSs gNil [] [] := fun F H vs sg Q _ h k => by
  cases h
  exact ⟨rfl, k [] .nil⟩
theorem tgs_cons {g : TG} {u : TGs} {d : PyData} {ds : List PyData} {ps qs : List (Nat × PyData)} (h : TgS g d ps) (h' : TgSs u ds qs) : TgSs (gCons g u) (d :: ds) (ps ++ qs) := fun F H vs sg Q e hd k => by
  cases hd with
  | cons h1 h2 =>
    refine ⟨_, _, rfl, h F H _ sg _ e h1 fun q1 b1 => h' F H _ _ _ e h2 fun q2 b2 => ?_⟩
    have r := k (q1 ++ q2) (Pd.app b1 b2)
    unfold setsV at r
    rw [List.foldl_append] at r
    exact r
theorem tg_tup {K : PySem.W.Frag} {n : Nat} {u : TGs} {ds : List PyData} {ps : List (Nat × PyData)} (h : TgSs u ds ps) (hn : ds.length = n) : TgS (gTup K n u) (.tuple ds) ps := fun F H v sg Q e hd k => by
  cases hd with
  | tup g a => exact ⟨_, _, rfl, SqT.of (e _ _ g), by rw [a.len]; exact hn, h F H _ sg Q e a k⟩
/-! ### what is walked -/
structure WkD (J : It) (F1 : Hp) (ds : List PyData) : Prop where
  go : ∀ i H, i < ds.length → Same F1 H → J.go i H
  stop : ∀ H, Same F1 H → J.stop ds.length H
  yld : ∀ i H x H', i < ds.length → Same F1 H → J.yld i H x H' → ∀ F, Same F1 F → Same F H → ∃ F' d, Gr F H F' H' ∧ ds[i]? = some d ∧ Dq F' x d
def ItD (X : Cx) (tg it : Expr) (t : Ty) (ds : List PyData) : Prop := ∃ wi, PI X tg it wi ∧ ∀ (N : En) (sg : St) (F H : Hp) (R : It → Hp → Prop), StO N F H sg t → (∀ J F1 H1, StO N F1 H1 sg t → Same F F1 → WkD J F1 ds → R J H1) → wi sg H R
section
variable {X : Cx} {e tg : Expr} {t : Ty} {ds : List PyData} {K : PySem.W.Frag}
theorem wk_seq {a : Addr} {vs : List V} {F1 : Hp} (g : F1 a = some (.tup vs)) (h : DqA F1 vs ds) : WkD (Itt K a) F1 ds where
  go := fun i H hi s => by
    obtain ⟨v, hv, _⟩ := h.get (i := i) (List.getElem?_eq_getElem hi)
    exact ⟨vs, v, SqT.of (s _ _ g), hv⟩
  stop := fun H s => ⟨vs, SqT.of (s _ _ g), by rw [h.len]; exact Nat.le_refl _⟩
  yld := fun i H x H' hi s y F f1 fh => by
    obtain ⟨e, y⟩ := y
    subst e
    obtain ⟨d, hd, dq⟩ := h.getV (y vs (SqT.of (s _ _ g)))
    exact ⟨F, d, Gr.refl fh, hd, dq.up f1⟩
theorem wk_lst {a : Addr} {vs : List V} {F1 : Hp} (g : F1 a = some (.lst vs)) (h : DqA F1 vs ds) : WkD (Itl K a) F1 ds where
  go := fun i H hi s => by
    obtain ⟨v, hv, _⟩ := h.get (i := i) (List.getElem?_eq_getElem hi)
    exact ⟨vs, v, SqL.of (s _ _ g), hv⟩
  stop := fun H s => ⟨vs, SqL.of (s _ _ g), by rw [h.len]; exact Nat.le_refl _⟩
  yld := fun i H x H' hi s y F f1 fh => by
    obtain ⟨e, y⟩ := y
    subst e
    obtain ⟨d, hd, dq⟩ := h.getV (y vs (SqL.of (s _ _ g)))
    exact ⟨F, d, Gr.refl fh, hd, dq.up f1⟩
theorem it_tup (h : PD X e t (.tuple ds)) : ItD X tg e t ds := ⟨_, pi_tup (pe_of X e), fun N sg F H R S k => h N sg F H _ S fun v F1 H1 r1 S1 s1 d1 hr1 => by
  subst hr1
  cases d1 with
  | tup g a => exact ⟨_, rfl, ⟨_, SqT.of (S1.fh _ _ g)⟩, k _ F1 H1 S1 s1 (wk_seq g a)⟩⟩
theorem it_lst (h : PD X e t (.list ds)) : ItD X tg e t ds := ⟨_, pi_list (pe_of X e), fun N sg F H R S k => h N sg F H _ S fun v F1 H1 r1 S1 s1 d1 hr1 => by
  subst hr1
  cases d1 with
  | lst g a => exact ⟨_, rfl, ⟨_, SqL.of (S1.fh _ _ g)⟩, k _ F1 H1 S1 s1 (wk_lst g a)⟩⟩
def rngD (n : Nat) : List PyData := (List.range n).map fun i => PyData.int (i : Nat)
theorem rngD_get {n i : Nat} (h : i < n) : (rngD n)[i]? = some (.int (i : Nat)) := by
  unfold rngD
  rw [List.getElem?_map, List.getElem?_range h]
  rfl
theorem rngD_len (n : Nat) : (rngD n).length = n := by unfold rngD; rw [List.length_map, List.length_range]
theorem rngD_mem {n : Nat} {d : PyData} (h : d ∈ rngD n) : ∃ i : Nat, i < n ∧ d = .int (i : Nat) := by
  obtain ⟨i, hi, e⟩ := List.mem_map.mp h
  exact ⟨i, List.mem_range.mp hi, e.symm⟩
theorem it_rng {p pos : Pos} {n : Int} (hg : Gl X "range") (hm : X.mg "range" = none) (h : PD X e t (.int n)) (h0 : -(2 ^ 62) ≤ n) (h1 : n < 2 ^ 62) (hs : starEach [e] X.env = [(false, eval e X.env)] := by rfl) (hs' : starEach [e] X.env = (false, eval e X.env) :: starEach [] X.env := by rfl) : ItD X tg (.Call (.Name "range" p) [e] [] pos) t (rngD n.toNat) :=
  ⟨_, pi_range1 hg hm (pa_cons (pe_of X e) pa_nil hs') hs, fun N sg F H R S k => h N sg F H _ S fun v F1 H1 r1 S1 s1 d1 hr1 => by
    subst hr1
    cases d1
    refine ⟨n, rfl, h0, h1, k _ F1 H1 S1 s1 ⟨fun i H hi _ => ?_, fun H _ => ?_, fun i H x H' hi _ y F f1 fh => ?_⟩⟩
    · rw [rngD_len] at hi; exact hi
    · rw [rngD_len]; exact Nat.le_refl _
    · rw [rngD_len] at hi
      obtain ⟨rfl, rfl⟩ := y
      exact ⟨F, _, Gr.refl fh, rngD_get hi, by rw [Int.zero_add]; exact .int _⟩⟩
end
/-! ### statements -/
structure Po where
  nx : Ty → Prop
  rt : Dt → Ty → Prop
  bk : Ty → Prop := fun _ => False
  ct : Ty → Prop := fun _ => False
structure PoD (N : En) (R : Po) (D : Ends) : Prop where
  nx : ∀ sg F H t, StO N F H sg t → R.nx t → D.nx sg H
  rt : ∀ v F H sg t r, StO N F H sg t → DtR F v r → R.rt r t → D.rt v H
  bk : ∀ sg F H t, StO N F H sg t → R.bk t → D.bk sg H
  ct : ∀ sg F H t, StO N F H sg t → R.ct t → D.ct sg H
def SD (X : Cx) (st : Stmt) (t : Ty) (R : Po) : Prop := ∀ (N : En) (sg : St) (F H : Hp) (D : Ends), StO N F H sg t → PoD N R D → tsOf X st D sg H
def SDs (X : Cx) (sts : List Stmt) (t : Ty) (R : Po) : Prop := ∀ (N : En) (sg : St) (F H : Hp) (D : Ends), StO N F H sg t → PoD N R D → tbOf X sts D sg H
section
variable {X : Cx} {e c : Expr} {st : Stmt} {sts A B : List Stmt} {t : Ty} {R : Po} {pos : Pos} {d : PyData}
theorem sd_nil (h : R.nx t) : SDs X [] t R := fun N sg F H D S k => use_b pss_nil (k.nx sg F H t S h)
theorem sd_one (h : SD X st t R) : SDs X [st] t R := fun N sg F H D S k => use_b (pss_one (ps_of X st)) (h N sg F H D S k)
theorem sd_cons (h : SD X st t { R with nx := fun t' => SDs X sts t' R }) : SDs X (st :: sts) t R := fun N sg F H D S k =>
  use_b (pss_cons (ps_of X st) (pb_of X sts)) (h N sg F H { D with nx := tbOf X sts D } S ⟨fun sg' F' H' t' S' q => q N sg' F' H' D S' k, k.rt, k.bk, k.ct⟩)
theorem sd_asg {x : Str} {p : Pos} {Re : Dt → Prop} (i : Nat) (hN : X.N.Nodup) (hi : X.N[i]? = some x) (hx : Loc X.env.scope x) (he : PM X e t Re) (k : ∀ r, Re r → R.nx (t.set i (.v r))) (hs : swapsWith e (some (.Name x p)) pos.line X.env = pure false := by rfl)
    (hf : X.fn x = true ∨ X.env.scope.names.lookup x = some .local := by first | exact .inl rfl | exact .inr rfl) : SD X (.Assign [.Name x p] e pos) t R := fun N sg F H D S q =>
  use_s (ps_set hN hi hx (pe_of X e) hs hf) (he N sg F H _ S fun v F1 H1 r1 S1 s1 d1 hr1 => q.nx _ F1 H1 _ (S1.set (s := .v r1) rfl ⟨v, rfl, d1⟩) (k r1 hr1))
theorem sd_asgT {tg : Expr} {g : TG} {bs : List (Nat × PyData)} (he : PD X e t d) (hg : PG X tg g) (ht : TgS g d bs) (k : R.nx (setsT t bs)) (hs : swapsWithSole [tg] e pos.line X.env = pure false := by rfl) (hw : swappedStores [tg] e X.env = pure none := by rfl) (ha : (assignEach [tg] X.env).map (·.2) = [assign tg X.env] := by rfl) : SD X (.Assign [tg] e pos) t R := fun N sg F H D S q =>
  use_s (ps_asg (pe_of X e) hg hs hw ha) (he N sg F H _ S fun v F1 H1 r1 S1 s1 d1 hr1 => by
    subst hr1
    exact ht F1 H1 v sg _ S1.fh d1 fun qs hb => q.nx _ F1 H1 _ (S1.sets hb) k)
theorem sd_ret {Re : Dt → Prop} (he : PM X e t Re) (k : ∀ r, Re r → R.rt r t) : SD X (.Return (some e) pos) t R := fun N sg F H D S q =>
  use_s (ps_ret (pe_of X e)) (he N sg F H _ S fun v F1 H1 r1 S1 s1 d1 hr1 => q.rt v F1 H1 sg t r1 S1 d1 (k r1 hr1))
theorem sd_drop {Re : Dt → Prop} (he : PM X e t Re) (k : R.nx t) (hs : swapsWith e none pos.line X.env = pure false := by rfl) : SD X (.Expr e pos) t R := fun N sg F H D S q =>
  use_s (ps_expr (pe_of X e) hs) (he N sg F H _ S fun v F1 H1 r1 S1 s1 d1 hr1 => q.nx sg F1 H1 t S1 k)
theorem sd_if {P : Bool → Prop} (hc : PMT X c t P) (h1 : P true → SDs X A t R) (h0 : P false → SDs X B t R) : SD X (.If c A B pos) t R := fun N sg F H D S q => by
  refine use_s (ps_if (pt_of X c) (pb_of X A) (pb_of X B)) (hc N sg F H _ S fun b F1 H1 S1 s1 hb => ?_)
  cases b with
  | true => rw [if_pos rfl]; exact h1 hb N sg F1 H1 D S1 q
  | false => rw [if_neg Bool.false_ne_true]; exact h0 hb N sg F1 H1 D S1 q
theorem sd_aug {x : Str} {p : Pos} {j z : Int} (i : Nat) (hN : X.N.Nodup) (hi : X.N[i]? = some x) (hx : Loc X.env.scope x) (ht : t[i]? = some (.v (.d (.int j)))) (he : PD X e t (.int z)) (k : R.nx (t.set i (.v (.d (.int (j + z)))))) (hf : X.fn x = true ∨ X.env.scope.names.lookup x = some .local := by first | exact .inl rfl | exact .inr rfl) : SD X (.AugAssign (.Name x p) .Add e pos) t R := fun N sg F H D S q => by
  refine use_s (ps_aug hN hi hx (pe_of X e) ip_add hf) ?_
  obtain ⟨v0, g1, y, rfl, g2⟩ := S.sl i _ ht
  cases g2
  refine ⟨_, g1, he N sg F H _ S fun v F1 H1 r1 S1 s1 d1 hr1 => ?_⟩
  subst hr1
  cases d1
  exact ⟨j, z, rfl, rfl, q.nx _ F1 H1 _ (S1.set (v := some (.int (j + z))) (s := .v (.d (.int (j + z)))) rfl ⟨_, rfl, Dq.int _⟩) k⟩
theorem sd_for {A : Type} {tg it : Expr} {body : List Stmt} {g : TG} {ds : List A} {enc : A → PyData} {bs : A → List (Nat × PyData)} (Pv : Nat → Ty → Prop) (hp : PassesOwn (model X.prog X.w) X.A X.env X.xe) (hc : X.calm = true) (hi : ItD X tg it t (ds.map enc)) (hg : PG X tg g) (ht : ∀ d ∈ ds, TgS g (enc d) (bs d)) (h0 : Pv 0 t)
    (hs : ∀ (i : Nat) d u, ds[i]? = some d → Pv i u → SDs X body (setsT u (bs d)) { R with nx := Pv (i + 1), ct := Pv (i + 1), bk := R.nx }) (hd : ∀ u, Pv ds.length u → R.nx u) (hf : ∀ x, foldedSetIterable it X.env x = pure x := by intro _; rfl) : SD X (.For tg it body [] pos) t R := fun N sg F H D S q => by
  obtain ⟨wi, hpi, hw⟩ := hi
  refine use_s (ps_for hp hc hpi hg (pb_of X body) hf) (hw N sg F H _ S fun J F1 H1 S1 s1 W => ?_)
  refine ⟨fun i m sg' H' => m = ds.length - i ∧ i ≤ ds.length ∧ ∃ F' u, StO N F' H' sg' u ∧ Same F1 F' ∧ Pv i u, ⟨_, rfl, Nat.zero_le _, F1, t, S1, Same.refl F1, h0⟩, ?_⟩
  rintro i m sg2 H2 ⟨rfl, hil, F2, u, S2, s2, p2⟩
  by_cases hlt : i < ds.length
  · refine .inr ⟨W.go i H2 (by rw [List.length_map]; exact hlt) (s2.trans S2.fh), fun sg' H' => i + 1 ≤ ds.length ∧ ∃ F' u', StO N F' H' sg' u' ∧ Same F1 F' ∧ Pv (i + 1) u', fun sg' H' p' => ⟨ds.length - (i + 1), by omega, rfl, p'.1, p'.2⟩, fun x H3 y => ?_⟩
    obtain ⟨F3, d0, g3, hd0, dq3⟩ := W.yld i H2 x H3 (by rw [List.length_map]; exact hlt) (s2.trans S2.fh) y F2 s2 S2.fh
    obtain ⟨d, hd3, ed3⟩ : ∃ d, ds[i]? = some d ∧ enc d = d0 := by
      rw [List.getElem?_map] at hd0
      cases q : ds[i]? with
      | none => rw [q] at hd0; cases hd0
      | some d => rw [q] at hd0; exact ⟨d, rfl, Option.some.inj hd0⟩
    subst ed3
    have S3 := S2.grow g3
    have s3 : Same F1 F3 := s2.trans g3.ff
    refine ht d (List.mem_of_getElem? hd3) F3 H3 x sg2 _ S3.fh dq3 fun qs hb => ?_
    have S4 := S3.sets hb
    have base := S4.base
    refine hs i d u hd3 p2 _ _ F3 H3 _ base ⟨fun sg5 F5 H5 t5 S5 n5 => ⟨hlt, F5, t5, S4.back S5, s3.trans S5.f0, n5⟩, fun v F5 H5 sg5 t5 r S5 dr hr => q.rt v F5 H5 sg5 t5 r (S4.back S5) dr hr, fun sg5 F5 H5 t5 S5 n5 => q.nx sg5 F5 H5 t5 (S4.back S5) n5, fun sg5 F5 H5 t5 S5 n5 => ⟨hlt, F5, t5, S4.back S5, s3.trans S5.f0, n5⟩⟩
  · have ei : i = ds.length := by omega
    subst ei
    exact .inl ⟨by have q := W.stop H2 (s2.trans S2.fh); rw [List.length_map] at q; exact q, q.nx sg2 F2 H2 u S2 (hd u p2)⟩
theorem sd_while {body : List Stmt} (Pv : Ty → Nat → Prop) (P : Ty → Bool → Prop) (hp : PassesOwn (model X.prog X.w) X.A X.env X.xe) {m : Nat} (h0 : Pv t m) (hc : ∀ u m, Pv u m → PMT X c u (P u)) (hs : ∀ u m, Pv u m → P u true → SDs X body u { R with nx := fun u' => ∃ m', m' < m ∧ Pv u' m', ct := fun u' => ∃ m', m' < m ∧ Pv u' m', bk := R.nx })
    (hd : ∀ u m, Pv u m → P u false → R.nx u) : SD X (.While c body [] pos) t R := fun N sg F H D S q => by
  refine use_s (ps_while hp (pt_of X c) (pb_of X body)) ?_
  refine ⟨fun m sg' H' => ∃ F' u, StO N F' H' sg' u ∧ Pv u m, ⟨m, F, t, S, h0⟩, ?_⟩
  rintro m sg2 H2 ⟨F2, u, S2, p2⟩
  refine hc u m p2 N sg2 F2 H2 _ S2 fun b F3 H3 S3 s3 hb => ?_
  cases b with
  | false => exact q.nx sg2 F3 H3 u S3 (hd u m p2 hb)
  | true =>
    refine ⟨fun sg' H' => ∃ m', m' < m ∧ ∃ F' u', StO N F' H' sg' u' ∧ Pv u' m', fun sg' H' z => z, ?_⟩
    exact hs u m p2 hb N sg2 F3 H3 _ S3 ⟨fun sg5 F5 H5 t5 S5 ⟨m', hm, n5⟩ => ⟨m', hm, F5, t5, S5, n5⟩, q.rt, q.nx, fun sg5 F5 H5 t5 S5 ⟨m', hm, n5⟩ => ⟨m', hm, F5, t5, S5, n5⟩⟩
end
/-! ### a pure def keeps its promise -/
def startT (N : List Str) (rs : List Dt) : Ty := rs.map Sl.v ++ List.replicate (N.length - rs.length) Sl.no
theorem no_ows : ∀ {t : Ty}, (∀ s ∈ t, s.ad = none) → ows t = []
  | [], _ => rfl
  | x :: t, h => by
    show List.filterMap Sl.ad (x :: t) = []
    rw [List.filterMap_cons, h x List.mem_cons_self]
    exact no_ows fun s hs => h s (List.mem_cons_of_mem _ hs)
theorem start_get {N : List Str} {vs : List V} {rs : List Dt} {F : Hp} (h : DtA F vs rs) (hN : rs.length ≤ N.length) : ∀ (i : Nat) s, (startT N rs)[i]? = some s → ∃ v, (L2.start N vs)[i]? = some v ∧ ∀ H, SlK F H v s := by
  intro i s hi
  have hl := h.len
  unfold startT at hi
  unfold L2.start
  by_cases q : i < rs.length
  · rw [List.getElem?_append_left (by simpa using q), List.getElem?_map] at hi
    rw [List.getElem?_append_left (by rw [List.length_map, hl]; exact q), List.getElem?_map]
    cases e : rs[i]? with
    | none => rw [e] at hi; cases hi
    | some r =>
      rw [e] at hi
      have hs : s = .v r := (Option.some.inj hi).symm
      subst hs
      have gg : ∀ {vs : List V} {rs : List Dt} {i : Nat}, DtA F vs rs → rs[i]? = some r → ∃ v, vs[i]? = some v ∧ DtR F v r := by
        intro vs rs i h
        induction h generalizing i with
        | nil => intro e; simp at e
        | cons h1 h2 ih =>
          intro e
          cases i with
          | zero => simp at e; subst e; exact ⟨_, rfl, h1⟩
          | succ i => obtain ⟨v, h3, h4⟩ := ih (by simpa using e); exact ⟨v, by simpa using h3, h4⟩
      obtain ⟨v, hv, dv⟩ := gg h e
      rw [hv]
      exact ⟨some v, rfl, fun H => ⟨v, rfl, dv⟩⟩
  · have q' : rs.length ≤ i := by omega
    rw [List.getElem?_append_right (by simpa using q'), List.getElem?_replicate] at hi
    rw [List.getElem?_append_right (by rw [List.length_map, hl]; exact q'), List.getElem?_replicate]
    split at hi
    · rename_i z
      have hs : s = .no := (Option.some.inj hi).symm
      subst hs
      refine ⟨none, ?_, fun H => trivial⟩
      rw [if_pos (by rw [List.length_map] at z ⊢; rw [hl]; exact z)]
    · cases hi
theorem start_sto {N : List Str} {vs : List V} {rs : List Dt} {F H : Hp} (fh : Same F H) (h : DtA F vs rs) (hN : rs.length ≤ N.length) : StO ⟨F, H, fun _ => False⟩ F H (L2.start N vs) (startT N rs) := by
  have hl := h.len
  have no : ows (startT N rs) = [] := no_ows fun s hs => by
    unfold startT at hs
    rcases List.mem_append.mp hs with q | q
    · obtain ⟨r, _, e⟩ := List.mem_map.mp q
      subst e
      rfl
    · rw [(List.mem_replicate.mp q).2]; rfl
  refine ⟨?_, fh, Same.refl F, fun a _ z => z, fun a o z _ => z, fun a z => z, fun i s hi => ?_, fun a ha => (by rw [no] at ha; cases ha), (by rw [no]; exact List.nodup_nil)⟩
  · unfold startT L2.start
    rw [List.length_append, List.length_append, List.length_map, List.length_map, List.length_replicate, List.length_replicate, hl]
  · obtain ⟨v, hv, q⟩ := start_get h hN i s hi
    exact ⟨v, hv, q H⟩
theorem StO.gr {F H F' H' : Hp} {sg : St} {t : Ty} (S : StO ⟨F, H, fun _ => False⟩ F' H' sg t) : Gr F H F' H' := ⟨S.f0, S.fh, fun a o h => S.un a o h fun z => z, S.nf⟩
abbrev finP (r : Dt) : Po := ⟨fun _ => r = .d .none, fun r' _ => r' = r, fun _ => False, fun _ => False⟩
theorem fn_pure {P : Program} {w : World} {K : PySem.W.Frag} {mg : Str → Option Value} {base : Heap} {x qual : Str} {st : Stmt} {f : Addr} {fd : FuncData} {N ps : List Str} {k n : Nat} {Phi : List Dt → Dt → Prop} (F : Fun K x qual st f fd) (S : FnScope N ps (defScope st)) (hn : ps.length = n)
    (body : ∀ (cdv : Value) (A : Around) (outer : List Env) (s : Shared) (H : Hp) (E : XK), Room k (A.deeper (envOfC qual (defScope st) s.heap.objs.size f cdv)) → ∀ rs r, rs.length = n → Phi rs r →
      SDs (cxOf CX0 P w K mg base N qual (defScope st) f cdv A outer s H E).nox (defBody st) (startT N rs) (finP r)) : FnOk P w K mg base CX0 (k + 1) f fd ps (spP n Phi) := by
  refine F.ok S (fun vs H Q E h => by rw [hn]; exact h.1) fun cdv A outer s H vs Q E hr h => ?_
  obtain ⟨hl, F0, rs, r, fh, da, ph, q⟩ := h
  have hN : rs.length ≤ N.length := by
    have e1 := congrArg List.length S.pre
    rw [List.length_take] at e1
    have e2 := da.len
    omega
  refine ⟨tbOf _ _, pb_of _ _, body cdv A outer s H E hr rs r (by rw [← da.len]; exact hl) ph ⟨F0, H, fun _ => False⟩ _ F0 H _ (start_sto fh da hN) ⟨fun sg F1 H1 t S1 e => ?_, fun v F1 H1 sg t r' S1 dv e => ?_, fun _ _ _ _ _ z => z.elim, fun _ _ _ _ _ z => z.elim⟩⟩
  · exact q .non F1 H1 S1.gr (by rw [e]; exact Dq.non)
  · subst e
    exact q v F1 H1 S1.gr dv
end Fw

-- part FwComp
set_option Elab.async false
set_option maxRecDepth 100000
set_option maxHeartbeats 4000000
set_option linter.all false
namespace Fw
open PySem PySem.Spec PyProof.Rows L2
/-! ### comprehensions -/
theorem wipe_get (sg : St) : ∀ (ws : List Nat) (j : Nat), (wipe sg ws)[j]? = if j ∈ ws ∧ j < sg.length then some none else sg[j]?
  | [], j => by rw [if_neg (by simp)]; rfl
  | v :: ws, j => by
    have ih := wipe_get sg ws j
    have hl := wipe_length sg ws
    show ((wipe sg ws).set v none)[j]? = _
    by_cases e : v = j
    · subst e
      by_cases hj : v < sg.length
      · rw [List.getElem?_set_self (by rw [hl]; exact hj), if_pos ⟨List.mem_cons_self, hj⟩]
      · rw [List.getElem?_eq_none (by rw [List.length_set, hl]; omega), if_neg (fun z => hj z.2), List.getElem?_eq_none (by omega)]
    · rw [List.getElem?_set_ne e, ih]
      have iff : (j ∈ v :: ws ∧ j < sg.length) ↔ (j ∈ ws ∧ j < sg.length) := by
        constructor
        · rintro ⟨h1, h2⟩
          rcases List.mem_cons.mp h1 with q | q
          · exact absurd q.symm e
          · exact ⟨q, h2⟩
        · rintro ⟨h1, h2⟩; exact ⟨List.mem_cons_of_mem _ h1, h2⟩
      by_cases q : j ∈ ws ∧ j < sg.length
      · rw [if_pos q, if_pos (iff.mpr q)]
      · rw [if_neg q, if_neg (fun z => q (iff.mp z))]
theorem wipe_set {sg : St} {ws : List Nat} {i : Nat} {x : Option V} (h : i ∈ ws) : wipe (sg.set i x) ws = wipe sg ws := by
  apply List.ext_getElem?
  intro j
  rw [wipe_get, wipe_get, List.length_set]
  by_cases q : j ∈ ws ∧ j < sg.length
  · rw [if_pos q, if_pos q]
  · rw [if_neg q, if_neg q]
    by_cases e : i = j
    · subst e
      have hl : ¬ i < sg.length := fun z => q ⟨h, z⟩
      rw [List.getElem?_eq_none (by rw [List.length_set]; omega), List.getElem?_eq_none (by omega)]
    · rw [List.getElem?_set_ne e]
theorem wipe_wipe (sg : St) (ws : List Nat) : wipe (wipe sg ws) ws = wipe sg ws := by
  apply List.ext_getElem?
  intro j
  rw [wipe_get, wipe_get, wipe_length]
  by_cases q : j ∈ ws ∧ j < sg.length
  · rw [if_pos q, if_pos q]
  · rw [if_neg q]
theorem wipe_sets {ws : List Nat} : ∀ (qs : List (Nat × V)) (sg : St), (∀ q ∈ qs, q.1 ∈ ws) → wipe (setsV sg qs) ws = wipe sg ws
  | [], sg, _ => rfl
  | q :: qs, sg, h => by
    show wipe (setsV (sg.set q.1 (some q.2)) qs) ws = _
    rw [wipe_sets qs _ fun p hp => h p (List.mem_cons_of_mem _ hp), wipe_set (h q List.mem_cons_self)]
theorem StO.wipe {N : En} {F H : Hp} {sg : St} {t : Ty} (S : StO N F H sg t) {ws : List Nat} (h : ∀ j ∈ ws, t[j]? = some .no) : StO N F H (L2.wipe sg ws) t :=
  ⟨by rw [wipe_length]; exact S.ln, S.fh, S.f0, S.nf, S.un, S.th, fun i s hi => by
    by_cases q : i ∈ ws ∧ i < sg.length
    · rw [h i q.1] at hi
      cases hi
      exact ⟨none, by rw [wipe_get, if_pos q], trivial⟩
    · obtain ⟨v, h1, h2⟩ := S.sl i s hi
      exact ⟨v, by rw [wipe_get, if_neg q]; exact h1, h2⟩, S.ow, S.ap⟩
theorem StO.unwipe {N : En} {F H : Hp} {sg : St} {t : Ty} {ws : List Nat} (S : StO N F H (L2.wipe sg ws) t) (h : ∀ j ∈ ws, t[j]? = some .no) : StO N F H sg t :=
  ⟨by have := S.ln; rw [wipe_length] at this; exact this, S.fh, S.f0, S.nf, S.un, S.th, fun i s hi => by
    obtain ⟨v, h1, h2⟩ := S.sl i s hi
    by_cases q : i ∈ ws ∧ i < sg.length
    · rw [h i q.1] at hi
      cases hi
      exact ⟨sg[i]'q.2, List.getElem?_eq_getElem q.2, trivial⟩
    · rw [wipe_get, if_neg q] at h1
      exact ⟨v, h1, h2⟩, S.ow, S.ap⟩
theorem StO.updAt {N : En} {F H : Hp} {sg : St} {t : Ty} (S : StO N F H sg t) {D : Addr} {o : HO} (hn : N.H D = none) (hf : F D = none) (hd : D ∉ ows t) : StO N F (upd H D o) sg t := by
  have ne : ∀ a o', F a = some o' → a ≠ D := fun a o' e z => by rw [z, hf] at e; cases e
  refine ⟨S.ln, fun a o' e => by rw [upd_ne (ne a o' e)]; exact S.fh a o' e, S.f0, S.nf, fun a o' h1 h2 => ?_, fun a h => ?_, fun i s hi => ?_, S.ow, S.ap⟩
  · have z : a ≠ D := fun z => by rw [z, hn] at h1; cases h1
    rw [upd_ne z]
    exact S.un a o' h1 h2
  · by_cases z : a = D
    · rw [z, upd_same]; intro q; cases q
    · rw [upd_ne z]; exact S.th a h
  · obtain ⟨v, h1, h2⟩ := S.sl i s hi
    refine ⟨v, h1, ?_⟩
    have na : ∀ a, s.ad = some a → a ≠ D := fun a ha z => hd (z ▸ ows_mem hi ha)
    cases s with
    | no => trivial
    | v r => exact h2
    | lst a xs => obtain ⟨g1, g2, vs, g3, g4⟩ := h2; exact ⟨g1, g2, vs, by rw [upd_ne (na a rfl)]; exact g3, g4⟩
    | dct a xs => obtain ⟨g1, g2, vs, g3, g4⟩ := h2; exact ⟨g1, g2, vs, by rw [upd_ne (na a rfl)]; exact g3, g4⟩
    | hand a => obtain ⟨g1, g2, vs, hs, g3, g4⟩ := h2; exact ⟨g1, g2, vs, hs, by rw [upd_ne (na a rfl)]; exact g3, g4⟩
    | rf a => exact h2
    | ins a C dx fs => obtain ⟨g1, g2, vs, g3, g4⟩ := h2; exact ⟨g1, g2, vs, by rw [upd_ne (na a rfl)]; exact g3, g4⟩
    | obj a C dx vs => obtain ⟨g1, g2, g3⟩ := h2; exact ⟨g1, g2, by rw [upd_ne (na a rfl)]; exact g3⟩
    | gd a ks => obtain ⟨g2, vs, g3, g4⟩ := h2; exact ⟨g2, vs, by rw [upd_ne (na a rfl)]; exact g3, g4⟩
    | xt a S ks => obtain ⟨g1, g2, o, vs, g3, g4, g5⟩ := h2; exact ⟨g1, g2, o, vs, by rw [upd_ne (na a rfl)]; exact g3, g4, g5⟩
theorem StO.frz {N : En} {F H : Hp} {sg : St} {t : Ty} (S : StO N F H sg t) {D : Addr} {o : HO} (hn : N.H D = none) (hf : F D = none) (hd : D ∉ ows t) (ho : H D = some o) : StO N (upd F D o) H sg t := by
  have sf : Same F (upd F D o) := same_new hf
  refine ⟨S.ln, fun a o' e => ?_, S.f0.trans sf, fun a h1 h2 => ?_, S.un, S.th, fun i s hi => ?_, S.ow, S.ap⟩
  · by_cases z : a = D
    · subst z; rw [upd_same] at e; rw [ho]; exact e
    · rw [upd_ne z] at e; exact S.fh a o' e
  · have z : a ≠ D := fun z => h1 (by rw [z]; exact hn)
    rw [upd_ne z]
    exact S.nf a h1 h2
  · obtain ⟨v, h1, h2⟩ := S.sl i s hi
    refine ⟨v, h1, ?_⟩
    have na : ∀ a, s.ad = some a → a ≠ D := fun a ha z => hd (z ▸ ows_mem hi ha)
    cases s with
    | no => trivial
    | v r => obtain ⟨x, g1, g2⟩ := h2; exact ⟨x, g1, g2.up sf⟩
    | lst a xs => obtain ⟨g1, g2, vs, g3, g4⟩ := h2; exact ⟨g1, by rw [upd_ne (na a rfl)]; exact g2, vs, g3, g4.up sf⟩
    | dct a xs => obtain ⟨g1, g2, vs, g3, g4⟩ := h2; exact ⟨g1, by rw [upd_ne (na a rfl)]; exact g2, vs, g3, g4.up sf⟩
    | hand a => obtain ⟨g1, g2, vs, hs, g3, g4, g5⟩ := h2; exact ⟨g1, by rw [upd_ne (na a rfl)]; exact g2, vs, hs, g3, g4.up sf, g5⟩
    | rf a => exact h2
    | ins a C dx fs => obtain ⟨g1, g2, vs, g3, g4⟩ := h2; exact ⟨g1, by rw [upd_ne (na a rfl)]; exact g2, vs, g3, g4.up sf⟩
    | obj a C dx vs => obtain ⟨g1, g2, g3⟩ := h2; exact ⟨g1, by rw [upd_ne (na a rfl)]; exact g2, g3⟩
    | gd a ks => obtain ⟨g2, vs, g3, g4⟩ := h2; exact ⟨by rw [upd_ne (na a rfl)]; exact g2, vs, g3, g4.up sf⟩
    | xt a S ks => obtain ⟨g1, g2, o, vs, g3, g4, g5⟩ := h2; exact ⟨g1, by rw [upd_ne (na a rfl)]; exact g2, o, vs, g3, g4, g5.up sf⟩
abbrev PdR {A : Type} (E : A → PyData → Prop) := @Paired A PyData E
theorem Pd.snoc {α β : Type} {G : α → β → Prop} {xs : List α} {ys : List β} {x : α} {y : β} (h : Paired G xs ys) (k : G x y) : Paired G (xs ++ [x]) (ys ++ [y]) := Pd.app h (.cons k .nil)
theorem Pd.len {α β : Type} {G : α → β → Prop} : ∀ {xs : List α} {ys : List β}, Paired G xs ys → xs.length = ys.length
  | _, _, .nil => rfl
  | _, _, .cons _ h => by rw [List.length_cons, List.length_cons, Pd.len h]
theorem take_succ {α : Type} {ds : List α} {i : Nat} {d : α} (h : ds[i]? = some d) : ds.take (i + 1) = ds.take i ++ [d] := by
  rw [List.take_add_one, h]; rfl
/-- what a comprehension's reading gives -/
theorem lc_read {A : Type} {t : Ty} {ds : List A} {enc : A → PyData} {wi : TI} {g : TG} {tt : TT} {te : TE} {ws : List Nat} {bs : A → List (Nat × PyData)} {c : A → Bool} {E : A → PyData → Prop}
    (hw : ∀ (N : En) (sg : St) (F H : Hp) (R : It → Hp → Prop), StO N F H sg t → (∀ J F1 H1, StO N F1 H1 sg t → Same F F1 → WkD J F1 (ds.map enc) → R J H1) → wi sg H R)
    (ht : ∀ d ∈ ds, TgS g (enc d) (bs d)) (hb : ∀ d ∈ ds, ∀ p ∈ bs d, p.1 ∈ ws) (hno : ∀ j ∈ ws, t[j]? = some .no)
    (htt : ∀ d ∈ ds, ∀ (N : En) (sg : St) (F H : Hp) (Q : Bool → Hp → Prop), StO N F H sg (setsT t (bs d)) → (∀ b F' H', StO N F' H' sg (setsT t (bs d)) → Same F F' → b = c d → Q b H') → tt sg H Q)
    (hte : ∀ d ∈ ds, c d = true → ∀ (N : En) (sg : St) (F H : Hp) (Q : VK), StO N F H sg (setsT t (bs d)) → (∀ v F' H' r, StO N F' H' sg (setsT t (bs d)) → Same F F' → DtR F' v r → (∃ x, r = .d x ∧ E d x) → Q v H') → te sg H Q)
    (hz : ds.length < sizeLine) {N : En} {sg : St} {F H : Hp} {Q : VK} (S : StO N F H sg t)
    (k : ∀ v F' H' xs, StO N F' H' sg t → Same F F' → Dq F' v (.list xs) → PdR E (ds.filter c) xs → Q v H') : tLc wi g tt te ws sg H Q := by
  refine hw N sg F H _ S fun J F1 H1 S1 s1 W D hD => ?_
  have nD : N.H D = none := by
    cases e : N.H D with
    | none => rfl
    | some o => exact absurd hD (S1.th D (by rw [e]; intro z; cases z))
  have oD : D ∉ ows t := fun z => by
    obtain ⟨s, hs, es⟩ := List.mem_filterMap.mp z
    obtain ⟨i, hi⟩ := List.getElem?_of_mem hs
    obtain ⟨v, _, q⟩ := S1.sl i s hi
    cases s with
    | no => cases es
    | v r => cases es
    | lst a xs => cases es; obtain ⟨_, _, vs, g3, _⟩ := q; rw [hD] at g3; cases g3
    | dct a xs => cases es; obtain ⟨_, _, vs, g3, _⟩ := q; rw [hD] at g3; cases g3
    | hand a => cases es; obtain ⟨_, _, vs, hs, g3, _⟩ := q; rw [hD] at g3; cases g3
    | rf a => cases es
    | ins a C dx fs => cases es; obtain ⟨_, _, vs, g3, _⟩ := q; rw [hD] at g3; cases g3
    | obj a C dx vs => cases es; obtain ⟨_, _, g3⟩ := q; rw [hD] at g3; cases g3
    | gd a ks => cases es; obtain ⟨_, vs, g3, _⟩ := q; rw [hD] at g3; cases g3
    | xt a S ks => cases es; obtain ⟨_, _, o, vs, g3, _⟩ := q; rw [hD] at g3; cases g3
  have fD : F1 D = none := S1.fh.free hD
  refine ⟨fun i m H' => m = ds.length - i ∧ i ≤ ds.length ∧ ∃ F2 acc xs, StO N F2 H' sg t ∧ Same F1 F2 ∧ F2 D = none ∧ H' D = some (.lst acc) ∧ DqA F2 acc xs ∧ PdR E ((ds.take i).filter c) xs,
    ⟨_, rfl, Nat.zero_le _, F1, [], [], S1.updAt nD fD oD, Same.refl F1, fD, upd_same, .nil, .nil⟩, ?_⟩
  rintro i m H2 ⟨rfl, hil, F2, acc, xs, S2, s2, f2, h2, d2, p2⟩
  by_cases hlt : i < ds.length
  · refine .inr ⟨W.go i H2 (by rw [List.length_map]; exact hlt) (s2.trans S2.fh), fun H' => i + 1 ≤ ds.length ∧ ∃ F' acc' xs', StO N F' H' sg t ∧ Same F1 F' ∧ F' D = none ∧ H' D = some (.lst acc') ∧ DqA F' acc' xs' ∧ PdR E ((ds.take (i + 1)).filter c) xs', fun H' p' => ⟨ds.length - (i + 1), by omega, rfl, p'.1, p'.2⟩, fun x H3 y => ?_⟩
    obtain ⟨F3, d0, g3, hd0, dq3⟩ := W.yld i H2 x H3 (by rw [List.length_map]; exact hlt) (s2.trans S2.fh) y F2 s2 S2.fh
    obtain ⟨d, hd3, ed3⟩ : ∃ d, ds[i]? = some d ∧ enc d = d0 := by
      rw [List.getElem?_map] at hd0
      cases q : ds[i]? with
      | none => rw [q] at hd0; cases hd0
      | some d => rw [q] at hd0; exact ⟨d, rfl, Option.some.inj hd0⟩
    subst ed3
    have hm := List.mem_of_getElem? hd3
    have S3 := S2.grow g3
    have f3 : F3 D = none := g3.nf D (by rw [h2]; intro z; cases z) f2
    have h3 : H3 D = some (.lst acc) := g3.hh _ _ h2
    have S3w := S3.wipe hno
    refine ht d hm F3 H3 x _ _ S3w.fh dq3 fun qs hq => ?_
    have hqs : ∀ q ∈ qs, q.1 ∈ ws := by
      intro q hq'
      have gg : ∀ {qs : List (Nat × V)} {ps : List (Nat × PyData)}, Bnd F3 qs ps → ∀ q ∈ qs, ∃ p ∈ ps, q.1 = p.1 := by
        intro qs ps h
        induction h with
        | nil => intro q hq; cases hq
        | cons h1 h2 ih =>
          intro q hq
          rcases List.mem_cons.mp hq with e | e
          · subst e; exact ⟨_, List.mem_cons_self, h1.1⟩
          · obtain ⟨p, hp, e2⟩ := ih q e; exact ⟨p, List.mem_cons_of_mem _ hp, e2⟩
      obtain ⟨p, hp, e⟩ := gg hq q hq'
      rw [e]
      exact hb d hm p hp
    refine ⟨by rw [wipe_sets qs _ hqs, wipe_wipe], ?_⟩
    have S4 := S3w.sets hq
    have B4 := S4.base
    -- back from a state within the turn
    have fin : ∀ {F' H' : Hp}, StO (here F3 H3 (setsT t (bs d))) F' H' (setsV (L2.wipe sg ws) qs) (setsT t (bs d)) → D ∉ ows (setsT t (bs d)) → StO N F' H' sg t ∧ Same F3 F' ∧ F' D = none ∧ H' D = some (.lst acc) := fun {F' H'} S5 oo => by
      have a1 : H' D = some (.lst acc) := S5.un D _ h3 oo
      have a2 : F' D = none := S5.nf D (by show H3 D ≠ none; rw [h3]; intro z; cases z) f3
      have S6 := S4.back S5
      refine ⟨StO.unwipe (ws := ws) ⟨by rw [wipe_length]; exact S.ln, S6.fh, S6.f0, S6.nf, S6.un, S6.th, fun j s hj => ?_, S.ow, S.ap⟩ hno, S5.f0, a2, a1⟩
      -- the slots that are not the block's own
      have other : ∀ (ps : List (Nat × PyData)) (u : Ty), j ∉ ps.map (·.1) → (setsT u ps)[j]? = u[j]? := by
        intro ps
        induction ps with
        | nil => intro u _; rfl
        | cons p ps ih =>
          intro u hn
          have h1 : p.1 ≠ j := fun z => hn (by rw [List.map_cons]; exact List.mem_cons.mpr (.inl z.symm))
          show (setsT (u.set p.1 (.v (.d p.2))) ps)[j]? = _
          rw [ih _ (fun z => hn (by rw [List.map_cons]; exact List.mem_cons_of_mem _ z)), List.getElem?_set_ne h1]
      have otherV : ∀ (ps : List (Nat × V)) (u : St), j ∉ ps.map (·.1) → (setsV u ps)[j]? = u[j]? := by
        intro ps
        induction ps with
        | nil => intro u _; rfl
        | cons p ps ih =>
          intro u hn
          have h1 : p.1 ≠ j := fun z => hn (by rw [List.map_cons]; exact List.mem_cons.mpr (.inl z.symm))
          show (setsV (u.set p.1 (some p.2)) ps)[j]? = _
          rw [ih _ (fun z => hn (by rw [List.map_cons]; exact List.mem_cons_of_mem _ z)), List.getElem?_set_ne h1]
      by_cases hj' : j ∈ ws
      · rw [hno j hj'] at hj
        cases hj
        have hl : j < (L2.wipe sg ws).length := by
          rw [wipe_length, S.ln]
          exact (List.getElem?_eq_some_iff.mp (hno j hj')).1
        exact ⟨(L2.wipe sg ws)[j]'hl, List.getElem?_eq_getElem hl, trivial⟩
      · have n1 : j ∉ (bs d).map (·.1) := fun z => by
          obtain ⟨p, hp, e⟩ := List.mem_map.mp z
          exact hj' (e ▸ hb d hm p hp)
        have n2 : j ∉ qs.map (·.1) := fun z => by
          obtain ⟨p, hp, e⟩ := List.mem_map.mp z
          exact hj' (e ▸ hqs p hp)
        obtain ⟨v, g1, g2⟩ := S6.sl j s (by rw [other _ _ n1]; exact hj)
        rw [otherV _ _ n2] at g1
        exact ⟨v, g1, g2⟩
    have oo : D ∉ ows (setsT t (bs d)) := by
      have sub : ∀ (ps : List (Nat × PyData)) (u : Ty), D ∉ ows u → D ∉ ows (setsT u ps) := by
        intro ps
        induction ps with
        | nil => intro u h; exact h
        | cons p ps ih => intro u h; exact ih _ fun z => h (ows_set_sub rfl z)
      exact sub _ _ oD
    refine htt d hm _ _ F3 H3 _ B4 fun b F5 H5 S5 s5 hb5 => ?_
    subst hb5
    cases hcd : c d with
    | false =>
      rw [if_neg Bool.false_ne_true]
      obtain ⟨q1, q2, q3, q4⟩ := fin S5 oo
      refine ⟨hlt, F5, acc, xs, q1, (s2.trans g3.ff).trans q2, q3, q4, d2.up (g3.ff.trans q2), ?_⟩
      rw [take_succ hd3, List.filter_append, show List.filter c [d] = [] from by simp [hcd], List.append_nil]
      exact p2
    | true =>
      rw [if_pos rfl]
      refine hte d hm hcd _ _ F5 H5 _ S5 fun v F6 H6 r S6 s6 dr ⟨x6, er, e6⟩ => ?_
      subst er
      obtain ⟨q1, q2, q3, q4⟩ := fin S6 oo
      refine ⟨acc, q4, ?_, hlt, F6, acc ++ [v], xs ++ [x6], q1.updAt nD q3 oD, (s2.trans g3.ff).trans q2, q3, upd_same, (d2.up (g3.ff.trans q2)).app (.cons dr .nil), ?_⟩
      · have e1 := d2.len
        have e2 := Pd.len p2
        have e3 := List.length_filter_le c (ds.take i)
        have e4 : (ds.take i).length ≤ ds.length := by rw [List.length_take]; omega
        omega
      · rw [take_succ hd3, List.filter_append, show List.filter c [d] = [d] from by simp [hcd]]
        exact Pd.snoc p2 e6
  · have ei : i = ds.length := by omega
    subst ei
    refine .inl ⟨by have q := W.stop H2 (s2.trans S2.fh); rw [List.length_map] at q; exact q, ?_⟩
    rw [List.take_length] at p2
    exact k (.ref D) (upd F2 D (.lst acc)) H2 xs (S2.frz nD f2 oD h2) ((s1.trans s2).trans (same_new f2)) (.lst upd_same (d2.up (same_new f2))) p2
/-- readings that serve in every block of the comprehension -/
def teB (X : Cx) (scope : Scope) (e : Expr) : TE := fun sg H Q => ∀ (s : Shared) (H0 : Hp) (C : Addr) (cl : List (Str × Addr)) (fp : List Addr), teOf (X.blk s H0 scope (compEnvC scope cl C X.env) fp) e sg H Q
def ttB (X : Cx) (scope : Scope) (e : Expr) : TT := fun sg H Q => ∀ (s : Shared) (H0 : Hp) (C : Addr) (cl : List (Str × Addr)) (fp : List Addr), ttOf (X.blk s H0 scope (compEnvC scope cl C X.env) fp) e sg H Q
def PMB (X : Cx) (scope : Scope) (e : Expr) (t : Ty) (R : Dt → Prop) : Prop := ∀ (s : Shared) (H0 : Hp) (C : Addr) (cl : List (Str × Addr)) (fp : List Addr), PM (X.blk s H0 scope (compEnvC scope cl C X.env) fp) e t R
def PMTB (X : Cx) (scope : Scope) (e : Expr) (t : Ty) (R : Bool → Prop) : Prop := ∀ (s : Shared) (H0 : Hp) (C : Addr) (cl : List (Str × Addr)) (fp : List Addr), PMT (X.blk s H0 scope (compEnvC scope cl C X.env) fp) e t R
def PGB (X : Cx) (scope : Scope) (tg : Expr) (g : TG) : Prop := ∀ (s : Shared) (H0 : Hp) (C : Addr) (cl : List (Str × Addr)) (fp : List Addr), PG (X.blk s H0 scope (compEnvC scope cl C X.env) fp) tg g
theorem Pd.map {A : Type} {f : A → PyData} : ∀ {xs : List A} {ys : List PyData}, PdR (fun d x => x = f d) xs ys → ys = xs.map f
  | _, _, .nil => rfl
  | _, _, .cons h t => by rw [List.map_cons, ← h, ← Pd.map t]
theorem filter_true {α : Type} : ∀ (xs : List α), xs.filter (fun _ => true) = xs
  | [] => rfl
  | x :: xs => by rw [List.filter_cons, if_pos rfl, filter_true xs]
section
variable {A : Type} {X : Cx} {elt tg it cnd : Expr} {scope : Scope} {own : List (Str × Nat)} {pos : Pos} {t : Ty} {ds : List A} {enc : A → PyData} {g : TG} {bs : A → List (Nat × PyData)} {c : A → Bool} {E : A → PyData → Prop} {R : Dt → Prop}
/-- [elt for tg in it] -/
theorem pm_lc0 (hc : X.calm = true) (hN : X.N.Nodup) (hi : ItD X tg it t (ds.map enc)) (ok : BlkOk X.N X.env.scope scope own) (hg : PGB X scope tg g) (ht : ∀ d ∈ ds, TgS g (enc d) (bs d)) (hb : ∀ d ∈ ds, ∀ p ∈ bs d, p.1 ∈ own.map (·.2)) (hno : ∀ j ∈ own.map (·.2), t[j]? = some .no)
    (he : ∀ d ∈ ds, PMB X scope elt (setsT t (bs d)) (fun r => ∃ x, r = .d x ∧ E d x)) (hz : ds.length < sizeLine) (k : ∀ xs, PdR E ds xs → R (.d (.list xs))) (hs : ∀ x, foldedSetIterable it X.env x = pure x := by intro _; rfl) : PM X (.ListComp elt [⟨tg, it, [], 0⟩] scope pos) t R := fun N sg F H Q S q => by
  obtain ⟨wi, hpi, hw⟩ := hi
  refine use_e (pe_lc (tt := tYes) (te := teB X scope elt) hc hN hpi ok hg (fun _ _ _ _ _ => pts_nil) (fun s H0 C cl fp => ⟨fun pins s' sg H Q I h => (by first | exact te_at (h s H0 C cl fp) pins s' I | exact tt_at (h s H0 C cl fp) pins s' I)⟩) hs) ?_
  refine lc_read (c := fun _ => true) (E := E) hw ht hb hno (fun d hd N sg F H Q S q => q true F H S (Same.refl F) rfl) (fun d hd _ N sg F H Q S q s H0 C cl fp => he d hd s H0 C cl fp N sg F H Q S q) hz S fun v F' H' xs S' s' dv px => ?_
  rw [filter_true] at px
  exact q v F' H' (.d (.list xs)) S' s' dv (k xs px)
theorem pd_lc0 {f : A → PyData} (hc : X.calm = true) (hN : X.N.Nodup) (hi : ItD X tg it t (ds.map enc)) (ok : BlkOk X.N X.env.scope scope own) (hg : PGB X scope tg g) (ht : ∀ d ∈ ds, TgS g (enc d) (bs d)) (hb : ∀ d ∈ ds, ∀ p ∈ bs d, p.1 ∈ own.map (·.2)) (hno : ∀ j ∈ own.map (·.2), t[j]? = some .no)
    (he : ∀ d ∈ ds, PMB X scope elt (setsT t (bs d)) (fun r => r = .d (f d))) (hz : ds.length < sizeLine) (hs : ∀ x, foldedSetIterable it X.env x = pure x := by intro _; rfl) : PD X (.ListComp elt [⟨tg, it, [], 0⟩] scope pos) t (.list (ds.map f)) :=
  pm_lc0 (E := fun d x => x = f d) hc hN hi ok hg ht hb hno (fun d hd s H0 C cl fp => (he d hd s H0 C cl fp).mono fun r hr => ⟨_, hr, rfl⟩) hz (fun xs h => by rw [Pd.map h]) hs
/-- [elt for tg in it if cnd] -/
theorem pm_lc1 (hc : X.calm = true) (hN : X.N.Nodup) (hi : ItD X tg it t (ds.map enc)) (ok : BlkOk X.N X.env.scope scope own) (hg : PGB X scope tg g) (ht : ∀ d ∈ ds, TgS g (enc d) (bs d)) (hb : ∀ d ∈ ds, ∀ p ∈ bs d, p.1 ∈ own.map (·.2)) (hno : ∀ j ∈ own.map (·.2), t[j]? = some .no)
    (hcn : ∀ d ∈ ds, PMTB X scope cnd (setsT t (bs d)) (fun b => b = c d)) (he : ∀ d ∈ ds, c d = true → PMB X scope elt (setsT t (bs d)) (fun r => ∃ x, r = .d x ∧ E d x)) (hz : ds.length < sizeLine) (k : ∀ xs, PdR E (ds.filter c) xs → R (.d (.list xs))) (hs : ∀ x, foldedSetIterable it X.env x = pure x := by intro _; rfl) : PM X (.ListComp elt [⟨tg, it, [cnd], 0⟩] scope pos) t R := fun N sg F H Q S q => by
  obtain ⟨wi, hpi, hw⟩ := hi
  refine use_e (pe_lc (tt := ttB X scope cnd) (te := teB X scope elt) hc hN hpi ok hg (fun s H0 C cl fp => pts_one ⟨fun pins s' sg H Q I h => (by first | exact te_at (h s H0 C cl fp) pins s' I | exact tt_at (h s H0 C cl fp) pins s' I)⟩) (fun s H0 C cl fp => ⟨fun pins s' sg H Q I h => (by first | exact te_at (h s H0 C cl fp) pins s' I | exact tt_at (h s H0 C cl fp) pins s' I)⟩) hs) ?_
  refine lc_read (c := c) (E := E) hw ht hb hno (fun d hd N sg F H Q S q s H0 C cl fp => hcn d hd s H0 C cl fp N sg F H Q S q) (fun d hd hcd N sg F H Q S q s H0 C cl fp => he d hd hcd s H0 C cl fp N sg F H Q S q) hz S fun v F' H' xs S' s' dv px => ?_
  exact q v F' H' (.d (.list xs)) S' s' dv (k xs px)
theorem pd_lc1 {f : A → PyData} (hc : X.calm = true) (hN : X.N.Nodup) (hi : ItD X tg it t (ds.map enc)) (ok : BlkOk X.N X.env.scope scope own) (hg : PGB X scope tg g) (ht : ∀ d ∈ ds, TgS g (enc d) (bs d)) (hb : ∀ d ∈ ds, ∀ p ∈ bs d, p.1 ∈ own.map (·.2)) (hno : ∀ j ∈ own.map (·.2), t[j]? = some .no)
    (hcn : ∀ d ∈ ds, PMTB X scope cnd (setsT t (bs d)) (fun b => b = c d)) (he : ∀ d ∈ ds, c d = true → PMB X scope elt (setsT t (bs d)) (fun r => r = .d (f d))) (hz : ds.length < sizeLine) (hs : ∀ x, foldedSetIterable it X.env x = pure x := by intro _; rfl) : PD X (.ListComp elt [⟨tg, it, [cnd], 0⟩] scope pos) t (.list ((ds.filter c).map f)) :=
  pm_lc1 (E := fun d x => x = f d) hc hN hi ok hg ht hb hno hcn (fun d hd hcd s H0 C cl fp => (he d hd hcd s H0 C cl fp).mono fun r hr => ⟨_, hr, rfl⟩) hz (fun xs h => by rw [Pd.map h]) hs
variable {R : Po} {y : Str} {py spos : Pos}
/-- y = [elt for tg in it] -/
theorem sd_lc0 (i : Nat) (hc : X.calm = true) (hN : X.N.Nodup) (hy : X.N[i]? = some y) (hyl : X.env.scope.names.lookup y = some .local) (hsw : swapsWith (.ListComp elt [⟨tg, it, [], 0⟩] scope pos) (some (.Name y py)) spos.line X.env = pure true)
    (hi : ItD X tg it t (ds.map enc)) (ok : BlkOk X.N X.env.scope scope own) (hg : PGB X scope tg g) (ht : ∀ d ∈ ds, TgS g (enc d) (bs d)) (hb : ∀ d ∈ ds, ∀ p ∈ bs d, p.1 ∈ own.map (·.2)) (hno : ∀ j ∈ own.map (·.2), t[j]? = some .no)
    (he : ∀ d ∈ ds, PMB X scope elt (setsT t (bs d)) (fun r => ∃ x, r = .d x ∧ E d x)) (hz : ds.length < sizeLine) (k : ∀ xs, PdR E ds xs → R.nx (t.set i (.v (.d (.list xs))))) (hs : ∀ x, foldedSetIterable it X.env x = pure x := by intro _; rfl) : SD X (.Assign [.Name y py] (.ListComp elt [⟨tg, it, [], 0⟩] scope pos) spos) t R := fun N sg F H D S q => by
  obtain ⟨wi, hpi, hw⟩ := hi
  refine use_s (ps_setLc (tt := tYes) (te := teB X scope elt) hc hN hy hyl hsw hpi ok hg (fun _ _ _ _ _ => pts_nil) (fun s H0 C cl fp => ⟨fun pins s' sg H Q I h => (by first | exact te_at (h s H0 C cl fp) pins s' I | exact tt_at (h s H0 C cl fp) pins s' I)⟩) hs) ?_
  refine lc_read (c := fun _ => true) (E := E) hw ht hb hno (fun d hd N sg F H Q S q => q true F H S (Same.refl F) rfl) (fun d hd _ N sg F H Q S q s H0 C cl fp => he d hd s H0 C cl fp N sg F H Q S q) hz S fun v F' H' xs S' s' dv px => ?_
  rw [filter_true] at px
  exact q.nx _ F' H' _ (S'.set (s := .v (.d (.list xs))) rfl ⟨v, rfl, dv⟩) (k xs px)
theorem sd_lc1 (i : Nat) (hc : X.calm = true) (hN : X.N.Nodup) (hy : X.N[i]? = some y) (hyl : X.env.scope.names.lookup y = some .local) (hsw : swapsWith (.ListComp elt [⟨tg, it, [cnd], 0⟩] scope pos) (some (.Name y py)) spos.line X.env = pure true)
    (hi : ItD X tg it t (ds.map enc)) (ok : BlkOk X.N X.env.scope scope own) (hg : PGB X scope tg g) (ht : ∀ d ∈ ds, TgS g (enc d) (bs d)) (hb : ∀ d ∈ ds, ∀ p ∈ bs d, p.1 ∈ own.map (·.2)) (hno : ∀ j ∈ own.map (·.2), t[j]? = some .no)
    (hcn : ∀ d ∈ ds, PMTB X scope cnd (setsT t (bs d)) (fun b => b = c d)) (he : ∀ d ∈ ds, c d = true → PMB X scope elt (setsT t (bs d)) (fun r => ∃ x, r = .d x ∧ E d x)) (hz : ds.length < sizeLine) (k : ∀ xs, PdR E (ds.filter c) xs → R.nx (t.set i (.v (.d (.list xs))))) (hs : ∀ x, foldedSetIterable it X.env x = pure x := by intro _; rfl) : SD X (.Assign [.Name y py] (.ListComp elt [⟨tg, it, [cnd], 0⟩] scope pos) spos) t R := fun N sg F H D S q => by
  obtain ⟨wi, hpi, hw⟩ := hi
  refine use_s (ps_setLc (tt := ttB X scope cnd) (te := teB X scope elt) hc hN hy hyl hsw hpi ok hg (fun s H0 C cl fp => pts_one ⟨fun pins s' sg H Q I h => (by first | exact te_at (h s H0 C cl fp) pins s' I | exact tt_at (h s H0 C cl fp) pins s' I)⟩) (fun s H0 C cl fp => ⟨fun pins s' sg H Q I h => (by first | exact te_at (h s H0 C cl fp) pins s' I | exact tt_at (h s H0 C cl fp) pins s' I)⟩) hs) ?_
  refine lc_read (c := c) (E := E) hw ht hb hno (fun d hd N sg F H Q S q s H0 C cl fp => hcn d hd s H0 C cl fp N sg F H Q S q) (fun d hd hcd N sg F H Q S q s H0 C cl fp => he d hd hcd s H0 C cl fp N sg F H Q S q) hz S fun v F' H' xs S' s' dv px => ?_
  exact q.nx _ F' H' _ (S'.set (s := .v (.d (.list xs))) rfl ⟨v, rfl, dv⟩) (k xs px)
end
end Fw

-- part FwIsi
set_option Elab.async false
set_option maxRecDepth 100000
set_option maxHeartbeats 4000000
set_option linter.all false
namespace Fw
open PySem PySem.Spec PyProof.Rows L2
/-! ### isinstance of data -/
def tyN : PyData → String
  | .none => "NoneType"
  | .bool _ => "bool"
  | .int _ => "int"
  | .str _ => "str"
  | .list _ => "list"
  | .tuple _ => "tuple"
  | .dict _ => "dict"
theorem Dq.ty {K : PySem.W.Frag} {F H : Hp} {v : V} {x : PyData} (e : Same F H) (h : Dq F v x) : TyX K H v (.type (tyN x)) := by
  cases h with
  | non => exact .base .non
  | bl b => exact .base (.bl b)
  | int i => exact .base (.int i)
  | str x => exact .base (.str x)
  | lst g a => exact .base (.lst (e _ _ g))
  | tup g a => exact .base (.tup (e _ _ g))
  | dct g => exact .base (.dK (e _ _ g))
def isInt : PyData → Bool
  | .int _ => true
  | .bool _ => true
  | _ => false
def isBool : PyData → Bool
  | .bool _ => true
  | _ => false
def isTup : PyData → Bool
  | .tuple _ => true
  | _ => false
def isStr : PyData → Bool
  | .str _ => true
  | _ => false
theorem kit_int : ∀ (x : PyData), kitB (tyN x) "int" = some (isInt x)
  | .none => (by decide +kernel : kitB "NoneType" "int" = some false)
  | .bool _ => (by decide +kernel : kitB "bool" "int" = some true)
  | .int _ => (by decide +kernel : kitB "int" "int" = some true)
  | .str _ => (by decide +kernel : kitB "str" "int" = some false)
  | .list _ => (by decide +kernel : kitB "list" "int" = some false)
  | .tuple _ => (by decide +kernel : kitB "tuple" "int" = some false)
  | .dict _ => (by decide +kernel : kitB "dict" "int" = some false)
theorem kit_bool : ∀ (x : PyData), kitB (tyN x) "bool" = some (isBool x)
  | .none => (by decide +kernel : kitB "NoneType" "bool" = some false)
  | .bool _ => (by decide +kernel : kitB "bool" "bool" = some true)
  | .int _ => (by decide +kernel : kitB "int" "bool" = some false)
  | .str _ => (by decide +kernel : kitB "str" "bool" = some false)
  | .list _ => (by decide +kernel : kitB "list" "bool" = some false)
  | .tuple _ => (by decide +kernel : kitB "tuple" "bool" = some false)
  | .dict _ => (by decide +kernel : kitB "dict" "bool" = some false)
theorem kit_tuple : ∀ (x : PyData), kitB (tyN x) "tuple" = some (isTup x)
  | .none => (by decide +kernel : kitB "NoneType" "tuple" = some false)
  | .bool _ => (by decide +kernel : kitB "bool" "tuple" = some false)
  | .int _ => (by decide +kernel : kitB "int" "tuple" = some false)
  | .str _ => (by decide +kernel : kitB "str" "tuple" = some false)
  | .list _ => (by decide +kernel : kitB "list" "tuple" = some false)
  | .tuple _ => (by decide +kernel : kitB "tuple" "tuple" = some true)
  | .dict _ => (by decide +kernel : kitB "dict" "tuple" = some false)
theorem kit_str : ∀ (x : PyData), kitB (tyN x) "str" = some (isStr x)
  | .none => (by decide +kernel : kitB "NoneType" "str" = some false)
  | .bool _ => (by decide +kernel : kitB "bool" "str" = some false)
  | .int _ => (by decide +kernel : kitB "int" "str" = some false)
  | .str _ => (by decide +kernel : kitB "str" "str" = some true)
  | .list _ => (by decide +kernel : kitB "list" "str" = some false)
  | .tuple _ => (by decide +kernel : kitB "tuple" "str" = some false)
  | .dict _ => (by decide +kernel : kitB "dict" "str" = some false)
section
variable {X : Cx} {e : Expr} {t : Ty} {x : PyData} {p pt pos : Pos}
theorem pd_isi {b : Bool} {T : String} {nm : Str} (hg : Gl X "isinstance") (hm : X.mg "isinstance" = none) (hgT : Gl X nm) (hmT : X.mg nm = none) (hvT : bootBuiltins nm = some (.type T)) (he : PD X e t x) (hk : kitB (tyN x) T = some b) (hn : nm ≠ "__name__") (hd : (nm == ("__debug__" : Str)) = false)
    (h1 : starEach (e :: [.Name nm pt]) X.env = (false, eval e X.env) :: starEach [.Name nm pt] X.env := by rfl) (h2 : starEach [.Name nm pt] X.env = (false, eval (.Name nm pt) X.env) :: starEach [] X.env := by rfl) (hpl : (backTo pos (starEach [.Name nm pt] X.env)).any (·.1) = false := by rfl) :
    PD X (.Call (.Name "isinstance" p) [e, .Name nm pt] [] pos) t (.bool b) := fun N sg F H Q S q =>
  use_e (pe_callB call_isi hg hm (by decide +kernel) (pa_cons (pe_of X e) (pa_cons (pe_bltn (v := .ty T) hgT hmT hvT rfl hn hd) pa_nil h2) h1) (by decide) (by decide) h1 hpl) (he N sg F H _ S fun v F1 H1 r1 S1 s1 d1 hr1 => by
    subst hr1
    exact ⟨v, .ty T, .type (tyN x), .type T, b, rfl, .ty T, Dq.ty S1.fh d1, kit_ty hk, q _ F1 H1 (.d _) S1 s1 (Dq.bl b) rfl⟩)
end
end Fw

-- part FwMore
set_option Elab.async false
set_option maxRecDepth 100000
set_option maxHeartbeats 4000000
set_option linter.all false
/-! ### enumerate(v) over anything that begins (one argument) -/
namespace PySem
open PySem.Spec PyProof.Rows
set_option maxHeartbeats 4000000 in
theorem kx_enum_new {v : Value} {ob : Obj} {G : Heap → Prop} (B : Begins v ob G) :
    Meets (Builtin.«enumerate.__new__» ⟨[.type "enumerate", v], []⟩) (fun _ R st => G st.heap ∧
      R (.ok (.ret (.ref (st.heap.push ob).objs.size))) { st with heap := (st.heap.push ob).push { cls := .type "enumerate", data := .fields #[.none, .bool false, .ref st.heap.objs.size, rawInt 0, .none, .none] } }) :=
  .of_wp fun pr wo Ar Re st hh => by
    obtain ⟨hp, gg, dd, tt, oo⟩ := st
    obtain ⟨g1, g2⟩ := hh
    have hs := sub_enumerate
    have it1 : ∀ {A' : Around} {E' : Value → Shared → Prop} {Q' : Value → Shared → Prop}, Q' (.ref hp.objs.size) ⟨hp.push ob, gg, dd, tt, oo⟩ → wpAny (model pr wo) A' (pyIter v) Q' E' ⟨hp, gg, dd, tt, oo⟩ :=
      fun z => B.iter pr wo _ _ ⟨hp, gg, dd, tt, oo⟩ _ g1 z
    wp_walk using it1
    refine wpAny_stack_any fun stk => wpAny_pure ?_
    split
    · rename_i cc _ _ _ _ _
      cases (cc == Value.type "enumerate") <;> (wp_walk using it1; exact ⟨_, rfl, g2⟩)
    · wp_walk using it1
      exact ⟨_, rfl, g2⟩
theorem kx_enum_call {pr : Program} {wo : World} {Ar : Around} {Ex : Value → Shared → Prop} {st : Shared} {v : Value} {ob : Obj} {G : Heap → Prop} {Qv : Value → Shared → Prop} (B : Begins v ob G) (g : G st.heap)
    (k : ∀ hp', IsEnum hp' (st.heap.objs.size + 1) st.heap.objs.size 0 .none → hp'.get? st.heap.objs.size = some ob → (∀ b o, st.heap.get? b = some o → hp'.get? b = some o) → Qv (.ref (st.heap.objs.size + 1)) { st with heap := hp' }) :
    wpAny (model pr wo) Ar (call (.type "enumerate") [v]) Qv Ex st := by
  refine callType_new F.called_enumerate (by decide) (F.typeCall_enumerate_1 _) (F.newCall_enumerate_1 _) (fun obj => F.args_object_init_2 obj _) F.entry_enumerate_new (kx_enum_new B) ⟨g, ?_⟩
  have sz : (st.heap.push ob).objs.size = st.heap.objs.size + 1 := Heap.size_push ..
  show _ ∧ _
  rw [sz]
  have en : IsEnum ((st.heap.push ob).push { cls := .type "enumerate", data := .fields #[.none, .bool false, .ref st.heap.objs.size, rawInt 0, .none, .none] }) (st.heap.objs.size + 1) st.heap.objs.size 0 .none := by
    have q := Heap.get?_push_size (st.heap.push ob) (o := { cls := .type "enumerate", data := .fields #[.none, .bool false, .ref st.heap.objs.size, rawInt 0, .none, .none] }) rfl
    rwa [sz] at q
  exact ⟨⟨_, en, rfl⟩, k _ en (Heap.get?_push_of_some _ (Heap.get?_push_size _ B.free)) fun b o q => Heap.get?_push_of_some _ (Heap.get?_push_of_some _ q)⟩
end PySem
namespace Fw
open PySem PySem.Spec PyProof.Rows L2
/-- the tuple at a as it stands at each turn, each item in a new pair -/
def Itet (K : PySem.W.Frag) (a : Addr) : It :=
  ⟨fun i H => ∃ (xs : List V) (x : V), SqT K H a xs ∧ xs[i]? = some x, fun i H v H' => ∃ T x, v = .ref T ∧ H T = none ∧ H' = upd H T (.tup [.int (i : Nat), x]) ∧ ∀ xs, SqT K H a xs → xs[i]? = some x, fun i H => ∃ xs : List V, SqT K H a xs ∧ xs.length = i⟩
theorem turn_enumT {P : Program} {w : World} {K : PySem.W.Frag} {elts : List Expr} {kk : Nat} {tpos : Pos} (a e it : Addr) :
    Turn P w K (.Tuple elts kk tpos) (Itet K a) [e, it] e (fun i h => (∃ old, IsEnum h e it ((i : Nat) : Int) old) ∧ h.IsTupleIter it a i ∧ e ≠ it) where
  mem := List.mem_cons_self
  obj := fun i h st b hb => by
    obtain ⟨⟨old, he⟩, ⟨o, ho, hc, hd⟩, _⟩ := st
    rcases List.mem_cons.mp hb with z | z
    · subst z; exact ⟨_, he, fun v q => nomatch q⟩
    · obtain rfl := List.mem_singleton.mp z
      exact ⟨o, ho, fun v q => by rw [hd] at q; cases q⟩
  keep := fun i h h' st k => by
    obtain ⟨⟨old, he⟩, hi, hne⟩ := st
    exact ⟨⟨old, k e (by simp) _ he⟩, hi.at fun o q => k it (by simp) o q, hne⟩
  item := by
    intro X hP hw hK hc i pins s sg H E I hf st hg
    subst hP hw hK
    obtain ⟨⟨old, he⟩, hit, hne⟩ := st
    obtain ⟨xs, x, hq, hx⟩ := hg
    obtain ⟨its, rv, p, hz⟩ := I.tuple hq
    obtain ⟨u, hu, ru⟩ := rv.get hx
    have hlt : i < its.toArray.size := by
      rw [List.size_toArray]
      exact (List.getElem?_eq_some_iff.mp hu).1
    have p' : s.heap.IsTuple a its.toArray := p
    have nea : e ≠ a := by
      intro z
      obtain ⟨o, ho, hcl, _⟩ := p
      rw [← z] at ho
      have q : some o = some _ := ho.symm.trans he
      cases q
      injection hcl with z
      exact absurd z (by decide)
    have nia : a ≠ it := by
      intro z
      obtain ⟨o, ho, hcl, _⟩ := p
      obtain ⟨o2, ho2, hcl2, _⟩ := hit
      rw [z, ho2] at ho
      cases ho
      rw [hcl2] at hcl
      injection hcl with z
      exact absurd z (by decide)
    have helt : e < s.heap.objs.size := Heap.lt_size he
    have hilt : it < s.heap.objs.size := by obtain ⟨_, q, _⟩ := hit; exact Heap.lt_size q
    refine wpAny_pyNext_enum_itemD (n := its.toArray.size) (Draws.tuple (A := X.A.in1) (I.ok.hd hc) it a nia its.toArray) he ⟨hit, p'⟩ hlt hne (by simp [nea, hne]) fun x' h' tk hP ho hst' hT hsz hk => ?_
    have ex : x' = u := by
      have q : its.toArray[i]? = some x' := hP
      have q2 : its.toArray[i]? = some u := by simpa using hu
      rw [q2] at q
      exact (Option.some.inj q).symm
    subst ex
    refine ⟨_, rfl, wpAny_letOwnedTupleGo_enum (s := { s with heap := h', toks := tk + 1 }) ho fun h'' he' sb => ?_⟩
    have hT2 : h''.get? s.heap.objs.size = some { cls := .type "tuple", data := .seq #[.int i tk, x'] } := (sb.2 _ (Nat.ne_of_gt helt)).trans hT
    have new : ObjOk X.prog X.w (upd H s.heap.objs.size (.tup [.int (i : Nat), x])) h'' s.heap.objs.size (.tup [.int (i : Nat), x]) :=
      ⟨(by show 2 ≤ sizeLine; decide), [.int i tk, x'], .cons ⟨_, rfl⟩ (.cons ru .nil), ⟨_, hT2, rfl, _, rfl⟩⟩
    have I1 : Inv X pins sg (upd H s.heap.objs.size (.tup [.int (i : Nat), x])) { s with heap := h'', toks := tk + 1 } :=
      I.turnedNew (ch := [e, it]) (fun b ob hb q => (sb.2 b (fun z => hb (by simp [z]))).trans (hk b ob (fun z => hb (by simp [z])) (fun z => hb (by simp [z])) q)) hf (Nat.le_refl _) new
    refine ⟨.ref s.heap.objs.size, _, I1, rfl, ⟨_, x, rfl, I.hok.fresh (Nat.le_refl _), rfl, fun ys hy => by rw [I.tuple_inj hy hq]; exact hx⟩, ⟨⟨x', ?_⟩, hst'.1.at fun o q => (sb.2 it (Ne.symm hne)).trans q, hne⟩, fun b hb => ?_⟩
    · rw [show ((i + 1 : Nat) : Int) = (i : Int) + 1 from by omega]; exact he'
    · have hb' : b < s.heap.objs.size := by
        rcases List.mem_cons.mp hb with z | z
        · rw [z]; exact helt
        · rw [List.mem_singleton.mp z]; exact hilt
      rw [upd_ne (Nat.ne_of_lt hb')]
      exact (hf b hb).1
  done := by
    intro X hP hw hK hc i pins s sg H E I hf st hg
    subst hP hw hK
    obtain ⟨⟨old, he⟩, hit, hne⟩ := st
    obtain ⟨xs, hq, hx⟩ := hg
    obtain ⟨its, rv, p, hz⟩ := I.tuple hq
    have p' : s.heap.IsTuple a its.toArray := p
    obtain ⟨f0, f1, f2, f3, f4, f5⟩ := hf it (by simp)
    have hl := rv.length
    have nia : a ≠ it := by
      intro z
      obtain ⟨o, ho, hcl, _⟩ := p
      obtain ⟨o2, ho2, hcl2, _⟩ := hit
      rw [z, ho2] at ho
      cases ho
      rw [hcl2] at hcl
      injection hcl with z
      exact absurd z (by decide)
    have en : i = its.toArray.size := by rw [List.size_toArray, ← hl]; exact hx.symm
    subst en
    exact wpAny_pyNext_enum_endD (Draws.tuple (A := X.A.in1) (I.ok.hd hc) it a nia its.toArray) he ⟨hit, p'⟩ fun h' eb => ⟨rfl, I.turned (t' := s.toks) (fun b o hb q => eb b o hb q) f0 f1 f3 f4 f5⟩
  self := fun A i s Q E st h => by
    obtain ⟨⟨_, he⟩, _⟩ := st
    exact wpAny_pyIter_enum he h
def enumD {A : Type} (enc : A → PyData) (xs : List A) : List PyData := xs.zipIdx.map fun p => .tuple [.int (p.2 : Nat), enc p.1]
theorem zipIdx_get {A : Type} {xs : List A} {i : Nat} {x : A} (h : xs[i]? = some x) : xs.zipIdx[i]? = some (x, i) := by
  rw [List.getElem?_zipIdx, h]; simp
section
variable {A : Type} {X : Cx} {e : Expr} {t : Ty} {enc : A → PyData} {xs : List A} {p pos tpos : Pos} {elts : List Expr} {kk : Nat}
theorem wk_enumT {K : PySem.W.Frag} {a : Addr} {vs : List V} {F1 : Hp} (g : F1 a = some (.tup vs)) (h : DqA F1 vs (xs.map enc)) : WkD (Itet K a) F1 (enumD enc xs) where
  go := fun i H hi s => by
    unfold enumD at hi
    rw [List.length_map, List.length_zipIdx] at hi
    obtain ⟨v, hv, _⟩ := h.get (i := i) (d := enc xs[i]) (by rw [List.getElem?_map, List.getElem?_eq_getElem hi]; rfl)
    exact ⟨vs, v, SqT.of (s _ _ g), hv⟩
  stop := fun H s => ⟨vs, SqT.of (s _ _ g), by unfold enumD; rw [h.len, List.length_map, List.length_map, List.length_zipIdx]⟩
  yld := fun i H x H' hi s y F f1 fh => by
    obtain ⟨T, z, rfl, hT, rfl, hz⟩ := y
    obtain ⟨d, hd, dq⟩ := h.getV (hz vs (SqT.of (s _ _ g)))
    have hd' := hd
    rw [List.getElem?_map] at hd'
    obtain ⟨b, hb, rfl⟩ := Option.map_eq_some_iff.mp hd'
    have fr : Same F (upd F T (.tup [.int (i : Nat), z])) := same_new (fh.free hT)
    refine ⟨upd F T (.tup [.int (i : Nat), z]), .tuple [.int (i : Nat), enc b], Gr.new fh hT, ?_, .tup upd_same (.cons (.int _) (.cons ((dq.up f1).up fr) .nil))⟩
    unfold enumD
    rw [List.getElem?_map, zipIdx_get hb]
    rfl
theorem wk_enumL {K : PySem.W.Frag} {a : Addr} {vs : List V} {F1 : Hp} (g : F1 a = some (.lst vs)) (h : DqA F1 vs (xs.map enc)) : WkD (Ite K a) F1 (enumD enc xs) where
  go := fun i H hi s => by
    unfold enumD at hi
    rw [List.length_map, List.length_zipIdx] at hi
    obtain ⟨v, hv, _⟩ := h.get (i := i) (d := enc xs[i]) (by rw [List.getElem?_map, List.getElem?_eq_getElem hi]; rfl)
    exact ⟨vs, v, SqL.of (s _ _ g), hv⟩
  stop := fun H s => ⟨vs, SqL.of (s _ _ g), by unfold enumD; rw [h.len, List.length_map, List.length_map, List.length_zipIdx]; exact Nat.le_refl _⟩
  yld := fun i H x H' hi s y F f1 fh => by
    obtain ⟨T, z, rfl, hT, rfl, hz⟩ := y
    obtain ⟨d, hd, dq⟩ := h.getV (hz vs (SqL.of (s _ _ g)))
    have hd' := hd
    rw [List.getElem?_map] at hd'
    obtain ⟨b, hb, rfl⟩ := Option.map_eq_some_iff.mp hd'
    have fr : Same F (upd F T (.tup [.int (i : Nat), z])) := same_new (fh.free hT)
    refine ⟨upd F T (.tup [.int (i : Nat), z]), .tuple [.int (i : Nat), enc b], Gr.new fh hT, ?_, .tup upd_same (.cons (.int _) (.cons ((dq.up f1).up fr) .nil))⟩
    unfold enumD
    rw [List.getElem?_map, zipIdx_get hb]
    rfl
/-- enumerate(e), e a list that stays -/
theorem it_enumL (hg : Gl X "enumerate") (hm : X.mg "enumerate" = none) (h : PD X e t (.list (xs.map enc))) (hs : starEach [e] X.env = [(false, eval e X.env)] := by rfl) (hs' : starEach [e] X.env = (false, eval e X.env) :: starEach [] X.env := by rfl) : ItD X (.Tuple elts kk tpos) (.Call (.Name "enumerate" p) [e] [] pos) t (enumD enc xs) :=
  ⟨_, pi_enum hg hm (pa_cons (pe_of X e) pa_nil hs') hs, fun N sg F H R S k => h N sg F H _ S fun v F1 H1 r1 S1 s1 d1 hr1 => by
    subst hr1
    cases d1 with
    | lst g a => exact ⟨_, _, rfl, SqL.of (S1.fh _ _ g), k _ F1 H1 S1 s1 (wk_enumL g a)⟩⟩
def iEnumT (K : PySem.W.Frag) (ta : TA) : TI := fun sg H R => ta sg H fun vs H1 => ∃ a xs, vs = [.ref a] ∧ SqT K H1 a xs ∧ R (Itet K a) H1
theorem pi_enumT {ta : TA} (hg : Gl X "enumerate") (hm : X.mg "enumerate" = none) (ha : PA X [e] ta) (hs : starEach [e] X.env = [(false, eval e X.env)] := by rfl) : PI X (.Tuple elts kk tpos) (.Call (.Name "enumerate" p) [e] [] pos) (iEnumT X.K ta) := by
  refine ⟨fun pins s sg H R I h => Call_ (ld_blt I hg hm boot_enumerate (PyProof.Rows.callWith_type1 (thn (ha.run pos pins s sg H _ I h) fun us s1 ⟨vs, H1, I1, r1, q1⟩ => ?_) hs rfl))⟩
  obtain ⟨a, ys, ex, hq, q⟩ := q1
  subst ex
  obtain ⟨u, rfl, ru⟩ := vals1 r1
  obtain rfl : u = Value.ref a := ru
  obtain ⟨its, rv, p', hz⟩ := I1.tuple hq
  refine kx_enum_call (begins_tuple a its.toArray) (show s1.heap.IsTuple a its.toArray from p') fun h' he hit hk => wpAny_pyIter_enum he ?_
  refine ⟨s1.heap.objs.size + 1, [s1.heap.objs.size + 1, s1.heap.objs.size], _, _, H1, rfl, I1.kept (t' := s1.toks) hk, turn_enumT a (s1.heap.objs.size + 1) s1.heap.objs.size, ⟨⟨.none, he⟩, ⟨_, hit, rfl, rfl⟩, Nat.succ_ne_self _⟩, fun b hb => ?_, q⟩
  have hle : s1.heap.objs.size ≤ b := by
    rcases List.mem_cons.mp hb with z | z
    · rw [z]; exact Nat.le_succ _
    · rw [List.mem_singleton.mp z]; exact Nat.le_refl _
  exact I1.fpOk hle (I1.hok.fresh hle)
/-- enumerate(e), e a tuple -/
theorem it_enumT (hg : Gl X "enumerate") (hm : X.mg "enumerate" = none) (h : PD X e t (.tuple (xs.map enc))) (hs : starEach [e] X.env = [(false, eval e X.env)] := by rfl) (hs' : starEach [e] X.env = (false, eval e X.env) :: starEach [] X.env := by rfl) : ItD X (.Tuple elts kk tpos) (.Call (.Name "enumerate" p) [e] [] pos) t (enumD enc xs) :=
  ⟨_, pi_enumT hg hm (pa_cons (pe_of X e) pa_nil hs') hs, fun N sg F H R S k => h N sg F H _ S fun v F1 H1 r1 S1 s1 d1 hr1 => by
    subst hr1
    cases d1 with
    | tup g a => exact ⟨_, _, rfl, SqT.of (S1.fh _ _ g), k _ F1 H1 S1 s1 (wk_enumT g a)⟩⟩
end
end Fw

-- part FwCal
set_option Elab.async false
set_option maxRecDepth 100000
set_option maxHeartbeats 4000000
set_option linter.all false
namespace Fw
open PySem PySem.Spec PyProof.Rows L2
/-! ### the text's defs by name -/
def HasFn (K : PySem.W.Frag) (mg : Str → Option Value) (nm : Str) (st : Stmt) (ps : List Str) : Prop := ∃ f fd, Fun K nm nm st f fd ∧ mg nm = some (.ref f) ∧ Binds K fd ps []
def Cal (P : Program) (w : World) (K : PySem.W.Frag) (mg : Str → Option Value) (base : Heap) (nm : Str) (k : Nat) (ps : List Str) (sp : Sp) : Prop :=
  ∃ f fd, FnOk P w K mg base CX0 k f fd ps sp ∧ mg nm = some (.ref f) ∧ PySem.W.keepIn K (.ref f) = true ∧ Binds K fd ps []
theorem Cal.imp {P : Program} {w : World} {K : PySem.W.Frag} {mg : Str → Option Value} {base : Heap} {nm : Str} {k : Nat} {ps : List Str} {sp sp' : Sp} (C : Cal P w K mg base nm k ps sp) (h : ∀ vs H Q E, sp' vs H Q E → sp vs H Q E) : Cal P w K mg base nm k ps sp' :=
  let ⟨f, fd, a, b, c, d⟩ := C
  ⟨f, fd, a.imp h, b, c, d⟩
abbrev bx (P : Program) (w : World) (K : PySem.W.Frag) (mg : Str → Option Value) (base : Heap) (N : List Str) (qual : Str) (st : Stmt) (f : Addr) (cdv : Value) (A : Around) (outer : List Env) (s : Shared) (H : Hp) (E : XK) : Cx :=
  (cxOf CX0 P w K mg base N qual (defScope st) f cdv A outer s H E).nox
theorem cal_pure {P : Program} {w : World} {K : PySem.W.Frag} {mg : Str → Option Value} {base : Heap} {nm : Str} {st : Stmt} {N ps : List Str} {k n : Nat} {Phi : List Dt → Dt → Prop} (F : HasFn K mg nm st ps) (S : FnScope N ps (defScope st)) (hn : ps.length = n)
    (body : ∀ (f : Addr) (cdv : Value) (A : Around) (outer : List Env) (s : Shared) (H : Hp) (E : XK), Room k (A.deeper (envOfC nm (defScope st) s.heap.objs.size f cdv)) → ∀ rs r, rs.length = n → Phi rs r →
      SDs (bx P w K mg base N nm st f cdv A outer s H E) (defBody st) (startT N rs) (finP r)) : Cal P w K mg base nm (k + 1) ps (spP n Phi) := by
  obtain ⟨f, fd, h1, h2, h3⟩ := F
  exact ⟨f, fd, fn_pure h1 S hn fun cdv A outer s H E => body f cdv A outer s H E, h2, h1.kp, h3⟩
section
variable {X : Cx} {a b c e : Expr} {es : List Expr} {t : Ty} {R R' Ra : Dt → Prop} {pos p : Pos} {x y z d : PyData} {nm : Str} {k n : Nat} {ps : List Str}
/-- a call of a pure def -/
theorem pm_cal {Phi : List Dt → Dt → Prop} {P : List Dt → Prop} (C : Cal X.prog X.w X.K X.mg X.base nm k ps (spP n Phi)) (hr : Room k X.A) (ha : PMA X (e :: es) t P) (h : ∀ rs, P rs → rs.length = n ∧ ∃ r, Phi rs r ∧ R r) (hg : Gl X nm := by rfl)
    (hdb : (nm == ("__debug__" : Str)) = false := by decide) (he : starEach (e :: es) X.env = (false, eval e X.env) :: starEach es X.env := by rfl) (hpl : (backTo pos (starEach es X.env)).any (·.1) = false := by rfl) : PM X (.Call (.Name nm p) (e :: es) [] pos) t R := by
  obtain ⟨f, fd, g1, g2, g3, g4⟩ := C
  exact pm_call g1 hr hg g2 g3 g4 ha h hdb he hpl
theorem pd_cal {Phi : List Dt → Dt → Prop} {rs : List Dt} (C : Cal X.prog X.w X.K X.mg X.base nm k ps (spP n Phi)) (hr : Room k X.A) (ha : PDA X (e :: es) t rs) (hl : rs.length = n) (h : Phi rs (.d z)) (hg : Gl X nm := by rfl)
    (hdb : (nm == ("__debug__" : Str)) = false := by decide) (he : starEach (e :: es) X.env = (false, eval e X.env) :: starEach es X.env := by rfl) (hpl : (backTo pos (starEach es X.env)).any (·.1) = false := by rfl) : PD X (.Call (.Name nm p) (e :: es) [] pos) t z :=
  pm_cal C hr ha (fun rs' e' => by subst e'; exact ⟨hl, _, h, rfl⟩) hg hdb he hpl
/-- short words -/
theorem vr {x : Str} {r : Dt} (i : Nat) (ht : t[i]? = some (.v r)) (hN : X.N[i]? = some x := by rfl) (hv : Vis X.env.scope x := by first | exact Or.inl rfl | exact Or.inr (Or.inl rfl) | exact Or.inr (Or.inr rfl))
    (hd : (x == ("__debug__" : Str)) = false := by decide) (hcd : (x == ("__classdict__" : Str)) = false := by decide) : PM X (.Name x pos) t (fun z => z = r) := pm_var i hN hv ht hd hcd
theorem bn {op : Operator} (ha : PD X a t x) (hb : PD X b t y) (h : BinD X op x y z := by first | exact bd_add _ _ | exact bd_sub _ _) : PD X (.BinOp a op b pos) t z := pd_bin ha hb h
theorem cp {op : CmpOp} {k : Bool} (ha : PD X a t x) (hb : PD X b t y) (h : CmpD X op x y k := by first | exact cd_lt _ _ | exact cd_le _ _ | exact cd_gt _ _ | exact cd_ge _ _ | exact cd_isN | exact cd_notN | exact cd_eqI _ _ | exact cd_neI _ _) (hm : behindInMarks op b = false := by first | exact nomark _ | rfl) : PD X (.Compare a [op] [b] pos) t (.bool k) := pd_cmp ha hb h hm
theorem ct {op : CmpOp} {k : Bool} (ha : PD X a t x) (hb : PD X b t y) (h : CmpD X op x y k := by first | exact cd_lt _ _ | exact cd_le _ _ | exact cd_gt _ _ | exact cd_ge _ _ | exact cd_isN | exact cd_notN | exact cd_eqI _ _ | exact cd_neI _ _) (hm : behindInMarks op b = false := by first | exact nomark _ | rfl) : PDT X (.Compare a [op] [b] pos) t k := pdt_cmp ha hb h hm
theorem ix (ha : PD X a t x) (hb : PD X b t y) (h : IxD X x y z := by first | exact id_tup rfl | exact id_lst rfl) (hs : PlainIx b := by exact fun _ _ => rfl) : PD X (.Subscript a b pos) t z := pd_ix ha hb h hs
theorem ac {r : Dt} {rs : List Dt} (h : PM X e t (fun z => z = r)) (hs : PDA X es t rs) (hst : starEach (e :: es) X.env = (false, eval e X.env) :: starEach es X.env := by rfl) : PDA X (e :: es) t (r :: rs) := pda_cons h hs hst
end
section
variable {X : Cx} {a b c e : Expr} {es : List Expr} {t : Ty} {pos p pt : Pos} {x y z d : PyData} {nm : Str}
theorem isI (hm : X.mg "isinstance" = none) (hmT : X.mg "int" = none) (he : PD X e t x) (hg : Gl X "isinstance" := by rfl) (hgT : Gl X "int" := by rfl)
    (h1 : starEach (e :: [.Name "int" pt]) X.env = (false, eval e X.env) :: starEach [.Name "int" pt] X.env := by rfl) (h2 : starEach [.Name "int" pt] X.env = (false, eval (.Name "int" pt) X.env) :: starEach [] X.env := by rfl) (hpl : (backTo pos (starEach [.Name "int" pt] X.env)).any (·.1) = false := by rfl) :
    PD X (.Call (.Name "isinstance" p) [e, .Name "int" pt] [] pos) t (.bool (isInt x)) := pd_isi hg hm hgT hmT (by decide +kernel) he (kit_int _) (by decide) (by decide) h1 h2 hpl
theorem isB (hm : X.mg "isinstance" = none) (hmT : X.mg "bool" = none) (he : PD X e t x) (hg : Gl X "isinstance" := by rfl) (hgT : Gl X "bool" := by rfl)
    (h1 : starEach (e :: [.Name "bool" pt]) X.env = (false, eval e X.env) :: starEach [.Name "bool" pt] X.env := by rfl) (h2 : starEach [.Name "bool" pt] X.env = (false, eval (.Name "bool" pt) X.env) :: starEach [] X.env := by rfl) (hpl : (backTo pos (starEach [.Name "bool" pt] X.env)).any (·.1) = false := by rfl) :
    PD X (.Call (.Name "isinstance" p) [e, .Name "bool" pt] [] pos) t (.bool (isBool x)) := pd_isi hg hm hgT hmT (by decide +kernel) he (kit_bool _) (by decide) (by decide) h1 h2 hpl
theorem isT (hm : X.mg "isinstance" = none) (hmT : X.mg "tuple" = none) (he : PD X e t x) (hg : Gl X "isinstance" := by rfl) (hgT : Gl X "tuple" := by rfl)
    (h1 : starEach (e :: [.Name "tuple" pt]) X.env = (false, eval e X.env) :: starEach [.Name "tuple" pt] X.env := by rfl) (h2 : starEach [.Name "tuple" pt] X.env = (false, eval (.Name "tuple" pt) X.env) :: starEach [] X.env := by rfl) (hpl : (backTo pos (starEach [.Name "tuple" pt] X.env)).any (·.1) = false := by rfl) :
    PD X (.Call (.Name "isinstance" p) [e, .Name "tuple" pt] [] pos) t (.bool (isTup x)) := pd_isi hg hm hgT hmT (by decide +kernel) he (kit_tuple _) (by decide) (by decide) h1 h2 hpl
theorem isS (hm : X.mg "isinstance" = none) (hmT : X.mg "str" = none) (he : PD X e t x) (hg : Gl X "isinstance" := by rfl) (hgT : Gl X "str" := by rfl)
    (h1 : starEach (e :: [.Name "str" pt]) X.env = (false, eval e X.env) :: starEach [.Name "str" pt] X.env := by rfl) (h2 : starEach [.Name "str" pt] X.env = (false, eval (.Name "str" pt) X.env) :: starEach [] X.env := by rfl) (hpl : (backTo pos (starEach [.Name "str" pt] X.env)).any (·.1) = false := by rfl) :
    PD X (.Call (.Name "isinstance" p) [e, .Name "str" pt] [] pos) t (.bool (isStr x)) := pd_isi hg hm hgT hmT (by decide +kernel) he (kit_str _) (by decide) (by decide) h1 h2 hpl
theorem lenT {ds : List PyData} (hm : X.mg "len" = none) (he : PD X e t (.tuple ds)) (hg : Gl X "len" := by rfl) (hs : starEach (e :: []) X.env = (false, eval e X.env) :: starEach [] X.env := by rfl) (hpl : (backTo pos (starEach [] X.env)).any (·.1) = false := by rfl) :
    PD X (.Call (.Name "len" p) [e] [] pos) t (.int ds.length) := pd_callB hg hm PySem.boot_len (pda_cons he pma_nil hs) (ll_lenT ds) (by decide) (by decide) hs hpl
theorem lenL {ds : List PyData} (hm : X.mg "len" = none) (he : PD X e t (.list ds)) (hg : Gl X "len" := by rfl) (hs : starEach (e :: []) X.env = (false, eval e X.env) :: starEach [] X.env := by rfl) (hpl : (backTo pos (starEach [] X.env)).any (·.1) = false := by rfl) :
    PD X (.Call (.Name "len" p) [e] [] pos) t (.int ds.length) := pd_callB hg hm PySem.boot_len (pda_cons he pma_nil hs) (ll_lenL ds) (by decide) (by decide) hs hpl
end
end Fw

-- part FwDict
set_option Elab.async false
set_option maxRecDepth 100000
set_option maxHeartbeats 4000000
set_option linter.all false
namespace Fw
open PySem PySem.Spec PyProof.Rows L2
/-! ### dicts of data, by int keys -/
abbrev Kd := List (Key × PyData)
def valP (ks : Kd) (k : Key) : Option PyData := (ks.find? fun kv => decide (kv.1 = k)).map (·.2)
def putP (ks : Kd) (k : Key) (v : PyData) : Kd := if ks.any (fun kv => decide (kv.1 = k)) then ks.map (fun kv => if kv.1 = k then (kv.1, v) else kv) else ks ++ [(k, v)]
def dropP (ks : Kd) (k : Key) : Kd := ks.filter fun kv => decide (kv.1 ≠ k)
theorem KvR.val {F : Hp} {kvs : List (Key × V)} {ks : Kd} (h : KvR F kvs ks) (k : Key) : (valV kvs k = none ∧ valP ks k = none) ∨ ∃ v d, valV kvs k = some v ∧ valP ks k = some d ∧ Dq F v d := by
  induction h with
  | nil => exact .inl ⟨rfl, rfl⟩
  | @cons a b l1 l2 h1 h2 ih =>
    obtain ⟨e, d⟩ := h1
    by_cases q : a.1 = k
    · right
      refine ⟨a.2, b.2, valV_pos q, ?_, d⟩
      simp [valP, List.find?_cons, show b.1 = k from e ▸ q]
    · have q2 : ¬ b.1 = k := fun z => q (e.trans z)
      rw [valV_neg q]
      have e2 : valP (b :: l2) k = valP l2 k := by simp [valP, List.find?_cons, q2]
      rw [e2]
      exact ih
theorem KvR.any {F : Hp} {kvs : List (Key × V)} {ks : Kd} (h : KvR F kvs ks) (k : Key) : (kvs.any fun kv => decide (kv.1 = k)) = ks.any fun kv => decide (kv.1 = k) := by
  induction h with
  | nil => rfl
  | cons h1 h2 ih => rw [List.any_cons, List.any_cons, ih, h1.1]
theorem KvR.repl {F : Hp} {k : Key} {v : V} {d : PyData} (hd : Dq F v d) {kvs : List (Key × V)} {ks : Kd} (h : KvR F kvs ks) : KvR F (kvs.map fun kv => if kv.1 = k then (kv.1, v) else kv) (ks.map fun kv => if kv.1 = k then (kv.1, d) else kv) := by
  induction h with
  | nil => exact .nil
  | @cons a b l1 l2 h1 h2 ih =>
    rw [List.map_cons, List.map_cons]
    refine .cons ?_ ih
    obtain ⟨e, q⟩ := h1
    by_cases z : a.1 = k
    · rw [if_pos z, if_pos (e ▸ z)]; exact ⟨e, hd⟩
    · rw [if_neg z, if_neg (fun y => z (e.trans y))]; exact ⟨e, q⟩
theorem KvR.put {F : Hp} {k : Key} {v : V} {d : PyData} {kvs : List (Key × V)} {ks : Kd} (h : KvR F kvs ks) (hd : Dq F v d) : KvR F (putK kvs k v) (putP ks k d) := by
  unfold putK putP
  rw [KvR.any h k]
  split
  · exact KvR.repl hd h
  · exact Pd.app h (.cons ⟨rfl, hd⟩ .nil)
theorem KvR.drop {F : Hp} {k : Key} {kvs : List (Key × V)} {ks : Kd} (h : KvR F kvs ks) : KvR F (dropK kvs k) (dropP ks k) := by
  induction h with
  | nil => exact .nil
  | @cons a b l1 l2 h1 h2 ih =>
    by_cases z : a.1 = k
    · rw [dropK_pos z]
      have e : dropP (b :: l2) k = dropP l2 k := by unfold dropP; rw [List.filter_cons, if_neg (by simp [h1.1 ▸ z])]
      rw [e]; exact ih
    · rw [dropK_neg z]
      have e : dropP (b :: l2) k = b :: dropP l2 k := by unfold dropP; rw [List.filter_cons, if_pos (by simp; exact fun y => z (h1.1.trans y))]
      rw [e]; exact .cons h1 ih
theorem KvR.len {F : Hp} {kvs : List (Key × V)} {ks : Kd} (h : KvR F kvs ks) : kvs.length = ks.length := Pd.len h
theorem KvR.snd {F : Hp} {kvs : List (Key × V)} {ks : Kd} (h : KvR F kvs ks) : DqA F (kvs.map (·.2)) (ks.map (·.2)) := by
  induction h with
  | nil => exact .nil
  | cons h1 h2 ih => exact .cons h1.2 ih
theorem KvR.fst {F : Hp} {kvs : List (Key × V)} {ks : Kd} (h : KvR F kvs ks) : kvs.map (·.1) = ks.map (·.1) := by
  induction h with
  | nil => rfl
  | cons h1 h2 ih => rw [List.map_cons, List.map_cons, ih, h1.1]
theorem valV_none {kvs : List (Key × V)} {k : Key} (h : k ∉ kvs.map (·.1)) : valV kvs k = none := by
  induction kvs with
  | nil => rfl
  | cons p r ih =>
    rw [valV_neg (fun e => h (by rw [List.map_cons, e]; exact List.mem_cons_self))]
    exact ih fun z => h (by rw [List.map_cons]; exact List.mem_cons_of_mem _ z)
/-! ### a slot takes a thing of its own -/
theorem StO.own {N : En} {F H : Hp} {sg : St} {t : Ty} (S : StO N F H sg t) {i : Nat} {D : Addr} {s : Sl} (e : s.ad = some D) (hn : N.H D = none) (ho : D ∉ ows t) (h : SlK F H (some (.ref D)) s) : StO N F H (sg.set i (some (.ref D))) (t.set i s) := by
  refine ⟨by rw [List.length_set, List.length_set, S.ln], S.fh, S.f0, S.nf, S.un, S.th, fun j u hj => ?_, fun a ha => ?_, ows_set_own e S.ap (.inl ho)⟩
  · by_cases q : i = j
    · subst q
      have hl : i < t.length := by
        have z := (List.getElem?_eq_some_iff.mp hj).1
        rwa [List.length_set] at z
      rw [List.getElem?_set_self hl] at hj
      cases hj
      exact ⟨_, List.getElem?_set_self (by rw [S.ln]; exact hl), h⟩
    · rw [List.getElem?_set_ne q] at hj ⊢
      exact S.sl j u hj
  · obtain ⟨x, hx, ex⟩ := List.mem_filterMap.mp ha
    rcases List.mem_or_eq_of_mem_set hx with q | q
    · exact S.ow a (List.mem_filterMap.mpr ⟨x, q, ex⟩)
    · subst q
      rw [e] at ex
      cases ex
      exact .inl hn
theorem StO.new_ {N : En} {F H : Hp} {sg : St} {t : Ty} (S : StO N F H sg t) {D : Addr} (h : H D = none) : N.H D = none ∧ F D = none ∧ D ∉ ows t := by
  refine ⟨?_, S.fh.free h, fun z => ?_⟩
  · cases e : N.H D with
    | none => rfl
    | some o => exact absurd h (S.th D (by rw [e]; intro z; cases z))
  · obtain ⟨s, hs, es⟩ := List.mem_filterMap.mp z
    obtain ⟨i, hi⟩ := List.getElem?_of_mem hs
    obtain ⟨v, _, q⟩ := S.sl i s hi
    cases s with
    | no => cases es
    | v r => cases es
    | lst a xs => cases es; obtain ⟨_, _, vs, g3, _⟩ := q; rw [h] at g3; cases g3
    | dct a xs => cases es; obtain ⟨_, _, vs, g3, _⟩ := q; rw [h] at g3; cases g3
    | hand a => cases es; obtain ⟨_, _, vs, hs, g3, _⟩ := q; rw [h] at g3; cases g3
    | rf a => cases es
    | ins a C dx fs => cases es; obtain ⟨_, _, vs, g3, _⟩ := q; rw [h] at g3; cases g3
    | obj a C dx vs => cases es; obtain ⟨_, _, g3⟩ := q; rw [h] at g3; cases g3
    | gd a ks => cases es; obtain ⟨_, vs, g3, _⟩ := q; rw [h] at g3; cases g3
    | xt a S ks => cases es; obtain ⟨_, _, o, vs, g3, _⟩ := q; rw [h] at g3; cases g3
section
variable {X : Cx} {e : Expr} {es : List Expr} {t : Ty} {R : Po} {pos p p2 : Pos} {x : Str} {d : PyData} {ds : List PyData}
/-- x = [] -/
theorem sd_newL (i : Nat) (hN : X.N.Nodup) (hi : X.N[i]? = some x) (hx : Loc X.env.scope x) (k : ∀ D, D ∉ ows t → R.nx (t.set i (.lst D []))) (hs : swapsWith (.List [] p2) (some (.Name x p)) pos.line X.env = pure false := by rfl)
    (hf : X.fn x = true ∨ X.env.scope.names.lookup x = some .local := by first | exact .inl rfl | exact .inr rfl) : SD X (.Assign [.Name x p] (.List [] p2) pos) t R := fun N sg F H D S q =>
  use_s (ps_set hN hi hx (pe_lst pa_nil) hs hf) ⟨Nat.zero_le _, fun l hl => by
    obtain ⟨h1, h2, h3⟩ := S.new_ hl
    exact q.nx _ F _ _ (StO.own (s := .lst l []) (S.grow (Gr.lay S.fh hl)) rfl h1 h3 ⟨rfl, h2, [], upd_same, .nil⟩) (k l h3)⟩
/-- x = {} -/
theorem sd_newD (i : Nat) (hN : X.N.Nodup) (hi : X.N[i]? = some x) (hx : Loc X.env.scope x) (k : ∀ D, D ∉ ows t → R.nx (t.set i (.dct D []))) (hs : swapsWith (.Dict [] [] p2) (some (.Name x p)) pos.line X.env = pure false := by rfl)
    (hf : X.fn x = true ∨ X.env.scope.names.lookup x = some .local := by first | exact .inl rfl | exact .inr rfl) : SD X (.Assign [.Name x p] (.Dict [] [] p2) pos) t R := fun N sg F H D S q =>
  use_s (ps_set hN hi hx pe_dnewK hs hf) fun l hl => by
    obtain ⟨h1, h2, h3⟩ := S.new_ hl
    exact q.nx _ F _ _ (StO.own (s := .dct l []) (S.grow (Gr.lay S.fh hl)) rfl h1 h3 ⟨rfl, h2, [], upd_same, .nil⟩) (k l h3)
/-- x = list(e), e a tuple -/
theorem sd_lstT {p3 p4 : Pos} (i : Nat) (hN : X.N.Nodup) (hi : X.N[i]? = some x) (hx : Loc X.env.scope x) (hm : X.mg "list" = none) (he : PD X e t (.tuple ds)) (k : ∀ D, D ∉ ows t → R.nx (t.set i (.lst D ds))) (hg : Gl X "list" := by rfl) (hs : swapsWith (.Call (.Name "list" p3) [e] [] p4) (some (.Name x p)) pos.line X.env = pure false := by rfl)
    (hst : starEach [e] X.env = (false, eval e X.env) :: starEach [] X.env := by rfl) (hf : X.fn x = true ∨ X.env.scope.names.lookup x = some .local := by first | exact .inl rfl | exact .inr rfl) : SD X (.Assign [.Name x p] (.Call (.Name "list" p3) [e] [] p4) pos) t R := fun N sg F H D S q =>
  use_s (ps_set hN hi hx (pe_callTy call_list_of hg hm (by decide +kernel) (pa_cons (pe_of X e) pa_nil hst) (by decide) (by decide) hst rfl) hs hf) (he N sg F H _ S fun v F1 H1 r1 S1 s1 d1 hr1 => by
    subst hr1
    cases d1 with
    | tup g a => exact ⟨_, _, rfl, .inr (SqT.of (S1.fh _ _ g)), fun l hl => by
        obtain ⟨h1, h2, h3⟩ := S1.new_ hl
        exact q.nx _ F1 _ _ (StO.own (s := .lst l ds) (S1.grow (Gr.lay S1.fh hl)) rfl h1 h3 ⟨rfl, h2, _, upd_same, a⟩) (k l h3)⟩)
/-- x.append(e) -/
theorem sd_app {ap cp : Pos} {nx : Pos} {a : Addr} {xs : List PyData} {Re : Dt → Prop} (i : Nat) (hN : X.N[i]? = some x) (hv : Vis X.env.scope x) (ht : t[i]? = some (.lst a xs)) (he : PM X e t Re) (hz : xs.length < sizeLine) (k : ∀ r, Re r → ∃ d, r = .d d ∧ R.nx (t.set i (.lst a (xs ++ [d]))))
    (hd : (x == ("__debug__" : Str)) = false := by decide) (hcd : (x == ("__classdict__" : Str)) = false := by decide) (hbase : attributeBase (.Name x nx) "append" X.env (eval (.Name x nx) X.env) = eval (.Name x nx) X.env := by rfl)
    (hfew : ((backTo cp (starEach (e :: []) X.env)).all (fun x => !x.1) && (backToKw cp (keywordEach [] X.env)).all (fun x => x.1.isSome) && decide ((e :: []).length + ([] : List Keyword).length + (if ([] : List Keyword).isEmpty then 0 else 1) < 30)) = true := by rfl)
    (hline : (ap.endLine == cp.line) = true := by rfl) (hs : starEach (e :: []) X.env = (false, eval e X.env) :: starEach [] X.env := by rfl) (hplain : (backTo cp (starEach [] X.env)).any (·.1) = false := by rfl) (hsw : swapsWith (.Call (.Attribute (.Name x nx) "append" ap) [e] [] cp) none pos.line X.env = pure false := by rfl) :
    SD X (.Expr (.Call (.Attribute (.Name x nx) "append" ap) [e] [] cp) pos) t R := fun N sg F H D S q => by
  refine use_s (ps_expr (pe_bm PySem.F.plainAttrs_list PySem.F.slot_list_append PySem.F.type_list_append mt_append (pe_var hN hv hd hcd) (pa_cons (pe_of X e) pa_nil hs) hbase hfew hline hs hplain) hsw) ?_
  obtain ⟨v0, g1, rfl, g2, vs, g3, g4⟩ := S.sl i _ ht
  refine ⟨_, g1, .inl ⟨rfl, _, SqL.of g3⟩, he N sg F H _ S fun v F1 H1 r1 S1 s1 d1 hr1 => ?_⟩
  obtain ⟨d, rfl, kk⟩ := k r1 hr1
  obtain ⟨v1, j1, j2, j3, ws, j4, j5⟩ := S1.sl i _ ht
  refine ⟨a, ws, v, rfl, rfl, j4, by rw [j5.len]; exact hz, ?_⟩
  refine q.nx sg F1 _ _ (S1.mut (s' := .lst a (xs ++ [d])) ht rfl rfl (Same.refl F1) (fun b o e => ?_) (fun b _ h => h) (fun b o z e => by rw [upd_ne z]; exact e) (by rw [upd_same]; intro z; cases z) fun v hv => ⟨hv.1, hv.2.1, _, upd_same, j5.app (.cons d1 .nil)⟩) kk
  rw [upd_ne (fun z => by rw [z, j3] at e; cases e)]
  exact S1.fh b o e
/-- d[k] = e, d of one's own -/
theorem sd_put {sp : Pos} {nx : Pos} {a : Addr} {ks : Kd} {ki : Expr} {j : Int} (i : Nat) (hu : X.A.units + 1 < cLine) (hN : X.N[i]? = some x) (hv : Vis X.env.scope x) (ht : t[i]? = some (.dct a ks)) (he : PD X e t d) (hk : PD X ki t (.int j)) (hz : ks.length < sizeLine) (k : R.nx (t.set i (.dct a (putP ks (.inl j) d))))
    (hs : swapsWith e (some (.Subscript (.Name x nx) ki sp)) pos.line X.env = pure false := by rfl) (hd : (x == ("__debug__" : Str)) = false := by decide) (hcd : (x == ("__classdict__" : Str)) = false := by decide) :
    SD X (.Assign [.Subscript (.Name x nx) ki sp] e pos) t R := fun N sg F H D S q => by
  refine use_s (ps_dput hu (pe_var hN hv hd hcd) (pe_of X ki) (pe_of X e) hs) (he N sg F H _ S fun v F1 H1 r1 S1 s1 d1 hr1 => ?_)
  subst hr1
  obtain ⟨v0, g1, rfl, _⟩ := S1.sl i _ ht
  refine ⟨_, g1, hk N sg F1 H1 _ S1 fun u F2 H2 r2 S2 s2 d2 hr2 => ?_⟩
  subst hr2
  cases d2
  obtain ⟨v1, j1, j2, j3, kvs, j4, j5⟩ := S2.sl i _ ht
  refine ⟨a, _, rfl, DPut.k (k := Sum.inl j) j4 (by rw [j5.len]; exact hz), ?_⟩
  refine q.nx sg F2 _ _ (S2.mut (s' := .dct a (putP ks (.inl j) d)) ht rfl rfl (Same.refl F2) (fun b o e => ?_) (fun b _ h => h) (fun b o z e => by rw [upd_ne z]; exact e) (by rw [upd_same]; intro z; cases z) fun v hv => ⟨hv.1, hv.2.1, _, upd_same, j5.put (d1.up s2)⟩) k
  rw [upd_ne (fun z => by rw [z, j3] at e; cases e)]
  exact S2.fh b o e
/-- tuple(x), x a list of one's own -/
theorem tupO {nx cp tp : Pos} {a : Addr} {xs : List PyData} (i : Nat) (ht : t[i]? = some (.lst a xs)) (hm : X.mg "tuple" = none) (hN : X.N[i]? = some x := by rfl) (hv : Vis X.env.scope x := by first | exact Or.inl rfl | exact Or.inr (Or.inl rfl) | exact Or.inr (Or.inr rfl)) (hg : Gl X "tuple" := by rfl)
    (hd : (x == ("__debug__" : Str)) = false := by decide) (hcd : (x == ("__classdict__" : Str)) = false := by decide) (hst : starEach [.Name x nx] X.env = (false, eval (.Name x nx) X.env) :: starEach [] X.env := by rfl) : PD X (.Call (.Name "tuple" tp) [.Name x nx] [] cp) t (.tuple xs) := fun N sg F H Q S q => by
  refine use_e (pe_callTy call_tuple_of hg hm (by decide +kernel) (pa_cons (pe_var hN hv hd hcd) pa_nil hst) (by decide) (by decide) hst rfl) ?_
  obtain ⟨v0, g1, rfl, g2, vs, g3, g4⟩ := S.sl i _ ht
  exact ⟨_, g1, a, vs, rfl, .inl ⟨SqL.of g3, fun l hl => q _ _ _ (.d _) (S.grow (Gr.new S.fh hl)) (same_new (S.fh.free hl)) (Dq.tup upd_same (g4.up (same_new (S.fh.free hl)))) rfl⟩⟩
/-- x[i], x a list of one's own -/
theorem ixO {nx sp : Pos} {a : Addr} {xs : List PyData} {ki : Expr} {j : Int} (i : Nat) (ht : t[i]? = some (.lst a xs)) (hk : PD X ki t (.int j)) (hj : atI xs j = some d) (hN : X.N[i]? = some x := by rfl) (hv : Vis X.env.scope x := by first | exact Or.inl rfl | exact Or.inr (Or.inl rfl) | exact Or.inr (Or.inr rfl))
    (hd : (x == ("__debug__" : Str)) = false := by decide) (hcd : (x == ("__classdict__" : Str)) = false := by decide) (hs : PlainIx ki := by exact fun _ _ => rfl) : PD X (.Subscript (.Name x nx) ki sp) t d := fun N sg F H Q S q => by
  refine use_e (pe_ix ix_list (pe_var hN hv hd hcd) (pe_of X ki) hs) ?_
  obtain ⟨v0, g1, rfl, g2, _⟩ := S.sl i _ ht
  refine ⟨_, g1, hk N sg F H _ S fun u F1 H1 r1 S1 s1 d1 hr1 => ?_⟩
  subst hr1
  cases d1
  obtain ⟨v1, j1, j2, j3, ws, j4, j5⟩ := S1.sl i _ ht
  obtain ⟨w, hw, hd⟩ := atI_dq j5 hj
  exact ⟨a, ws, j, w, rfl, rfl, SqL.of j4, hw, q w F1 H1 (.d d) S1 s1 hd rfl⟩
/-- len(x), x a list, a dict of one's own -/
theorem lenO {nx cp tp : Pos} {a : Addr} {xs : List PyData} (i : Nat) (ht : t[i]? = some (.lst a xs)) (hm : X.mg "len" = none) (hN : X.N[i]? = some x := by rfl) (hv : Vis X.env.scope x := by first | exact Or.inl rfl | exact Or.inr (Or.inl rfl) | exact Or.inr (Or.inr rfl)) (hg : Gl X "len" := by rfl)
    (hd : (x == ("__debug__" : Str)) = false := by decide) (hcd : (x == ("__classdict__" : Str)) = false := by decide) (hst : starEach [.Name x nx] X.env = (false, eval (.Name x nx) X.env) :: starEach [] X.env := by rfl) : PD X (.Call (.Name "len" tp) [.Name x nx] [] cp) t (.int xs.length) := fun N sg F H Q S q => by
  refine use_e (pe_callB call_len_seq hg hm PySem.boot_len (pa_cons (pe_var hN hv hd hcd) pa_nil hst) (by decide) (by decide) hst rfl) ?_
  obtain ⟨v0, g1, rfl, g2, vs, g3, g4⟩ := S.sl i _ ht
  exact ⟨_, g1, a, vs, rfl, .inl (SqL.of g3), by rw [g4.len]; exact q _ F H (.d _) S (Same.refl F) (Dq.int _) rfl⟩
theorem lenOD {nx cp tp : Pos} {a : Addr} {ks : Kd} (i : Nat) (ht : t[i]? = some (.dct a ks)) (hm : X.mg "len" = none) (hN : X.N[i]? = some x := by rfl) (hv : Vis X.env.scope x := by first | exact Or.inl rfl | exact Or.inr (Or.inl rfl) | exact Or.inr (Or.inr rfl)) (hg : Gl X "len" := by rfl)
    (hd : (x == ("__debug__" : Str)) = false := by decide) (hcd : (x == ("__classdict__" : Str)) = false := by decide) (hst : starEach [.Name x nx] X.env = (false, eval (.Name x nx) X.env) :: starEach [] X.env := by rfl) : PD X (.Call (.Name "len" tp) [.Name x nx] [] cp) t (.int ks.length) := fun N sg F H Q S q => by
  refine use_e (pe_callB call_lenD hg hm PySem.boot_len (pa_cons (pe_var hN hv hd hcd) pa_nil hst) (by decide) (by decide) hst rfl) ?_
  obtain ⟨v0, g1, rfl, g2, vs, g3, g4⟩ := S.sl i _ ht
  exact ⟨_, g1, a, vs, rfl, g3, by rw [g4.len]; exact q _ F H (.d _) S (Same.refl F) (Dq.int _) rfl⟩
/-- k in d, k not in d -/
theorem inO {nx cp : Pos} {a : Addr} {ks : Kd} {ki : Expr} {j : Int} (i : Nat) (hu : X.A.units + 1 < cLine) (ht : t[i]? = some (.dct a ks)) (hk : PD X ki t (.int j)) (hN : X.N[i]? = some x := by rfl) (hv : Vis X.env.scope x := by first | exact Or.inl rfl | exact Or.inr (Or.inl rfl) | exact Or.inr (Or.inr rfl))
    (hd : (x == ("__debug__" : Str)) = false := by decide) (hcd : (x == ("__classdict__" : Str)) = false := by decide) (hb : behindInMarks .In (.Name x nx) = false := by rfl) : PD X (.Compare ki [.In] [.Name x nx] cp) t (.bool (valP ks (.inl j)).isSome) := fun N sg F H Q S q => by
  refine use_e (pe_cmp (pc_din hu (pe_of X ki) (pe_var hN hv hd hcd)) hb) (hk N sg F H _ S fun u F1 H1 r1 S1 s1 d1 hr1 => ?_)
  subst hr1
  cases d1
  obtain ⟨v1, j1, rfl, j3, ws, j4, j5⟩ := S1.sl i _ ht
  refine ⟨_, j1, a, _, rfl, DGet.k (k := Sum.inl j) j4, ?_⟩
  have e : (valV ws (.inl j)).isSome = (valP ks (.inl j)).isSome := by
    rcases KvR.val j5 (.inl j) with ⟨h1, h2⟩ | ⟨v, d, h1, h2, _⟩ <;> (rw [h1, h2]; rfl)
  rw [e]
  exact q _ F1 H1 (.d _) S1 s1 (Dq.bl _) rfl
theorem ninO {nx cp : Pos} {a : Addr} {ks : Kd} {ki : Expr} {j : Int} (i : Nat) (hu : X.A.units + 1 < cLine) (ht : t[i]? = some (.dct a ks)) (hk : PD X ki t (.int j)) (hN : X.N[i]? = some x := by rfl) (hv : Vis X.env.scope x := by first | exact Or.inl rfl | exact Or.inr (Or.inl rfl) | exact Or.inr (Or.inr rfl))
    (hd : (x == ("__debug__" : Str)) = false := by decide) (hcd : (x == ("__classdict__" : Str)) = false := by decide) (hb : behindInMarks .NotIn (.Name x nx) = false := by rfl) : PD X (.Compare ki [.NotIn] [.Name x nx] cp) t (.bool (!(valP ks (.inl j)).isSome)) := fun N sg F H Q S q => by
  refine use_e (pe_cmp (pc_dnotin hu (pe_of X ki) (pe_var hN hv hd hcd)) hb) (hk N sg F H _ S fun u F1 H1 r1 S1 s1 d1 hr1 => ?_)
  subst hr1
  cases d1
  obtain ⟨v1, j1, rfl, j3, ws, j4, j5⟩ := S1.sl i _ ht
  refine ⟨_, j1, a, _, rfl, DGet.k (k := Sum.inl j) j4, ?_⟩
  have e : (valV ws (.inl j)).isSome = (valP ks (.inl j)).isSome := by
    rcases KvR.val j5 (.inl j) with ⟨h1, h2⟩ | ⟨v, d, h1, h2, _⟩ <;> (rw [h1, h2]; rfl)
  rw [e]
  exact q _ F1 H1 (.d _) S1 s1 (Dq.bl _) rfl
theorem ninOT {nx cp : Pos} {a : Addr} {ks : Kd} {ki : Expr} {j : Int} (i : Nat) (hu : X.A.units + 1 < cLine) (ht : t[i]? = some (.dct a ks)) (hk : PD X ki t (.int j)) (hN : X.N[i]? = some x := by rfl) (hv : Vis X.env.scope x := by first | exact Or.inl rfl | exact Or.inr (Or.inl rfl) | exact Or.inr (Or.inr rfl))
    (hd : (x == ("__debug__" : Str)) = false := by decide) (hcd : (x == ("__classdict__" : Str)) = false := by decide) (hb : behindInMarks .NotIn (.Name x nx) = false := by rfl) : PDT X (.Compare ki [.NotIn] [.Name x nx] cp) t (!(valP ks (.inl j)).isSome) := fun N sg F H Q S q => by
  refine use_t (pt_cmp (pc_dnotin hu (pe_of X ki) (pe_var hN hv hd hcd)) hb) (hk N sg F H _ S fun u F1 H1 r1 S1 s1 d1 hr1 => ?_)
  subst hr1
  cases d1
  obtain ⟨v1, j1, rfl, j3, ws, j4, j5⟩ := S1.sl i _ ht
  refine ⟨_, j1, a, _, rfl, DGet.k (k := Sum.inl j) j4, _, rfl, ?_⟩
  have e : (valV ws (.inl j)).isSome = (valP ks (.inl j)).isSome := by
    rcases KvR.val j5 (.inl j) with ⟨h1, h2⟩ | ⟨v, d, h1, h2, _⟩ <;> (rw [h1, h2]; rfl)
  exact q _ F1 H1 S1 s1 (by rw [e])
/-- d[k] of a dict of one's own -/
theorem getO {nx sp : Pos} {a : Addr} {ks : Kd} {ki : Expr} {j : Int} (i : Nat) (hu : X.A.units + 1 < cLine) (ht : t[i]? = some (.dct a ks)) (hk : PD X ki t (.int j)) (hj : valP ks (.inl j) = some d) (hN : X.N[i]? = some x := by rfl) (hv : Vis X.env.scope x := by first | exact Or.inl rfl | exact Or.inr (Or.inl rfl) | exact Or.inr (Or.inr rfl))
    (hd : (x == ("__debug__" : Str)) = false := by decide) (hcd : (x == ("__classdict__" : Str)) = false := by decide) (hs : NoSl ki := by exact fun _ _ => rfl) : PD X (.Subscript (.Name x nx) ki sp) t d := fun N sg F H Q S q => by
  refine use_e (pe_dget hu (pe_var hN hv hd hcd) (pe_of X ki) hs) ?_
  obtain ⟨v0, g1, rfl, g2, _⟩ := S.sl i _ ht
  refine ⟨_, g1, hk N sg F H _ S fun u F1 H1 r1 S1 s1 d1 hr1 => ?_⟩
  subst hr1
  cases d1
  obtain ⟨v1, j1, _, j3, ws, j4, j5⟩ := S1.sl i _ ht
  rcases KvR.val j5 (.inl j) with ⟨h1, h2⟩ | ⟨v, d', h1, h2, h3⟩
  · rw [hj] at h2; cases h2
  · rw [hj] at h2
    cases h2
    exact ⟨a, v, rfl, by have g := DGet.k (k := Sum.inl j) j4; rw [h1] at g; exact g, q v F1 H1 (.d d) S1 s1 h3 rfl⟩
end
/-! ### dict comprehensions by int keys -/
theorem dc_read {A : Type} {t : Ty} {ds : List A} {enc : A → PyData} {wi : TI} {g : TG} {tt : TT} {tk te : TE} {ws : List Nat} {bs : A → List (Nat × PyData)} {c : A → Bool} {key : A → Int} {val : A → PyData}
    (hw : ∀ (N : En) (sg : St) (F H : Hp) (R : It → Hp → Prop), StO N F H sg t → (∀ J F1 H1, StO N F1 H1 sg t → Same F F1 → WkD J F1 (ds.map enc) → R J H1) → wi sg H R)
    (ht : ∀ d ∈ ds, TgS g (enc d) (bs d)) (hb : ∀ d ∈ ds, ∀ p ∈ bs d, p.1 ∈ ws) (hno : ∀ j ∈ ws, t[j]? = some .no)
    (htt : ∀ d ∈ ds, ∀ (N : En) (sg : St) (F H : Hp) (Q : Bool → Hp → Prop), StO N F H sg (setsT t (bs d)) → (∀ b F' H', StO N F' H' sg (setsT t (bs d)) → Same F F' → b = c d → Q b H') → tt sg H Q)
    (htk : ∀ d ∈ ds, c d = true → ∀ (N : En) (sg : St) (F H : Hp) (Q : VK), StO N F H sg (setsT t (bs d)) → (∀ v F' H' r, StO N F' H' sg (setsT t (bs d)) → Same F F' → DtR F' v r → r = .d (.int (key d)) → Q v H') → tk sg H Q)
    (hte : ∀ d ∈ ds, c d = true → ∀ (N : En) (sg : St) (F H : Hp) (Q : VK), StO N F H sg (setsT t (bs d)) → (∀ v F' H' r, StO N F' H' sg (setsT t (bs d)) → Same F F' → DtR F' v r → r = .d (val d) → Q v H') → te sg H Q)
    (hnd : ((ds.filter c).map key).Nodup) (hz : ds.length < sizeLine) {N : En} {sg : St} {F H : Hp} {Q : VK} (S : StO N F H sg t)
    (k : ∀ D F' H' kvs, StO N F' H' sg t → Same F F' → N.H D = none → F' D = none → D ∉ ows t → H' D = some (.dK kvs) → KvR F' kvs ((ds.filter c).map fun a => (Sum.inl (key a), val a)) → Q (.ref D) H') : tDc wi g tt tk te ws sg H Q := by
  refine hw N sg F H _ S fun J F1 H1 S1 s1 W D hD => ?_
  obtain ⟨nD, fD, oD⟩ := S1.new_ hD
  refine ⟨fun i m H' => m = ds.length - i ∧ i ≤ ds.length ∧ ∃ F2 kvs, StO N F2 H' sg t ∧ Same F1 F2 ∧ F2 D = none ∧ H' D = some (.dK kvs) ∧ KvR F2 kvs (((ds.take i).filter c).map fun a => (Sum.inl (key a), val a)),
    ⟨_, rfl, Nat.zero_le _, F1, [], S1.updAt nD fD oD, Same.refl F1, fD, upd_same, .nil⟩, ?_⟩
  rintro i m H2 ⟨rfl, hil, F2, kvs, S2, s2, f2, h2, d2⟩
  by_cases hlt : i < ds.length
  · refine .inr ⟨W.go i H2 (by rw [List.length_map]; exact hlt) (s2.trans S2.fh), fun H' => i + 1 ≤ ds.length ∧ ∃ F' kvs', StO N F' H' sg t ∧ Same F1 F' ∧ F' D = none ∧ H' D = some (.dK kvs') ∧ KvR F' kvs' (((ds.take (i + 1)).filter c).map fun a => (Sum.inl (key a), val a)), fun H' p' => ⟨ds.length - (i + 1), by omega, rfl, p'.1, p'.2⟩, fun x H3 y => ?_⟩
    obtain ⟨F3, d0, g3, hd0, dq3⟩ := W.yld i H2 x H3 (by rw [List.length_map]; exact hlt) (s2.trans S2.fh) y F2 s2 S2.fh
    obtain ⟨d, hd3, ed3⟩ : ∃ d, ds[i]? = some d ∧ enc d = d0 := by
      rw [List.getElem?_map] at hd0
      obtain ⟨b, hb, eb⟩ := Option.map_eq_some_iff.mp hd0
      exact ⟨b, hb, eb⟩
    subst ed3
    have hm := List.mem_of_getElem? hd3
    have S3 := S2.grow g3
    have f3 : F3 D = none := g3.nf D (by rw [h2]; intro z; cases z) f2
    have h3 : H3 D = some (.dK kvs) := g3.hh _ _ h2
    have S3w := S3.wipe hno
    refine ht d hm F3 H3 x _ _ S3w.fh dq3 fun qs hq => ?_
    have hqs : ∀ q ∈ qs, q.1 ∈ ws := by
      intro q hq'
      have gg : ∀ {qs : List (Nat × V)} {ps : List (Nat × PyData)}, Bnd F3 qs ps → ∀ q ∈ qs, ∃ p ∈ ps, q.1 = p.1 := by
        intro qs ps h
        induction h with
        | nil => intro q hq; cases hq
        | cons h1 h2 ih =>
          intro q hq
          rcases List.mem_cons.mp hq with e | e
          · subst e; exact ⟨_, List.mem_cons_self, h1.1⟩
          · obtain ⟨p, hp, e2⟩ := ih q e; exact ⟨p, List.mem_cons_of_mem _ hp, e2⟩
      obtain ⟨p, hp, e⟩ := gg hq q hq'
      rw [e]
      exact hb d hm p hp
    refine ⟨by rw [wipe_sets qs _ hqs, wipe_wipe], ?_⟩
    have S4 := S3w.sets hq
    have B4 := S4.base
    have oo : D ∉ ows (setsT t (bs d)) := by
      have sub : ∀ (ps : List (Nat × PyData)) (u : Ty), D ∉ ows u → D ∉ ows (setsT u ps) := by
        intro ps
        induction ps with
        | nil => intro u h; exact h
        | cons p ps ih => intro u h; exact ih _ fun z => h (ows_set_sub rfl z)
      exact sub _ _ oD
    have fin : ∀ {F' H' : Hp}, StO (here F3 H3 (setsT t (bs d))) F' H' (setsV (L2.wipe sg ws) qs) (setsT t (bs d)) → StO N F' H' sg t ∧ Same F3 F' ∧ F' D = none ∧ H' D = some (.dK kvs) := fun {F' H'} S5 => by
      have a1 : H' D = some (.dK kvs) := S5.un D _ h3 oo
      have a2 : F' D = none := S5.nf D (by show H3 D ≠ none; rw [h3]; intro z; cases z) f3
      have S6 := S4.back S5
      refine ⟨StO.unwipe (ws := ws) ⟨by rw [wipe_length]; exact S.ln, S6.fh, S6.f0, S6.nf, S6.un, S6.th, fun j s hj => ?_, S.ow, S.ap⟩ hno, S5.f0, a2, a1⟩
      have other : ∀ (ps : List (Nat × PyData)) (u : Ty), j ∉ ps.map (·.1) → (setsT u ps)[j]? = u[j]? := by
        intro ps
        induction ps with
        | nil => intro u _; rfl
        | cons p ps ih =>
          intro u hn
          have h1 : p.1 ≠ j := fun z => hn (by rw [List.map_cons]; exact List.mem_cons.mpr (.inl z.symm))
          show (setsT (u.set p.1 (.v (.d p.2))) ps)[j]? = _
          rw [ih _ (fun z => hn (by rw [List.map_cons]; exact List.mem_cons_of_mem _ z)), List.getElem?_set_ne h1]
      have otherV : ∀ (ps : List (Nat × V)) (u : St), j ∉ ps.map (·.1) → (setsV u ps)[j]? = u[j]? := by
        intro ps
        induction ps with
        | nil => intro u _; rfl
        | cons p ps ih =>
          intro u hn
          have h1 : p.1 ≠ j := fun z => hn (by rw [List.map_cons]; exact List.mem_cons.mpr (.inl z.symm))
          show (setsV (u.set p.1 (some p.2)) ps)[j]? = _
          rw [ih _ (fun z => hn (by rw [List.map_cons]; exact List.mem_cons_of_mem _ z)), List.getElem?_set_ne h1]
      by_cases hj' : j ∈ ws
      · rw [hno j hj'] at hj
        cases hj
        have hl : j < (L2.wipe sg ws).length := by
          rw [wipe_length, S.ln]
          exact (List.getElem?_eq_some_iff.mp (hno j hj')).1
        exact ⟨(L2.wipe sg ws)[j]'hl, List.getElem?_eq_getElem hl, trivial⟩
      · have n1 : j ∉ (bs d).map (·.1) := fun z => by
          obtain ⟨p, hp, e⟩ := List.mem_map.mp z
          exact hj' (e ▸ hb d hm p hp)
        have n2 : j ∉ qs.map (·.1) := fun z => by
          obtain ⟨p, hp, e⟩ := List.mem_map.mp z
          exact hj' (e ▸ hqs p hp)
        obtain ⟨v, g1, g2⟩ := S6.sl j s (by rw [other _ _ n1]; exact hj)
        rw [otherV _ _ n2] at g1
        exact ⟨v, g1, g2⟩
    refine htt d hm _ _ F3 H3 _ B4 fun b F5 H5 S5 s5 hb5 => ?_
    subst hb5
    cases hcd : c d with
    | false =>
      rw [if_neg Bool.false_ne_true]
      obtain ⟨q1, q2, q3, q4⟩ := fin S5
      refine ⟨hlt, F5, kvs, q1, (s2.trans g3.ff).trans q2, q3, q4, ?_⟩
      rw [take_succ hd3, List.filter_append, show List.filter c [d] = [] from by simp [hcd], List.append_nil]
      exact d2.up (g3.ff.trans q2)
    | true =>
      rw [if_pos rfl]
      refine htk d hm hcd _ _ F5 H5 _ S5 fun u F6 H6 r6 S6 s6 du er6 => ?_
      subst er6
      cases du
      refine hte d hm hcd _ _ F6 H6 _ S6 fun v F7 H7 r7 S7 s7 dv er7 => ?_
      subst er7
      obtain ⟨q1, q2, q3, q4⟩ := fin S7
      have kr := d2.up (g3.ff.trans q2)
      have kl : kvs.length ≤ ds.length := by
        rw [kr.len, List.length_map]
        refine Nat.le_trans (List.length_filter_le _ _) ?_
        rw [List.length_take]
        omega
      have fresh : valV kvs (Sum.inl (key d) : Key) = none := by
        apply valV_none
        rw [kr.fst, List.map_map]
        intro z
        obtain ⟨a, ha, ea⟩ := List.mem_map.mp z
        have ea' : key a = key d := Sum.inl.inj ea
        have split : ds.filter c = (ds.take i).filter c ++ d :: (ds.drop (i + 1)).filter c := by
          have e1 : ds = ds.take i ++ d :: ds.drop (i + 1) := by
            obtain ⟨hi2, e2⟩ := List.getElem?_eq_some_iff.mp hd3
            conv => lhs; rw [← List.take_append_drop i ds, List.drop_eq_getElem_cons hi2, e2]
          conv => lhs; rw [e1, List.filter_append, List.filter_cons, if_pos hcd]
        rw [split, List.map_append, List.map_cons] at hnd
        have dis := (List.nodup_append.mp hnd).2.2
        exact dis _ (List.mem_map.mpr ⟨a, ha, rfl⟩) _ (by rw [ea']; exact List.mem_cons_self) rfl
      refine ⟨kvs, Sum.inl (key d), rfl, q4, Nat.lt_of_le_of_lt kl hz, hlt, F7, putK kvs (Sum.inl (key d)) v, q1.updAt nD q3 oD, (s2.trans g3.ff).trans q2, q3, upd_same, ?_⟩
      rw [putK_new v fresh, take_succ hd3, List.filter_append, show List.filter c [d] = [d] from by simp [hcd], List.map_append]
      exact Pd.app kr (.cons ⟨rfl, dv⟩ .nil)
  · have ei : i = ds.length := by omega
    subst ei
    refine .inl ⟨by have q := W.stop H2 (s2.trans S2.fh); rw [List.length_map] at q; exact q, ?_⟩
    rw [List.take_length] at d2
    exact k D F2 H2 kvs S2 (s1.trans s2) nD f2 oD h2 d2
/-- name = {..} on one line, the name a local -/
theorem ps_setDc {X : Cx} {i : Nat} {y : Str} {py : Pos} {kx vx tg it : Expr} {ifs : List Expr} {scope : Scope} {own : List (Str × Nat)} {pos spos : Pos} {wi : TI} {g : TG} {tt : TT} {tk te : TE} (hc : X.calm = true) (hN : X.N.Nodup) (hy : X.N[i]? = some y) (hyl : X.env.scope.names.lookup y = some .local)
    (hsw : swapsWith (.DictComp kx vx [⟨tg, it, ifs, 0⟩] scope pos) (some (.Name y py)) spos.line X.env = pure true) (hi : PI X tg it wi) (ok : BlkOk X.N X.env.scope scope own) (hg : PGB X scope tg g)
    (ht : ∀ (s : Shared) (H : Hp) (C : Addr) (cl : List (Str × Addr)) (fp : List Addr), PTs (X.blk s H scope (compEnvC scope cl C X.env) fp) ifs tt)
    (hk : ∀ (s : Shared) (H : Hp) (C : Addr) (cl : List (Str × Addr)) (fp : List Addr), PE (X.blk s H scope (compEnvC scope cl C X.env) fp) kx tk)
    (he : ∀ (s : Shared) (H : Hp) (C : Addr) (cl : List (Str × Addr)) (fp : List Addr), PE (X.blk s H scope (compEnvC scope cl C X.env) fp) vx te) (hs : ∀ x, foldedSetIterable it X.env x = pure x := by intro _; rfl) :
    PS X (.Assign [.Name y py] (.DictComp kx vx [⟨tg, it, ifs, 0⟩] scope pos) spos) (tAsg (tDc wi g tt tk te (own.map (·.2))) (gName i)) := by
  refine ⟨fun pins s sg H D I h => ?_⟩
  rw [exec_Assign_Name_used _ _ _ _ hsw]
  have h : tDc wi g tt tk te (own.map (·.2)) sg H (fun x H1 => gName i x sg H1 D.nx) := h
  refine wpAny_bind (wpAny_standAt (wpAny_bind ?_))
  show wpAny _ X.A (do let _ ← comprehension (.DictComp kx vx [⟨tg, it, ifs, 0⟩] scope pos) scope X.env (firstIterPos [⟨tg, it, ifs, 0⟩] pos) newDict false (eval it X.env) (some (assign (.Name y py) X.env))) _ _ s
  refine wpAny_bind (thn (dc_core (Qf := fun _ s' => SP X pins D .next s') hc hN I hi ok hg ht hk he hs h fun L C s' m H' I' q hn f => ?_) fun _ s' hq => wpAny_pure (wpAny_pure hq))
  obtain ⟨f0, f1, f2, f3, f4, f5⟩ := f
  show wpAny _ _ (assign (.Name y py) X.env (.ref L)) _ _ _
  refine wpAny_assign_Name (store_ok2 (v := V.ref L) I' hN hy (.inl hyl) rfl (fun s2 I2 ⟨a, sb, ha⟩ => ?_) (.inr hyl))
  have apart : C ≠ a := by
    rcases ha with z | z
    · rw [z]; exact f1
    · exact fun e => f4 y a z e.symm
  exact ⟨m, hn.sameBut sb apart, fun h3 sb3 => ⟨_, H', I2.turned (t' := s2.toks) (fun b o hb e => (sb3.2 b hb).trans e) f0 f1 f3 f4 f5, q⟩⟩
section
variable {A : Type} {X : Cx} {kx vx tg it : Expr} {scope : Scope} {own : List (Str × Nat)} {pos spos : Pos} {t : Ty} {ds : List A} {enc : A → PyData} {g : TG} {bs : A → List (Nat × PyData)} {key : A → Int} {val : A → PyData} {R : Po} {y : Str} {py : Pos}
/-- y = {kx: vx for tg in it} -/
theorem sd_dc0 (i : Nat) (hc : X.calm = true) (hN : X.N.Nodup) (hy : X.N[i]? = some y) (hyl : X.env.scope.names.lookup y = some .local) (hsw : swapsWith (.DictComp kx vx [⟨tg, it, [], 0⟩] scope pos) (some (.Name y py)) spos.line X.env = pure true)
    (hi : ItD X tg it t (ds.map enc)) (ok : BlkOk X.N X.env.scope scope own) (hg : PGB X scope tg g) (ht : ∀ d ∈ ds, TgS g (enc d) (bs d)) (hb : ∀ d ∈ ds, ∀ p ∈ bs d, p.1 ∈ own.map (·.2)) (hno : ∀ j ∈ own.map (·.2), t[j]? = some .no)
    (hk : ∀ d ∈ ds, PMB X scope kx (setsT t (bs d)) (fun r => r = .d (.int (key d)))) (he : ∀ d ∈ ds, PMB X scope vx (setsT t (bs d)) (fun r => r = .d (val d))) (hnd : (ds.map key).Nodup) (hz : ds.length < sizeLine)
    (k : ∀ D, D ∉ ows t → R.nx (t.set i (.dct D (ds.map fun a => (Sum.inl (key a), val a))))) (hs : ∀ x, foldedSetIterable it X.env x = pure x := by intro _; rfl) : SD X (.Assign [.Name y py] (.DictComp kx vx [⟨tg, it, [], 0⟩] scope pos) spos) t R := fun N sg F H D S q => by
  obtain ⟨wi, hpi, hw⟩ := hi
  refine use_s (ps_setDc (tt := tYes) (tk := teB X scope kx) (te := teB X scope vx) hc hN hy hyl hsw hpi ok hg (fun _ _ _ _ _ => pts_nil) (fun s H0 C cl fp => ⟨fun pins s' sg H Q I h => (by first | exact te_at (h s H0 C cl fp) pins s' I | exact tt_at (h s H0 C cl fp) pins s' I)⟩) (fun s H0 C cl fp => ⟨fun pins s' sg H Q I h => (by first | exact te_at (h s H0 C cl fp) pins s' I | exact tt_at (h s H0 C cl fp) pins s' I)⟩) hs) ?_
  refine dc_read (c := fun _ => true) (key := key) (val := val) hw ht hb hno (fun d hd N sg F H Q S q => q true F H S (Same.refl F) rfl) (fun d hd _ N sg F H Q S q s H0 C cl fp => hk d hd s H0 C cl fp N sg F H Q S q) (fun d hd _ N sg F H Q S q s H0 C cl fp => he d hd s H0 C cl fp N sg F H Q S q)
    (by rw [filter_true]; exact hnd) hz S fun Dd F' H' kvs S' s' nD fD oD hD kr => ?_
  rw [filter_true] at kr
  exact q.nx _ F' H' _ (StO.own (s := .dct Dd _) S' rfl nD oD ⟨rfl, fD, kvs, hD, kr⟩) (k Dd oD)
end
section
variable {X : Cx} {t : Ty} {x : Str}
/-- sorted(d), d of one's own, its keys in order already -/
theorem sortO {nx cp tp : Pos} {a : Addr} {ks : Kd} {ns : List Int} (i : Nat) (ht : t[i]? = some (.dct a ks)) (hm : X.mg "sorted" = none) (hc : X.calm = true) (hk : ks.map (·.1) = ns.map Sum.inl) (hu : ∀ ys : List Int, ys.Perm ns → ys.Pairwise (· ≤ ·) → ys = ns) (h64 : ns.length < 64)
    (hN : X.N[i]? = some x := by rfl) (hv : Vis X.env.scope x := by first | exact Or.inl rfl | exact Or.inr (Or.inl rfl) | exact Or.inr (Or.inr rfl)) (hg : Gl X "sorted" := by rfl)
    (hd : (x == ("__debug__" : Str)) = false := by decide) (hcd : (x == ("__classdict__" : Str)) = false := by decide) (hst : starEach [.Name x nx] X.env = (false, eval (.Name x nx) X.env) :: starEach [] X.env := by rfl) : PD X (.Call (.Name "sorted" tp) [.Name x nx] [] cp) t (.list (ns.map PyData.int)) := fun N sg F H Q S q => by
  refine use_e (pe_callB (call_sortedDI hc) hg hm (by decide +kernel) (pa_cons (pe_var hN hv hd hcd) pa_nil hst) (by decide) (by decide) hst rfl) ?_
  obtain ⟨v0, g1, rfl, g2, kvs, g3, g4⟩ := S.sl i _ ht
  refine ⟨_, g1, a, kvs, ns, rfl, .inl g3, by rw [KvR.fst g4]; exact hk, h64, fun ys p hp hs hl => ?_⟩
  rw [hu ys hp hs]
  exact q _ _ _ (.d _) (S.grow (Gr.new S.fh hl)) (same_new (S.fh.free hl)) (Dq.lst upd_same (DqA.ofInts ns)) rfl
end
end Fw

-- part FwObj
set_option Elab.async false
set_option maxRecDepth 100000
set_option maxHeartbeats 4000000
set_option linter.all false
namespace Fw
open PySem PySem.Spec PyProof.Rows L2
/-- something that is in no slot has changed -/
theorem StO.but {N : En} {F H F' H' : Hp} {sg : St} {t : Ty} {x : Addr} (S : StO N F H sg t) (hn : N.H x = none) (ho : x ∉ ows t) (ff : Same F F') (fh : Same F' H') (nf : ∀ a, H a ≠ none → F a = none → F' a = none) (un : ∀ a o, a ≠ x → H a = some o → H' a = some o) : StO N F' H' sg t := by
  refine ⟨S.ln, fh, S.f0.trans ff, fun a h1 h2 => nf a (S.th a h1) (S.nf a h1 h2), fun a o h1 h2 => un a o (fun z => by rw [z, hn] at h1; cases h1) (S.un a o h1 h2), fun a h => ?_, fun i s hi => ?_, S.ow, S.ap⟩
  · have q := S.th a h
    intro w
    cases e : H a with
    | none => exact q e
    | some o => rw [un a o (fun z => h (by rw [z]; exact hn)) e] at w; cases w
  · obtain ⟨v, h1, h2⟩ := S.sl i s hi
    refine ⟨v, h1, ?_⟩
    have na : ∀ a, s.ad = some a → a ≠ x := fun a ha z => ho (z ▸ ows_mem hi ha)
    cases s with
    | no => trivial
    | v r => obtain ⟨y, g1, g2⟩ := h2; exact ⟨y, g1, g2.up ff⟩
    | lst a xs => obtain ⟨g1, g2, vs, g3, g4⟩ := h2; exact ⟨g1, nf a (by rw [g3]; intro z; cases z) g2, vs, un a _ (na a rfl) g3, g4.up ff⟩
    | dct a xs => obtain ⟨g1, g2, vs, g3, g4⟩ := h2; exact ⟨g1, nf a (by rw [g3]; intro z; cases z) g2, vs, un a _ (na a rfl) g3, g4.up ff⟩
    | hand a => obtain ⟨g1, g2, vs, hs, g3, g4, g5⟩ := h2; exact ⟨g1, nf a (by rw [g3]; intro z; cases z) g2, vs, hs, un a _ (na a rfl) g3, g4.up ff, g5⟩
    | rf a => exact h2
    | ins a C dx fs => obtain ⟨g1, g2, vs, g3, g4⟩ := h2; exact ⟨g1, nf a (by rw [g3]; intro z; cases z) g2, vs, un a _ (na a rfl) g3, g4.up ff⟩
    | obj a C dx vs => obtain ⟨g1, g2, g3⟩ := h2; exact ⟨g1, nf a (by rw [g3]; intro z; cases z) g2, un a _ (na a rfl) g3⟩
    | gd a ks => obtain ⟨g2, vs, g3, g4⟩ := h2; exact ⟨nf a (by rw [g3]; intro z; cases z) g2, vs, un a _ (na a rfl) g3, g4.up ff⟩
    | xt a S ks => obtain ⟨g1, g2, o, vs, g3, g4, g5⟩ := h2; exact ⟨g1, nf a (by rw [g3]; intro z; cases z) g2, o, vs, un a _ (na a rfl) g3, g4, g5.up ff⟩
theorem StO.cons_ {N : En} {F H : Hp} {sg : St} {t : Ty} {v : Option V} {s : Sl} (S : StO N F H sg t) (e : s.ad = none) (h : SlK F H v s) : StO N F H (v :: sg) (s :: t) := by
  have ew : ows (s :: t) = ows t := by
    show List.filterMap Sl.ad (s :: t) = _
    rw [List.filterMap_cons, e]; rfl
  refine ⟨by rw [List.length_cons, List.length_cons, S.ln], S.fh, S.f0, S.nf, S.un, S.th, fun i u hi => ?_, fun a ha => S.ow a (by rwa [ew] at ha), by rw [ew]; exact S.ap⟩
  cases i with
  | zero =>
    have q : s = u := by simpa using hi
    subst q
    exact ⟨v, rfl, h⟩
  | succ i =>
    obtain ⟨v', h1, h2⟩ := S.sl i u (by simpa using hi)
    exact ⟨v', by simpa using h1, h2⟩
/-! ### an instance of one's own -/
def putFP (f : Str) (v : PyData) : List (Str × PyData) → List (Str × PyData)
  | [] => [(f, v)]
  | p :: r => if p.1 = f then (f, v) :: r else p :: putFP f v r
theorem FsR.put {F : Hp} {f : Str} {v : V} {d : PyData} (hd : Dq F v d) : ∀ {vs : List (Str × V)} {fs : List (Str × PyData)}, FsR F vs fs → FsR F (putF f v vs) (putFP f d fs)
  | _, _, .nil => .cons ⟨rfl, hd⟩ .nil
  | (n, x) :: vs, (m, y) :: fs, .cons h t => by
    obtain ⟨e, q⟩ := h
    have e : n = m := e
    subst e
    show FsR F (putF f v ((n, x) :: vs)) (if n = f then (f, d) :: fs else (n, y) :: putFP f d fs)
    by_cases z : n = f
    · have e1 : putF f v ((n, x) :: vs) = (f, v) :: vs := by subst z; simp [putF]
      rw [e1, if_pos z]
      exact .cons ⟨rfl, hd⟩ t
    · have e1 : putF f v ((n, x) :: vs) = (n, x) :: putF f v vs := by simp [putF, z]
      rw [e1, if_neg z]
      exact .cons ⟨rfl, q⟩ (FsR.put hd t)
theorem FsR.len {F : Hp} {vs : List (Str × V)} {fs : List (Str × PyData)} (h : FsR F vs fs) : vs.length = fs.length := Pd.len h
theorem FsR.look {F : Hp} {f : Str} {d : PyData} : ∀ {vs : List (Str × V)} {fs : List (Str × PyData)}, FsR F vs fs → fs.lookup f = some d → ∃ u, vs.lookup f = some u ∧ Dq F u d
  | _, _, .nil, h => by cases h
  | (n, x) :: vs, (m, y) :: fs, .cons h t, e => by
    obtain ⟨e1, q⟩ := h
    have e1 : n = m := e1
    subst e1
    rw [List.lookup_cons] at e ⊢
    cases z : f == n with
    | true => rw [z] at e; cases e; exact ⟨x, rfl, q⟩
    | false => rw [z] at e; exact FsR.look t e
section
variable {X : Cx} {e : Expr} {t : Ty} {R : Po} {x f : Str} {d : PyData} {pos nx ap : Pos} {a C dx : Addr} {fs : List (Str × PyData)}
/-- self.f = e -/
theorem sd_fld (i : Nat) (hN : X.N[i]? = some x) (hv : Vis X.env.scope x) (ht : t[i]? = some (.ins a C dx fs)) (hc : Cls X.K C) (hn : NoAttr X.K C f) (he : PD X e t d) (hl : fs.length < 1000) (k : R.nx (t.set i (.ins a C dx (putFP f d fs))))
    (hs : swapsWith e (some (.Attribute (.Name x nx) f ap)) pos.line X.env = pure false := by rfl) (hd : (x == ("__debug__" : Str)) = false := by decide) (hcd : (x == ("__classdict__" : Str)) = false := by decide) : SD X (.Assign [.Attribute (.Name x nx) f ap] e pos) t R := fun N sg F H D S q => by
  refine use_s (ps_fld (pe_var hN hv hd hcd) (pe_of X e) hs) (he N sg F H _ S fun v F1 H1 r1 S1 s1 d1 hr1 => ?_)
  subst hr1
  obtain ⟨v1, j1, rfl, j3, vs, j4, j5⟩ := S1.sl i _ ht
  refine ⟨_, j1, a, C, dx, vs, rfl, j4, hc, hn, by rw [j5.len]; exact hl, ?_⟩
  refine q.nx sg F1 _ _ (S1.mut (s' := .ins a C dx (putFP f d fs)) ht rfl rfl (Same.refl F1) (fun b o e => ?_) (fun b _ h => h) (fun b o z e => by rw [upd_ne z]; exact e) (by rw [upd_same]; intro z; cases z) fun v hv => ⟨hv.1, hv.2.1, _, upd_same, FsR.put d1 j5⟩) k
  rw [upd_ne (fun z => by rw [z, j3] at e; cases e)]
  exact S1.fh b o e
end
/-- what an __init__ of data promises: the new instance with these fields -/
def spI (C : Addr) (n : Nat) (Phi : List Dt → List (Str × PyData) → Prop) : Sp := fun vs H Q _ => vs.length = n + 1 ∧ ∃ (F : Hp) (p dx : Addr) (vs' : List V) (rs : List Dt) (fs : List (Str × PyData)), vs = .ref p :: vs' ∧ Same F H ∧ F p = none ∧ H p = some (.ins C dx []) ∧ DtA F vs' rs ∧ Phi rs fs ∧
  ∀ F' H' vf, Same F F' → Same F' H' → (∀ a, H a ≠ none → F a = none → F' a = none) → (∀ a o, a ≠ p → H a = some o → H' a = some o) → H' p = some (.ins C dx vf) → FsR F' vf fs → Q .non H'
theorem fn_init {P : Program} {w : World} {K : PySem.W.Frag} {mg : Str → Option Value} {base : Heap} {x qual : Str} {st : Stmt} {f C : Addr} {fd : FuncData} {n0 : Str} {N ps : List Str} {k n : Nat} {Phi : List Dt → List (Str × PyData) → Prop} (F : Fun K x qual st f fd) (S : FnScope (n0 :: N) ps (defScope st)) (hn : ps.length = n + 1)
    (body : ∀ (cdv : Value) (A : Around) (outer : List Env) (s : Shared) (H : Hp) (E : XK), Room k (A.deeper (envOfC qual (defScope st) s.heap.objs.size f cdv)) → ∀ rs fs p dx, rs.length = n → Phi rs fs →
      SDs (cxOf CX0 P w K mg base (n0 :: N) qual (defScope st) f cdv A outer s H E).nox (defBody st) (.ins p C dx [] :: startT N rs) ⟨fun t => t[0]? = some (.ins p C dx fs), fun _ _ => False, fun _ => False, fun _ => False⟩) : FnOk P w K mg base CX0 (k + 1) f fd ps (spI C n Phi) := by
  refine F.ok S (fun vs H Q E h => by rw [hn]; exact h.1) fun cdv A outer s H vs Q E hr h => ?_
  obtain ⟨hl, F0, p, dx, vs', rs, fs, rfl, fh, fp, hp, da, ph, q⟩ := h
  have hlen := da.len
  have hN : rs.length ≤ N.length := by
    have e1 := congrArg List.length S.pre
    rw [List.length_take, List.length_cons] at e1
    rw [List.length_cons] at hl
    omega
  have eS : L2.start (n0 :: N) (.ref p :: vs') = some (.ref p) :: L2.start N vs' := by
    unfold L2.start
    rw [List.map_cons, List.length_cons, List.length_cons, Nat.add_sub_add_right]
    rfl
  have S0 := start_sto (N := N) fh da hN
  have no : ows (startT N rs) = [] := no_ows fun s hs => by
    unfold startT at hs
    rcases List.mem_append.mp hs with z | z
    · obtain ⟨r, _, e⟩ := List.mem_map.mp z
      subst e; rfl
    · rw [(List.mem_replicate.mp z).2]; rfl
  have ew : ows (.ins p C dx [] :: startT N rs) = [p] := by
    show List.filterMap Sl.ad (.ins p C dx [] :: startT N rs) = _
    rw [List.filterMap_cons]
    show p :: ows (startT N rs) = [p]
    rw [no]
  have S1 : StO ⟨F0, H, fun a => a = p⟩ F0 H (L2.start (n0 :: N) (.ref p :: vs')) (.ins p C dx [] :: startT N rs) := by
    rw [eS]
    refine ⟨by rw [List.length_cons, List.length_cons, S0.ln], fh, Same.refl _, fun a _ z => z, fun a o z _ => z, fun a z => z, fun i u hi => ?_, fun a ha => ?_, by rw [ew]; simp⟩
    · cases i with
      | zero =>
        have z : Sl.ins p C dx [] = u := by simpa using hi
        subst z
        exact ⟨_, rfl, rfl, fp, [], hp, .nil⟩
      | succ i =>
        obtain ⟨v, h1, h2⟩ := S0.sl i u (by simpa using hi)
        exact ⟨v, by simpa using h1, h2⟩
    · rw [ew] at ha
      exact .inr (List.mem_singleton.mp ha)
  refine ⟨tbOf _ _, pb_of _ _, body cdv A outer s H E hr rs fs p dx (by rw [List.length_cons] at hl; omega) ph _ _ F0 H _ S1 ⟨fun sg F1 H1 t S2 e => ?_, fun _ _ _ _ _ _ _ _ z => z.elim, fun _ _ _ _ _ z => z.elim, fun _ _ _ _ _ z => z.elim⟩⟩
  obtain ⟨v, _, _, g2, vf, g3, g4⟩ := S2.sl 0 _ e
  exact q F1 H1 vf S2.f0 S2.fh S2.nf (fun a o ha ho => S2.un a o ho ha) g3 g4
section
variable {X : Cx} {e : Expr} {es : List Expr} {t : Ty} {R : Dt → Prop} {pos p : Pos} {nm : Str} {k n : Nat} {ps : List Str} {f C : Addr} {fd : FuncData}
/-- C(..): an instance that stays -/
theorem pm_make {Phi : List Dt → List (Str × PyData) → Prop} {P : List Dt → Prop} (M : Mk X.K C f) (G : FnOk X.prog X.w X.K X.mg X.base CX0 k f fd ps (spI C n Phi)) (hr : Room (k + 1) X.A) (hm : X.mg nm = some (.ref C)) (hb : Binds X.K fd ps []) (ha : PMA X (e :: es) t P) (h : ∀ rs, P rs → rs.length = n ∧ ∃ fs, Phi rs fs ∧ R (.ob C fs))
    (hg : Gl X nm := by rfl) (hdb : (nm == ("__debug__" : Str)) = false := by decide) (he : starEach (e :: es) X.env = (false, eval e X.env) :: starEach es X.env := by rfl) (hpl : (backTo pos (starEach es X.env)).any (·.1) = false := by rfl) : PM X (.Call (.Name nm p) (e :: es) [] pos) t R := fun N sg F H Q S q =>
  use_e (L2.pe_make (dvs := []) (E := E0) M G hr hg hm hb .nil pass0 (pa_of X _) hdb he hpl) (ha N sg F H _ S fun vs F1 H1 rs S1 s1 d1 hr1 => by
    obtain ⟨hl, fs, h1, h2⟩ := h rs hr1
    intro x dx hx hdx hne
    obtain ⟨x1, x2, x3⟩ := S1.new_ hx
    have g1 := Gr.lay (o := .own x) S1.fh hdx
    have hx' : (upd H1 dx (.own x)) x = none := by rw [upd_ne (Ne.symm hne)]; exact hx
    have g2 := Gr.lay (o := .ins C dx []) g1.fh hx'
    have S2 := (S1.grow g1).grow g2
    rw [List.append_nil]
    refine ⟨by rw [List.length_cons, d1.len, hl], F1, x, dx, vs, rs, fs, rfl, g2.fh, x2, upd_same, d1, h1, fun F' H' vf ff fh nf un hp hf => ⟨rfl, ?_⟩⟩
    have S3 := S2.but x1 x3 ff fh nf un
    have fx : F' x = none := nf x (by rw [upd_same]; intro z; cases z) x2
    have S4 := S3.frz x1 fx x3 hp
    exact q (.ref x) _ H' (.ob C fs) S4 ((s1.trans ff).trans (same_new fx)) ⟨x, dx, vf, rfl, upd_same, fun g d hd => let ⟨u, h3, h4⟩ := FsR.look hf hd; ⟨u, h3, h4.up (same_new fx)⟩⟩ h2)
end
end Fw

-- part FwLed
set_option Elab.async false
set_option maxRecDepth 100000
set_option maxHeartbeats 4000000
set_option linter.all false
namespace Fw
open PySem PySem.Spec PyProof.Rows L2
/-! ### dicts of one's own, by a name or kept aside -/
def dS (b : Bool) (a : Addr) (ks : Kd) : Sl := if b then .dct a ks else .gd a ks
theorem dS_ad {b : Bool} {a : Addr} {ks : Kd} : (dS b a ks).ad = some a := by cases b <;> rfl
theorem dS_at {F H : Hp} {v : Option V} {b : Bool} {a : Addr} {ks : Kd} (h : SlK F H v (dS b a ks)) : F a = none ∧ ∃ kvs, H a = some (.dK kvs) ∧ KvR F kvs ks := by
  cases b
  · exact h
  · exact h.2
theorem dS_re {F H F' H' : Hp} {v : Option V} {b : Bool} {a : Addr} {ks ks' : Kd} {kvs' : List (Key × V)} (h : SlK F H v (dS b a ks)) (f : F' a = none) (g : H' a = some (.dK kvs')) (r : KvR F' kvs' ks') : SlK F' H' v (dS b a ks') := by
  cases b
  · exact ⟨f, kvs', g, r⟩
  · exact ⟨h.1, f, kvs', g, r⟩
/-- the dict at slot i takes new contents -/
theorem StO.redict {N : En} {F H : Hp} {sg : St} {t : Ty} {i : Nat} {b : Bool} {a : Addr} {ks ks' : Kd} {kvs' : List (Key × V)} (S : StO N F H sg t) (ht : t[i]? = some (dS b a ks)) (r : KvR F kvs' ks') : StO N F (upd H a (.dK kvs')) sg (t.set i (dS b a ks')) := by
  obtain ⟨v1, j1, j2⟩ := S.sl i _ ht
  obtain ⟨j3, kvs, j4, j5⟩ := dS_at j2
  refine S.mut (s' := dS b a ks') ht dS_ad dS_ad (Same.refl F) (fun c o e => ?_) (fun c _ h => h) (fun c o z e => by rw [upd_ne z]; exact e) (by rw [upd_same]; intro z; cases z) fun v hv => dS_re hv (dS_at hv).1 upd_same r
  rw [upd_ne (fun z => by rw [z, j3] at e; cases e)]
  exact S.fh c o e
/-- an expression that reads as an address -/
def PRf (X : Cx) (e : Expr) (t : Ty) (a : Addr) : Prop := ∀ (N : En) (sg : St) (F H : Hp) (Q : VK), StO N F H sg t → Q (.ref a) H → teOf X e sg H Q
/-- an expression that may change the things of one's own -/
def PMS (X : Cx) (e : Expr) (t : Ty) (R : Dt → Ty → Prop) : Prop := ∀ (N : En) (sg : St) (F H : Hp) (Q : VK), StO N F H sg t → (∀ v F' H' r t', StO N F' H' sg t' → Same F F' → DtR F' v r → R r t' → Q v H') → teOf X e sg H Q
section
variable {X : Cx} {a b c e ce : Expr} {es : List Expr} {t t1 : Ty} {R : Po} {pos p nx ap cp : Pos} {x y f nm : Str} {d z : PyData} {ks : Kd} {D C dx : Addr} {vs : List (Str × V)}
theorem rf_nm (i : Nat) (ht : t[i]? = some (.dct D ks)) (hN : X.N[i]? = some x := by rfl) (hv : Vis X.env.scope x := by first | exact Or.inl rfl | exact Or.inr (Or.inl rfl) | exact Or.inr (Or.inr rfl))
    (hd : (x == ("__debug__" : Str)) = false := by decide) (hcd : (x == ("__classdict__" : Str)) = false := by decide) : PRf X (.Name x nx) t D := fun N sg F H Q S q => use_e (pe_var hN hv hd hcd) (by
  obtain ⟨v0, g1, rfl, _⟩ := S.sl i _ ht
  exact ⟨_, g1, q⟩)
theorem rf_fld {r : Addr} (i : Nat) (ht : t[i]? = some (.obj D C dx vs)) (hc : Cls X.K C) (hn : NoAttr X.K C f) (hl : vs.lookup f = some (.ref r)) (hN : X.N[i]? = some x := by rfl) (hv : Vis X.env.scope x := by first | exact Or.inl rfl | exact Or.inr (Or.inl rfl) | exact Or.inr (Or.inr rfl))
    (hd : (x == ("__debug__" : Str)) = false := by decide) (hcd : (x == ("__classdict__" : Str)) = false := by decide) (hb : attributeBase (.Name x nx) f X.env (eval (.Name x nx) X.env) = eval (.Name x nx) X.env := by rfl) : PRf X (.Attribute (.Name x nx) f ap) t r := fun N sg F H Q S q => use_e (pe_fld (pe_var hN hv hd hcd) hb) (by
  obtain ⟨v0, g1, rfl, g2, g3⟩ := S.sl i _ ht
  exact ⟨_, g1, D, C, dx, vs, _, rfl, g3, hc, hn, hl, q⟩)
/-- self.f, a number -/
theorem fo_int {n : Int} (i : Nat) (ht : t[i]? = some (.obj D C dx vs)) (hc : Cls X.K C) (hn : NoAttr X.K C f) (hl : vs.lookup f = some (.int n)) (hN : X.N[i]? = some x := by rfl) (hv : Vis X.env.scope x := by first | exact Or.inl rfl | exact Or.inr (Or.inl rfl) | exact Or.inr (Or.inr rfl))
    (hd : (x == ("__debug__" : Str)) = false := by decide) (hcd : (x == ("__classdict__" : Str)) = false := by decide) (hb : attributeBase (.Name x nx) f X.env (eval (.Name x nx) X.env) = eval (.Name x nx) X.env := by rfl) : PD X (.Attribute (.Name x nx) f ap) t (.int n) := fun N sg F H Q S q => use_e (pe_fld (pe_var hN hv hd hcd) hb) (by
  obtain ⟨v0, g1, rfl, g2, g3⟩ := S.sl i _ ht
  exact ⟨_, g1, D, C, dx, vs, _, rfl, g3, hc, hn, hl, q _ F H (.d _) S (Same.refl F) (Dq.int n) rfl⟩)
/-- self.f = e, e of data -/
theorem so_int {n : Int} (i : Nat) (ht : t[i]? = some (.obj D C dx vs)) (hc : Cls X.K C) (hn : NoAttr X.K C f) (he : PD X e t (.int n)) (hl : vs.length < 1000) (k : R.nx (t.set i (.obj D C dx (putF f (.int n) vs)))) (hN : X.N[i]? = some x := by rfl) (hv : Vis X.env.scope x := by first | exact Or.inl rfl | exact Or.inr (Or.inl rfl) | exact Or.inr (Or.inr rfl))
    (hs : swapsWith e (some (.Attribute (.Name x nx) f ap)) pos.line X.env = pure false := by rfl) (hd : (x == ("__debug__" : Str)) = false := by decide) (hcd : (x == ("__classdict__" : Str)) = false := by decide) : SD X (.Assign [.Attribute (.Name x nx) f ap] e pos) t R := fun N sg F H Ds S q => by
  refine use_s (ps_fld (pe_var hN hv hd hcd) (pe_of X e) hs) (he N sg F H _ S fun v F1 H1 r1 S1 s1 d1 hr1 => ?_)
  subst hr1
  cases d1
  obtain ⟨v1, j1, rfl, j3, j4⟩ := S1.sl i _ ht
  refine ⟨_, j1, D, C, dx, vs, rfl, j4, hc, hn, hl, ?_⟩
  refine q.nx sg F1 _ _ (S1.mut (s' := .obj D C dx (putF f (.int n) vs)) ht rfl rfl (Same.refl F1) (fun b o e => ?_) (fun b _ h => h) (fun b o z e => by rw [upd_ne z]; exact e) (by rw [upd_same]; intro z; cases z) fun v hv => ⟨hv.1, hv.2.1, upd_same⟩) k
  rw [upd_ne (fun z => by rw [z, j3] at e; cases e)]
  exact S1.fh b o e
/-- self.f += e -/
theorem ao_int {m n : Int} (i : Nat) (ht : t[i]? = some (.obj D C dx vs)) (hc : Cls X.K C) (hn : NoAttr X.K C f) (hg : vs.lookup f = some (.int m)) (he : PD X e t (.int n)) (hl : vs.length < 1000) (k : R.nx (t.set i (.obj D C dx (putF f (.int (m + n)) vs)))) (hN : X.N[i]? = some x := by rfl) (hv : Vis X.env.scope x := by first | exact Or.inl rfl | exact Or.inr (Or.inl rfl) | exact Or.inr (Or.inr rfl))
    (hd : (x == ("__debug__" : Str)) = false := by decide) (hcd : (x == ("__classdict__" : Str)) = false := by decide) : SD X (.AugAssign (.Attribute (.Name x nx) f ap) .Add e pos) t R := fun N sg F H Ds S q => by
  refine use_s (ps_fldaug (pe_var hN hv hd hcd) (pe_of X e) in_add) ?_
  obtain ⟨v0, g1, rfl, g2, g3⟩ := S.sl i _ ht
  refine ⟨_, g1, D, C, dx, vs, _, rfl, g3, hc, hn, hg, he N sg F H _ S fun v F1 H1 r1 S1 s1 d1 hr1 => ?_⟩
  subst hr1
  cases d1
  obtain ⟨v1, j1, j2, j3, j4⟩ := S1.sl i _ ht
  refine ⟨m, n, rfl, rfl, dx, vs, j4, hl, ?_⟩
  refine q.nx sg F1 _ _ (S1.mut (s' := .obj D C dx (putF f (.int (m + n)) vs)) ht rfl rfl (Same.refl F1) (fun b o e => ?_) (fun b _ h => h) (fun b o z e => by rw [upd_ne z]; exact e) (by rw [upd_same]; intro z; cases z) fun v hv => ⟨hv.1, hv.2.1, upd_same⟩) k
  rw [upd_ne (fun z => by rw [z, j3] at e; cases e)]
  exact S1.fh b o e
/-! ### the dict's doings, whatever names it -/
theorem inR {ki : Expr} {j : Int} (db : Bool) (i : Nat) (hu : X.A.units + 1 < cLine) (hc : PRf X ce t D) (ht : t[i]? = some (dS db D ks)) (hk : PD X ki t (.int j)) (hb : behindInMarks .In ce = false := by rfl) : PD X (.Compare ki [.In] [ce] cp) t (.bool (valP ks (.inl j)).isSome) := fun N sg F H Q S q => by
  refine use_e (pe_cmp (pc_din hu (pe_of X ki) (pe_of X ce)) hb) (hk N sg F H _ S fun u F1 H1 r1 S1 s1 d1 hr1 => hc N sg F1 H1 _ S1 ?_)
  subst hr1
  cases d1
  obtain ⟨v1, j1, j2⟩ := S1.sl i _ ht
  obtain ⟨j3, ws, j4, j5⟩ := dS_at j2
  refine ⟨D, _, rfl, DGet.k (k := Sum.inl j) j4, ?_⟩
  have e : (valV ws (.inl j)).isSome = (valP ks (.inl j)).isSome := by
    rcases KvR.val j5 (.inl j) with ⟨h1, h2⟩ | ⟨v, d, h1, h2, _⟩ <;> (rw [h1, h2]; rfl)
  rw [e]
  exact q _ F1 H1 (.d _) S1 s1 (Dq.bl _) rfl
theorem ninRT {ki : Expr} {j : Int} (db : Bool) (i : Nat) (hu : X.A.units + 1 < cLine) (hc : PRf X ce t D) (ht : t[i]? = some (dS db D ks)) (hk : PD X ki t (.int j)) (hb : behindInMarks .NotIn ce = false := by rfl) : PDT X (.Compare ki [.NotIn] [ce] cp) t (!(valP ks (.inl j)).isSome) := fun N sg F H Q S q => by
  refine use_t (pt_cmp (pc_dnotin hu (pe_of X ki) (pe_of X ce)) hb) (hk N sg F H _ S fun u F1 H1 r1 S1 s1 d1 hr1 => hc N sg F1 H1 _ S1 ?_)
  subst hr1
  cases d1
  obtain ⟨v1, j1, j2⟩ := S1.sl i _ ht
  obtain ⟨j3, ws, j4, j5⟩ := dS_at j2
  refine ⟨D, _, rfl, DGet.k (k := Sum.inl j) j4, _, rfl, ?_⟩
  have e : (valV ws (.inl j)).isSome = (valP ks (.inl j)).isSome := by
    rcases KvR.val j5 (.inl j) with ⟨h1, h2⟩ | ⟨v, d, h1, h2, _⟩ <;> (rw [h1, h2]; rfl)
  exact q _ F1 H1 S1 s1 (by rw [e])
theorem inRT {ki : Expr} {j : Int} (db : Bool) (i : Nat) (hu : X.A.units + 1 < cLine) (hc : PRf X ce t D) (ht : t[i]? = some (dS db D ks)) (hk : PD X ki t (.int j)) (hb : behindInMarks .In ce = false := by rfl) : PDT X (.Compare ki [.In] [ce] cp) t ((valP ks (.inl j)).isSome) := fun N sg F H Q S q => by
  refine use_t (pt_cmp (pc_din hu (pe_of X ki) (pe_of X ce)) hb) (hk N sg F H _ S fun u F1 H1 r1 S1 s1 d1 hr1 => hc N sg F1 H1 _ S1 ?_)
  subst hr1
  cases d1
  obtain ⟨v1, j1, j2⟩ := S1.sl i _ ht
  obtain ⟨j3, ws, j4, j5⟩ := dS_at j2
  refine ⟨D, _, rfl, DGet.k (k := Sum.inl j) j4, _, rfl, ?_⟩
  have e : (valV ws (.inl j)).isSome = (valP ks (.inl j)).isSome := by
    rcases KvR.val j5 (.inl j) with ⟨h1, h2⟩ | ⟨v, d, h1, h2, _⟩ <;> (rw [h1, h2]; rfl)
  exact q _ F1 H1 S1 s1 (by rw [e])
theorem getR {ki : Expr} {j : Int} {sp : Pos} (db : Bool) (i : Nat) (hu : X.A.units + 1 < cLine) (hc : PRf X ce t D) (ht : t[i]? = some (dS db D ks)) (hk : PD X ki t (.int j)) (hj : valP ks (.inl j) = some d) (hs : NoSl ki := by exact fun _ _ => rfl) : PD X (.Subscript ce ki sp) t d := fun N sg F H Q S q => by
  refine use_e (pe_dget hu (pe_of X ce) (pe_of X ki) hs) (hc N sg F H _ S (hk N sg F H _ S fun u F1 H1 r1 S1 s1 d1 hr1 => ?_))
  subst hr1
  cases d1
  obtain ⟨v1, j1, j2⟩ := S1.sl i _ ht
  obtain ⟨j3, ws, j4, j5⟩ := dS_at j2
  rcases KvR.val j5 (.inl j) with ⟨h1, h2⟩ | ⟨v, d', h1, h2, h3⟩
  · rw [hj] at h2; cases h2
  · rw [hj] at h2
    cases h2
    exact ⟨D, v, rfl, by have g := DGet.k (k := Sum.inl j) j4; rw [h1] at g; exact g, q v F1 H1 (.d d) S1 s1 h3 rfl⟩
theorem putR {ki : Expr} {j : Int} {sp : Pos} (db : Bool) (i : Nat) (hu : X.A.units + 1 < cLine) (hc : PRf X ce t D) (ht : t[i]? = some (dS db D ks)) (he : PD X e t d) (hk : PD X ki t (.int j)) (hz : ks.length < sizeLine) (k : R.nx (t.set i (dS db D (putP ks (.inl j) d))))
    (hs : swapsWith e (some (.Subscript ce ki sp)) pos.line X.env = pure false := by rfl) : SD X (.Assign [.Subscript ce ki sp] e pos) t R := fun N sg F H Ds S q => by
  refine use_s (ps_dput hu (pe_of X ce) (pe_of X ki) (pe_of X e) hs) (he N sg F H _ S fun v F1 H1 r1 S1 s1 d1 hr1 => hc N sg F1 H1 _ S1 (hk N sg F1 H1 _ S1 fun u F2 H2 r2 S2 s2 d2 hr2 => ?_))
  subst hr1 hr2
  cases d2
  obtain ⟨v1, j1, j2⟩ := S2.sl i _ ht
  obtain ⟨j3, kvs, j4, j5⟩ := dS_at j2
  exact ⟨D, _, rfl, DPut.k (k := Sum.inl j) j4 (by rw [j5.len]; exact hz), q.nx sg F2 _ _ (S2.redict ht (j5.put (d1.up s2))) k⟩
/-- d[k] -= e -/
theorem daugR {ki : Expr} {j m n : Int} {sp : Pos} (db : Bool) (i : Nat) (hu : X.A.units + 1 < cLine) (hc : PRf X ce t D) (ht : t[i]? = some (dS db D ks)) (hk : PD X ki t (.int j)) (hj : valP ks (.inl j) = some (.int m)) (he : PD X e t (.int n)) (hz : ks.length < sizeLine) (k : R.nx (t.set i (dS db D (putP ks (.inl j) (.int (m - n))))))
    (ha : ∀ ov iv new, augStore ki ov iv new = (do holding [new, ov, iv] (setItem ov iv new); release [new, ov, iv] []; pure .next) := by intros; rfl) : SD X (.AugAssign (.Subscript ce ki sp) .Sub e pos) t R := fun N sg F H Ds S q => by
  refine use_s (ps_daug hu (pe_of X ce) (pe_of X ki) (pe_of X e) in_sub ha) (hc N sg F H _ S (hk N sg F H _ S fun u F1 H1 r1 S1 s1 d1 hr1 => ?_))
  subst hr1
  cases d1
  obtain ⟨v1, j1, j2⟩ := S1.sl i _ ht
  obtain ⟨j3, ws, j4, j5⟩ := dS_at j2
  rcases KvR.val j5 (.inl j) with ⟨h1, h2⟩ | ⟨v, d', h1, h2, h3⟩
  · rw [hj] at h2; cases h2
  rw [hj] at h2
  cases h2
  cases h3
  refine ⟨D, .int m, rfl, by have g := DGet.k (k := Sum.inl j) j4; rw [h1] at g; exact g, he N sg F1 H1 _ S1 fun w F2 H2 r2 S2 s2 d2 hr2 => ?_⟩
  subst hr2
  cases d2
  obtain ⟨v2, l1, l2⟩ := S2.sl i _ ht
  obtain ⟨l3, kvs, l4, l5⟩ := dS_at l2
  exact ⟨m, n, rfl, rfl, _, DPut.k (k := Sum.inl j) l4 (by rw [l5.len]; exact hz), q.nx sg F2 _ _ (S2.redict ht (l5.put (.int _))) k⟩
theorem lenR {tp : Pos} (db : Bool) (i : Nat) (hc : PRf X ce t D) (ht : t[i]? = some (dS db D ks)) (hm : X.mg "len" = none) (hg : Gl X "len" := by rfl) (hst : starEach [ce] X.env = (false, eval ce X.env) :: starEach [] X.env := by rfl) : PD X (.Call (.Name "len" tp) [ce] [] cp) t (.int ks.length) := fun N sg F H Q S q => by
  refine use_e (pe_callB call_lenD hg hm PySem.boot_len (pa_cons (pe_of X ce) pa_nil hst) (by decide) (by decide) hst rfl) (hc N sg F H _ S ?_)
  obtain ⟨v1, j1, j2⟩ := S.sl i _ ht
  obtain ⟨j3, ws, j4, j5⟩ := dS_at j2
  exact ⟨D, ws, rfl, j4, by rw [j5.len]; exact q _ F H (.d _) S (Same.refl F) (Dq.int _) rfl⟩
theorem kv_ints {F : Hp} : ∀ {kvs : List (Key × V)} {ks : Kd} {ns : List Int}, KvR F kvs ks → ks.map (·.2) = ns.map PyData.int → kvs.map (·.2) = ns.map V.int
  | _, _, ns, .nil, h => by
    cases ns with
    | nil => rfl
    | cons n ns => cases h
  | _, _, ns, .cons (a := a) (b := b) h1 h2, h => by
    cases ns with
    | nil => cases h
    | cons n ns =>
      rw [List.map_cons, List.map_cons] at h
      have e1 := (List.cons.inj h).1
      have e2 := (List.cons.inj h).2
      have h3 := h1.2
      rw [e1] at h3
      rw [List.map_cons, List.map_cons, kv_ints h2 e2]
      cases q : a.2 <;> rw [q] at h3 <;> cases h3
      rfl
/-- min(d.values()) -/
theorem minR {tp vp mp : Pos} {ns : List Int} (db : Bool) (i : Nat) (hcalm : X.calm = true) (hc : PRf X ce t D) (ht : t[i]? = some (dS db D ks)) (hm : X.mg "min" = none) (hv : ks.map (·.2) = ns.map PyData.int) (h0 : ns ≠ []) (hg : Gl X "min" := by rfl) (hbase : attributeBase ce "values" X.env (eval ce X.env) = eval ce X.env := by rfl) (hline : (vp.endLine == mp.line) = true := by rfl)
    (hse : starEach [Expr.Call (.Attribute ce "values" vp) [] [] mp] X.env = [(false, eval (Expr.Call (.Attribute ce "values" vp) [] [] mp) X.env)] := by rfl) :
    PD X (.Call (.Name "min" tp) [.Call (.Attribute ce "values" vp) [] [] mp] [] cp) t (.int (minL ns)) := fun N sg F H Q S q => by
  refine use_e (pe_minVals hcalm hg hm (pe_of X ce) hbase hline hse) (hc N sg F H _ S ?_)
  obtain ⟨v1, j1, j2⟩ := S.sl i _ ht
  obtain ⟨j3, ws, j4, j5⟩ := dS_at j2
  refine ⟨D, ws, ns, rfl, j4, kv_ints j5 hv, h0, fun m hm hle => ?_⟩
  have s := minL_spec ns h0
  have em : m = minL ns := by
    have h1 := hle _ s.1
    have h2 := s.2 m hm
    omega
  rw [em]
  exact q _ F H (.d _) S (Same.refl F) (Dq.int _) rfl
theorem dropP_none {k : Key} (h : valP ks k = none) : dropP ks k = ks := by
  induction ks with
  | nil => rfl
  | cons p r ih =>
    by_cases q : p.1 = k
    · simp [valP, List.find?_cons, q] at h
    · have e2 : valP (p :: r) k = valP r k := by simp [valP, List.find?_cons, q]
      rw [e2] at h
      unfold dropP
      rw [List.filter_cons, if_pos (by simp [q])]
      congr 1
      exact ih h
/-- d.pop(k), k in d -/
theorem popR {ki : Expr} {j : Int} (db : Bool) (i : Nat) (hc : PRf X ce t D) (ht : t[i]? = some (dS db D ks)) (hk : PD X ki t (.int j)) (hj : valP ks (.inl j) = some d) (m : M1 X ce "pop" ap ki cp := by exact ⟨rfl, rfl, rfl, rfl⟩) : PMS X (.Call (.Attribute ce "pop" ap) [ki] [] cp) t (fun r t' => r = .d d ∧ t' = t.set i (dS db D (dropP ks (.inl j)))) := fun N sg F H Q S q => by
  refine use_e (pe_dpop1 (pe_of X ce) (pe_of X ki) m) (hc N sg F H _ S ?_)
  obtain ⟨v0, g1, g2⟩ := S.sl i _ ht
  obtain ⟨g3, ws0, g4, g5⟩ := dS_at g2
  refine ⟨D, rfl, .inl ⟨_, .inl g4⟩, hk N sg F H _ S fun u F1 H1 r1 S1 s1 d1 hr1 => ?_⟩
  subst hr1
  cases d1
  obtain ⟨v1, j1, j2⟩ := S1.sl i _ ht
  obtain ⟨j3, ws, j4, j5⟩ := dS_at j2
  rcases KvR.val j5 (.inl j) with ⟨h1, h2⟩ | ⟨v, d', h1, h2, h3⟩
  · rw [hj] at h2; cases h2
  rw [hj] at h2
  cases h2
  exact ⟨ws, .inl j, v, j4, rfl, h1, q v F1 _ (.d d) _ (S1.redict ht j5.drop) s1 h3 ⟨rfl, rfl⟩⟩
/-- d.pop(k, e), as a statement -/
theorem sd_pop2 {ki fe : Expr} {j : Int} {ep : Pos} (db : Bool) (i : Nat) (hc : PRf X ce t D) (ht : t[i]? = some (dS db D ks)) (hk : PD X ki t (.int j)) (hf : PD X fe t d) (k : R.nx (t.set i (dS db D (dropP ks (.inl j))))) (m : M2 X ce "pop" ap ki fe cp := by exact ⟨rfl, rfl, rfl, rfl⟩)
    (hs : swapsWith (.Call (.Attribute ce "pop" ap) [ki, fe] [] cp) none ep.line X.env = pure false := by rfl) : SD X (.Expr (.Call (.Attribute ce "pop" ap) [ki, fe] [] cp) ep) t R := fun N sg F H Ds S q => by
  refine use_s (ps_expr (pe_dpop2 (pe_of X ce) (pe_of X ki) (pe_of X fe) m) hs) (hc N sg F H _ S ?_)
  obtain ⟨v0, g1, g2⟩ := S.sl i _ ht
  obtain ⟨g3, ws0, g4, g5⟩ := dS_at g2
  refine ⟨D, rfl, .inl ⟨_, .inl g4⟩, hk N sg F H _ S fun u F1 H1 r1 S1 s1 d1 hr1 => hf N sg F1 H1 _ S1 fun w F2 H2 r2 S2 s2 d2 hr2 => ?_⟩
  subst hr1
  cases d1
  obtain ⟨v1, j1, j2⟩ := S2.sl i _ ht
  obtain ⟨j3, ws, j4, j5⟩ := dS_at j2
  refine ⟨ws, .inl j, j4, rfl, fun v _ => q.nx sg F2 _ _ (S2.redict ht j5.drop) k, fun hn => ?_⟩
  have hn2 : valP ks (.inl j) = none := by
    rcases KvR.val j5 (.inl j) with ⟨h1, h2⟩ | ⟨v, d', h1, h2, h3⟩
    · exact h2
    · rw [hn] at h1; cases h1
  rw [dropP_none hn2, set_same ht] at k
  exact q.nx sg F2 H2 _ S2 k
/-- d.setdefault(k, e), as a statement -/
theorem sd_setd {ki fe : Expr} {j : Int} {ep : Pos} (db : Bool) (i : Nat) (hc : PRf X ce t D) (ht : t[i]? = some (dS db D ks)) (hk : PD X ki t (.int j)) (hf : PD X fe t d) (hz : ks.length < sizeLine) (k : R.nx (t.set i (dS db D (if (valP ks (.inl j)).isSome then ks else putP ks (.inl j) d)))) (m : M2 X ce "setdefault" ap ki fe cp := by exact ⟨rfl, rfl, rfl, rfl⟩)
    (hs : swapsWith (.Call (.Attribute ce "setdefault" ap) [ki, fe] [] cp) none ep.line X.env = pure false := by rfl) : SD X (.Expr (.Call (.Attribute ce "setdefault" ap) [ki, fe] [] cp) ep) t R := fun N sg F H Ds S q => by
  refine use_s (ps_expr (pe_dsetd (pe_of X ce) (pe_of X ki) (pe_of X fe) m) hs) (hc N sg F H _ S ?_)
  obtain ⟨v0, g1, g2⟩ := S.sl i _ ht
  obtain ⟨g3, ws0, g4, g5⟩ := dS_at g2
  refine ⟨D, rfl, .inl ⟨_, .inl g4⟩, hk N sg F H _ S fun u F1 H1 r1 S1 s1 d1 hr1 => hf N sg F1 H1 _ S1 fun w F2 H2 r2 S2 s2 d2 hr2 => ?_⟩
  subst hr1 hr2
  cases d1
  obtain ⟨v1, j1, j2⟩ := S2.sl i _ ht
  obtain ⟨j3, ws, j4, j5⟩ := dS_at j2
  refine ⟨ws, .inl j, j4, rfl, by rw [j5.len]; exact hz, fun v hv => ?_, fun hn => ?_⟩
  · rcases KvR.val j5 (.inl j) with ⟨h1, h2⟩ | ⟨v', d', h1, h2, h3⟩
    · rw [hv] at h1; cases h1
    · rw [h2] at k
      have k : R.nx (t.set i (dS db D ks)) := k
      rw [set_same ht] at k
      exact q.nx sg F2 H2 _ S2 k
  · rcases KvR.val j5 (.inl j) with ⟨h1, h2⟩ | ⟨v', d', h1, h2, h3⟩
    · rw [h2] at k
      exact q.nx sg F2 _ _ (S2.redict ht (j5.put d2)) k
    · rw [hn] at h1; cases h1
/-! ### expressions that change -/
theorem pms_of {Re : Dt → Prop} (h : PM X e t Re) : PMS X e t (fun r t' => Re r ∧ t' = t) := fun N sg F H Q S q => h N sg F H Q S fun v F' H' r S' s dv hr => q v F' H' r t S' s dv ⟨hr, rfl⟩
theorem PMS.mono {R R' : Dt → Ty → Prop} (h : PMS X e t R) (k : ∀ r t', R r t' → R' r t') : PMS X e t R' := fun N sg F H Q S q => h N sg F H Q S fun v F' H' r t' S' s dv hr => q v F' H' r t' S' s dv (k r t' hr)
theorem sd_retS {Re : Dt → Ty → Prop} (he : PMS X e t Re) (k : ∀ r t', Re r t' → R.rt r t') : SD X (.Return (some e) pos) t R := fun N sg F H D S q =>
  use_s (ps_ret (pe_of X e)) (he N sg F H _ S fun v F1 H1 r1 t1 S1 s1 d1 hr1 => q.rt v F1 H1 sg t1 r1 S1 d1 (k r1 t1 hr1))
theorem sd_dropS {Re : Dt → Ty → Prop} (he : PMS X e t Re) (k : ∀ r t', Re r t' → R.nx t') (hs : swapsWith e none pos.line X.env = pure false := by rfl) : SD X (.Expr e pos) t R := fun N sg F H D S q =>
  use_s (ps_expr (pe_of X e) hs) (he N sg F H _ S fun v F1 H1 r1 t1 S1 s1 d1 hr1 => q.nx sg F1 H1 t1 S1 (k r1 t1 hr1))
theorem pms_cmp {op : CmpOp} {k : Bool} (ha : PMS X a t (fun r t' => r = .d d ∧ t' = t1)) (hb : PD X b t1 z) (h : CmpD X op d z k) (hm : behindInMarks op b = false := by first | exact nomark _ | rfl) : PMS X (.Compare a [op] [b] pos) t (fun r t' => r = .d (.bool k) ∧ t' = t1) := fun N sg F H Q S q => by
  refine use_e (pe_cmpR (o_of X _) (pe_of X a) (pe_of X b) hm) (ha N sg F H _ S fun v F1 H1 r1 t' S1 s1 d1 hr1 => ?_)
  obtain ⟨e1, e2⟩ := hr1
  subst e1 e2
  refine hb N sg F1 H1 _ S1 fun u F2 H2 r2 S2 s2 d2 hr2 => ?_
  subst hr2
  exact h F2 H2 v u Q S2.fh (Dq.up d1 s2) d2 fun F3 H3 g => q _ F3 H3 (.d _) t' (S2.grow g) ((s1.trans s2).trans g.ff) (Dq.bl k) ⟨rfl, rfl⟩
theorem pms_and {rest : List Expr} {k k' : Bool} {T : Ty → Prop} {R' : Ty → Prop} (ha : PMS X a t (fun r t' => r = .d (.bool k) ∧ T t')) (h0 : k = false → ∀ t', T t' → R' t') (hb : k = true → ∀ t', T t' → PMS X (.BoolOp .And (b :: rest) pos) t' (fun r t'' => r = .d (.bool k') ∧ R' t'')) : PMS X (.BoolOp .And (a :: b :: rest) pos) t (fun r t'' => r = .d (.bool (k && k')) ∧ R' t'') := fun N sg F H Q S q => by
  refine use_e (pe_and (pe_of X a) (pe_of X _)) (ha N sg F H _ S fun v F1 H1 r1 t1 S1 s1 d1 hr1 => ?_)
  obtain ⟨e1, e2⟩ := hr1
  subst e1
  cases d1
  refine ⟨k, rfl, ?_⟩
  cases k with
  | false => rw [if_neg Bool.false_ne_true]; exact q _ F1 H1 (.d _) t1 S1 s1 (Dq.bl _) ⟨rfl, h0 rfl t1 e2⟩
  | true => rw [if_pos rfl]; exact hb rfl t1 e2 N sg F1 H1 _ S1 fun w F2 H2 r2 t2 S2 s2 d2 hr2 => q w F2 H2 r2 t2 S2 (s1.trans s2) d2 ⟨by rw [hr2.1]; rfl, hr2.2⟩
theorem pms_one {op : BoolOp} {Re : Dt → Ty → Prop} (h : PMS X e t Re) : PMS X (.BoolOp op [e] pos) t Re := fun N sg F H Q S q => use_e (pe_one (pe_of X e)) (h N sg F H _ S q)
end
end Fw

-- part T1
set_option Elab.async false
set_option maxRecDepth 100000
set_option maxHeartbeats 4000000
set_option linter.all false
namespace K33
open PySem PySem.Spec PyProof.Rows L2 Fw
def top (i : Nat) : Stmt := PySem.Challenge.pw_ringclaims_k33_whole_doubt_by_floods.main.body.getD i (.Pass ⟨0, 0, 0, 0⟩)
/-- the built-ins' names are free -/
structure Bt (mg : Str → Option Value) : Prop where
  isinstance : mg "isinstance" = none
  int : mg "int" = none
  bool : mg "bool" = none
  tuple : mg "tuple" = none
  str : mg "str" = none
  len : mg "len" = none
  enumerate : mg "enumerate" = none
  list : mg "list" = none
  sorted : mg "sorted" = none
  range : mg "range" = none
  any : mg "any" = none
  all : mg "all" = none
  sum : mg "sum" = none
  min : mg "min" = none
  max : mg "max" = none
  dict : mg "dict" = none
  abs : mg "abs" = none
  repr : mg "repr" = none
section
variable {P : Program} {w : World} {K : PySem.W.Frag} {mg : Str → Option Value} {base : Heap}
abbrev s_is_integer : Stmt := top 6
theorem sc_is_integer : FnScope ["thing"] ["thing"] (defScope s_is_integer) := ⟨rfl, rfl, rfl, by decide +kernel, rfl, by decide +kernel, by decide +kernel⟩
def fInteger (x : PyData) : Bool := isInt x && !isBool x
def ph_is_integer (rs : List Dt) (r : Dt) : Prop := ∃ x, rs = [.d x] ∧ r = .d (.bool (fInteger x))
theorem c_is_integer (F : HasFn K mg "is_integer" s_is_integer ["thing"]) (B : Bt mg) : Cal P w K mg base "is_integer" 1 ["thing"] (spP 1 ph_is_integer) := by
  refine cal_pure F sc_is_integer rfl fun f cdv A outer s H E hr rs r hl ⟨x, e1, e2⟩ => ?_
  subst e1 e2
  exact sd_one (sd_ret (pd_and (isI B.isinstance B.int (vr 0 rfl)) fun _ => pd_one (pd_not (isB B.isinstance B.bool (vr 0 rfl)))) fun r hr => hr)
abbrev s_is_within : Stmt := top 7
theorem sc_is_within : FnScope ["thing", "least", "most"] ["thing", "least", "most"] (defScope s_is_within) := ⟨rfl, rfl, rfl, by decide +kernel, rfl, by decide +kernel, by decide +kernel⟩
def fWithin (x : PyData) (a b : Int) : Bool := match x with
  | .int i => decide (a ≤ i) && decide (i ≤ b)
  | _ => false
def ph_is_within (rs : List Dt) (r : Dt) : Prop := ∃ x a b, rs = [.d x, .d (.int a), .d (.int b)] ∧ r = .d (.bool (fWithin x a b))
theorem c_is_within (F : HasFn K mg "is_within" s_is_within ["thing", "least", "most"]) (B : Bt mg) (C1 : Cal P w K mg base "is_integer" 1 ["thing"] (spP 1 ph_is_integer)) : Cal P w K mg base "is_within" 2 ["thing", "least", "most"] (spP 3 ph_is_within) := by
  refine cal_pure F sc_is_within rfl fun f cdv A outer s H E hr rs r hl ⟨x, a, b, e1, e2⟩ => ?_
  subst e1 e2
  by_cases hx : ∃ i, x = .int i
  · obtain ⟨i, rfl⟩ := hx
    refine sd_one (sd_ret (pd_and (pd_cal C1 hr (ac (vr 0 rfl) pma_nil) rfl ⟨_, rfl, rfl⟩) fun _ => pd_one (pd_chain (vr 1 rfl) (vr 0 rfl) (cd_le _ _) (fun _ => vr 2 rfl) (fun _ => cd_le _ _))) ?_)
    exact fun r hr => hr
  · have e : fInteger x = false := by cases x <;> first | rfl | exact absurd ⟨_, rfl⟩ hx
    refine sd_one (sd_ret (pd_and (k' := false) (pd_cal C1 hr (ac (vr 0 rfl) pma_nil) rfl ⟨_, rfl, rfl⟩) fun h => absurd (h.symm.trans e) (by decide)) fun r hr => ?_)
    rw [hr, e]
    cases x <;> first | rfl | exact absurd ⟨_, rfl⟩ hx
end
end K33

-- part T2
set_option Elab.async false
set_option maxRecDepth 100000
set_option maxHeartbeats 4000000
set_option linter.all false
namespace K33
open PySem PySem.Spec PyProof.Rows L2 Fw
/-! ### deeds and lots as data -/
abbrev Deed := Option Int × Int
def encF : Option Int → PyData
  | none => .none
  | some i => .int i
def encD (d : Deed) : PyData := .tuple [encF d.1, .int d.2, .tuple []]
def dsD (ds : List Deed) : PyData := .tuple (ds.map encD)
def lotD (l : List Int) : PyData := .tuple (l.map PyData.int)
def LotOk (l : List Int) (n : Int) : Prop := l.Pairwise (· < ·) ∧ ∀ x ∈ l, 0 ≤ x ∧ x < n
section
variable {P : Program} {w : World} {K : PySem.W.Frag} {mg : Str → Option Value} {base : Heap}
abbrev s_is_number : Stmt := top 8
theorem sc_is_number : FnScope ["thing", "most"] ["thing", "most"] (defScope s_is_number) := ⟨rfl, rfl, rfl, by decide +kernel, rfl, by decide +kernel, by decide +kernel⟩
def ph_is_number (rs : List Dt) (r : Dt) : Prop := ∃ x b, rs = [.d x, .d (.int b)] ∧ r = .d (.bool (fWithin x 0 b))
theorem c_is_number (F : HasFn K mg "is_number" s_is_number ["thing", "most"]) (C1 : Cal P w K mg base "is_within" 2 ["thing", "least", "most"] (spP 3 ph_is_within)) : Cal P w K mg base "is_number" 3 ["thing", "most"] (spP 2 ph_is_number) := by
  refine cal_pure F sc_is_number rfl fun f cdv A outer s H E hr rs r hl ⟨x, b, e1, e2⟩ => ?_
  subst e1 e2
  refine sd_one (sd_ret (pd_cal C1 hr (ac (vr 0 rfl) (ac pd_int (ac (vr 1 rfl) pma_nil))) rfl ⟨_, _, _, rfl, rfl⟩) ?_)
  exact fun r hr => hr
abbrev s_is_pair : Stmt := top 9
theorem sc_is_pair : FnScope ["thing"] ["thing"] (defScope s_is_pair) := ⟨rfl, rfl, rfl, by decide +kernel, rfl, by decide +kernel, by decide +kernel⟩
def tupLen (x : PyData) (n : Nat) : Bool := match x with
  | .tuple ds => decide (ds.length = n)
  | _ => false
theorem dec_nat (a b : Nat) : decide ((a : Int) = (b : Int)) = decide (a = b) := by
  by_cases h : a = b
  · simp [h]
  · have h' : ¬ (a : Int) = b := by omega
    simp [h, h']
def ph_is_pair (rs : List Dt) (r : Dt) : Prop := ∃ x, rs = [.d x] ∧ r = .d (.bool (tupLen x 2))
theorem isTup_cases (x : PyData) : (∃ ds, x = .tuple ds) ∨ (isTup x = false ∧ ∀ n, tupLen x n = false) := by
  cases x <;> first | exact .inl ⟨_, rfl⟩ | exact .inr ⟨rfl, fun _ => rfl⟩
theorem c_is_pair (F : HasFn K mg "is_pair" s_is_pair ["thing"]) (B : Bt mg) : Cal P w K mg base "is_pair" 1 ["thing"] (spP 1 ph_is_pair) := by
  refine cal_pure F sc_is_pair rfl fun f cdv A outer s H E hr rs r hl ⟨x, e1, e2⟩ => ?_
  subst e1 e2
  rcases isTup_cases x with ⟨ds, rfl⟩ | ⟨h1, h2⟩
  · refine sd_one (sd_ret (pd_and (isT B.isinstance B.tuple (vr 0 rfl)) fun _ => pd_one (cp (lenT B.len (vr 0 rfl)) pd_int (cd_eqI _ _))) ?_)
    intro r hr
    rw [hr]
    show Dt.d (.bool (true && decide ((ds.length : Int) = ((2 : Nat) : Int)))) = _
    rw [dec_nat]
    rfl
  · refine sd_one (sd_ret (pd_and (k' := false) (isT B.isinstance B.tuple (vr 0 rfl)) fun h => absurd (h.symm.trans h1) (by decide)) ?_)
    intro r hr
    rw [hr, h1, h2]
    rfl
abbrev s_is_triple : Stmt := top 10
theorem sc_is_triple : FnScope ["thing"] ["thing"] (defScope s_is_triple) := ⟨rfl, rfl, rfl, by decide +kernel, rfl, by decide +kernel, by decide +kernel⟩
def ph_is_triple (rs : List Dt) (r : Dt) : Prop := ∃ x, rs = [.d x] ∧ r = .d (.bool (tupLen x 3))
theorem c_is_triple (F : HasFn K mg "is_triple" s_is_triple ["thing"]) (B : Bt mg) : Cal P w K mg base "is_triple" 1 ["thing"] (spP 1 ph_is_triple) := by
  refine cal_pure F sc_is_triple rfl fun f cdv A outer s H E hr rs r hl ⟨x, e1, e2⟩ => ?_
  subst e1 e2
  rcases isTup_cases x with ⟨ds, rfl⟩ | ⟨h1, h2⟩
  · refine sd_one (sd_ret (pd_and (isT B.isinstance B.tuple (vr 0 rfl)) fun _ => pd_one (cp (lenT B.len (vr 0 rfl)) pd_int (cd_eqI _ _))) ?_)
    intro r hr
    rw [hr]
    show Dt.d (.bool (true && decide ((ds.length : Int) = ((3 : Nat) : Int)))) = _
    rw [dec_nat]
    rfl
  · refine sd_one (sd_ret (pd_and (k' := false) (isT B.isinstance B.tuple (vr 0 rfl)) fun h => absurd (h.symm.trans h1) (by decide)) ?_)
    intro r hr
    rw [hr, h1, h2]
    rfl
abbrev s_is_lot : Stmt := top 11
theorem sc_is_lot : FnScope ["thing", "many", "last", "number"] ["thing", "many"] (defScope s_is_lot) := ⟨rfl, rfl, rfl, by decide +kernel, rfl, by decide +kernel, by decide +kernel⟩
def ph_is_lot (rs : List Dt) (r : Dt) : Prop := ∃ l n, rs = [.d (lotD l), .d (.int n)] ∧ LotOk l n ∧ r = .d (.bool true)
theorem c_is_lot (F : HasFn K mg "is_lot" s_is_lot ["thing", "many"]) (B : Bt mg) (C1 : Cal P w K mg base "is_within" 2 ["thing", "least", "most"] (spP 3 ph_is_within)) : Cal P w K mg base "is_lot" 3 ["thing", "many"] (spP 2 ph_is_lot) := by
  refine cal_pure F sc_is_lot rfl fun f cdv A outer s H E hr rs r hl ⟨l, n, e1, ⟨lo1, lo2⟩, e2⟩ => ?_
  subst e1 e2
  -- if not isinstance(thing, tuple): return False
  refine sd_cons (sd_if (pdt_not (PD.tst (isT B.isinstance B.tuple (vr 0 rfl)))) (fun h => by cases h) fun _ => sd_nil ?_)
  -- last = -1
  refine sd_cons (sd_asg 2 sc_is_lot.nd rfl (.inl rfl) (pd_neg pd_int) ?_)
  rintro r rfl
  -- for number in thing
  refine sd_cons (sd_for (A := Int) (ds := l) (enc := PyData.int) (bs := fun d => [(3, .int d)]) (fun i t => ∃ z num, t = [.v (.d (lotD l)), .v (.d (.int n)), .v (.d (.int z)), num] ∧ -1 ≤ z ∧ ∀ x, l[i]? = some x → z + 1 ≤ x)
    PassesOwn.never rfl (it_tup (vr 0 rfl)) (pg_name (i := 3) sc_is_lot.nd rfl (.inl rfl)) (fun _ _ => tg_name) ⟨-1, .no, rfl, by omega, fun x hx => by have := lo2 x (List.mem_of_getElem? hx); omega⟩ ?_ ?_)
  · rintro i d u hi ⟨z, num, rfl, hz, hx⟩
    have q1 := hx d hi
    have q2 := lo2 d (List.mem_of_getElem? hi)
    refine sd_cons (sd_if (pdt_not (PD.tst (pd_cal C1 hr (ac (vr 3 rfl) (ac (bn (vr 2 rfl) pd_int) (ac (bn (vr 1 rfl) pd_int) pma_nil))) rfl ⟨_, _, _, rfl, rfl⟩))) (fun h => ?_) fun _ => sd_nil ?_)
    · exfalso
      have e1 : decide (z + 1 ≤ d) = true := decide_eq_true q1
      have e2 : decide (d ≤ n - 1) = true := decide_eq_true (by omega)
      have h : true = !(decide (z + 1 ≤ d) && decide (d ≤ n - 1)) := h
      rw [e1, e2] at h
      cases h
    · refine sd_one (sd_asg 2 sc_is_lot.nd rfl (.inl rfl) (vr 3 rfl) ?_)
      rintro r rfl
      refine ⟨d, _, rfl, by omega, fun x hx' => ?_⟩
      obtain ⟨i1, g1⟩ := List.getElem?_eq_some_iff.mp hi
      obtain ⟨i2, g2⟩ := List.getElem?_eq_some_iff.mp hx'
      have := List.pairwise_iff_getElem.mp lo1 i (i + 1) i1 i2 (Nat.lt_succ_self i)
      omega
  · rintro u ⟨z, num, rfl, _⟩
    exact sd_one (sd_ret pd_bl fun r hr => hr)
end
end K33

-- part T3
set_option Elab.async false
set_option maxRecDepth 100000
set_option maxHeartbeats 4000000
set_option linter.all false
namespace K33
open PySem PySem.Spec PyProof.Rows L2 Fw
section
variable {P : Program} {w : World} {K : PySem.W.Frag} {mg : Str → Option Value} {base : Heap}
abbrev s_is_first_behind : Stmt := top 16
theorem sc_is_first_behind : FnScope ["head", "last", "thing"] ["head", "last", "thing"] (defScope s_is_first_behind) := ⟨rfl, rfl, rfl, by decide +kernel, rfl, by decide +kernel, by decide +kernel⟩
def fFirst (hd : Int) (la f : Option Int) : Bool := match f with
  | none => true
  | some x => match la with
    | none => false
    | some l => decide (l + 1 ≤ x) && decide (x ≤ hd - 1)
def ph_is_first_behind (rs : List Dt) (r : Dt) : Prop := ∃ hd la f, rs = [.d (.int hd), .d (encF la), .d (encF f)] ∧ r = .d (.bool (fFirst hd la f))
theorem c_is_first_behind (F : HasFn K mg "is_first_behind" s_is_first_behind ["head", "last", "thing"]) (C1 : Cal P w K mg base "is_within" 2 ["thing", "least", "most"] (spP 3 ph_is_within)) : Cal P w K mg base "is_first_behind" 3 ["head", "last", "thing"] (spP 3 ph_is_first_behind) := by
  refine cal_pure F sc_is_first_behind rfl fun f cdv A outer s H E hr rs r hl ⟨hd, la, fi, e1, e2⟩ => ?_
  subst e1 e2
  cases fi with
  | none =>
    refine sd_one (sd_ret (pd_or (k' := false) (cp (vr 2 rfl) pd_non cd_isN) fun h => by cases h) ?_)
    exact fun r hr => hr
  | some x =>
    cases la with
    | none =>
      refine sd_one (sd_ret (pd_or (cp (vr 2 rfl) pd_non cd_isN) fun _ => pd_one (pd_and (k' := false) (cp (vr 1 rfl) pd_non cd_notN) fun h => by cases h)) ?_)
      exact fun r hr => hr
    | some l =>
      refine sd_one (sd_ret (pd_or (cp (vr 2 rfl) pd_non cd_isN) fun _ => pd_one (pd_and (cp (vr 1 rfl) pd_non cd_notN) fun _ => pd_one (pd_cal C1 hr (ac (vr 2 rfl) (ac (bn (vr 1 rfl) pd_int (bd_add l 1)) (ac (bn (vr 0 rfl) pd_int) pma_nil))) rfl ⟨.int x, _, _, rfl, rfl⟩))) ?_)
      exact fun r hr => hr
abbrev s_is_waits : Stmt := top 17
theorem sc_is_waits : FnScope ["many", "deed", "thing"] ["many", "deed", "thing"] (defScope s_is_waits) := ⟨rfl, rfl, rfl, by decide +kernel, rfl, by decide +kernel, by decide +kernel⟩
def ph_is_waits (rs : List Dt) (r : Dt) : Prop := ∃ n i, rs = [.d (.int n), .d (.int i), .d (.tuple [])] ∧ r = .d (.bool true)
theorem lot_nil (n : Int) : LotOk [] n := ⟨List.Pairwise.nil, fun x h => by cases h⟩
theorem c_is_waits (F : HasFn K mg "is_waits" s_is_waits ["many", "deed", "thing"]) (C1 : Cal P w K mg base "is_lot" 3 ["thing", "many"] (spP 2 ph_is_lot)) : Cal P w K mg base "is_waits" 4 ["many", "deed", "thing"] (spP 3 ph_is_waits) := by
  refine cal_pure F sc_is_waits rfl fun f cdv A outer s H E hr rs r hl ⟨n, i, e1, e2⟩ => ?_
  subst e1 e2
  refine sd_one (sd_ret (pd_and (pd_cal C1 hr (ac (vr 2 rfl) (ac (vr 0 rfl) pma_nil)) rfl ⟨[], n, rfl, lot_nil n, rfl⟩) fun _ => pd_one (pd_cmp (vr 1 rfl) (vr 2 rfl) (cd_ninT i []) rfl)) ?_)
  exact fun r hr => hr
/-! ### first_wrong -/
def Vf (hd : Int) : Option Int → List Deed → Prop
  | _, [] => True
  | la, (f, n) :: r => fFirst hd la f = true ∧ 0 ≤ n ∧ n ≤ 10 ^ 30 ∧ Vf hd f r
abbrev s_first_wrong : Stmt := top 18
theorem sc_first_wrong : FnScope ["head", "deeds", "last", "deed", "thing"] ["head", "deeds"] (defScope s_first_wrong) := ⟨rfl, rfl, rfl, by decide +kernel, rfl, by decide +kernel, by decide +kernel⟩
def ph_first_wrong (rs : List Dt) (r : Dt) : Prop := ∃ hd ds, rs = [.d (.int hd), .d (dsD ds)] ∧ Vf hd (some (-1)) ds ∧ r = .d .none
theorem drop_cons {α : Type} {xs : List α} {i : Nat} {x : α} (h : xs[i]? = some x) : xs.drop i = x :: xs.drop (i + 1) := by
  obtain ⟨hi, e⟩ := List.getElem?_eq_some_iff.mp h
  subst e
  exact List.drop_eq_getElem_cons hi
theorem zip_at {α : Type} {xs : List α} {i : Nat} {p : α × Nat} (h : xs.zipIdx[i]? = some p) : p.2 = i ∧ xs[i]? = some p.1 := by
  rw [List.getElem?_zipIdx] at h
  cases e : xs[i]? with
  | none => rw [e] at h; cases h
  | some x =>
    rw [e] at h
    have q : p = (x, 0 + i) := (Option.some.inj h).symm
    subst q
    exact ⟨Nat.zero_add i, rfl⟩
theorem c_first_wrong (F : HasFn K mg "first_wrong" s_first_wrong ["head", "deeds"]) (B : Bt mg) {tk : Tok} (mM : mg "MOST_CELLS" = some (.int (10 ^ 30) tk))
    (C1 : Cal P w K mg base "is_triple" 1 ["thing"] (spP 1 ph_is_triple)) (C2 : Cal P w K mg base "is_first_behind" 3 ["head", "last", "thing"] (spP 3 ph_is_first_behind)) (C3 : Cal P w K mg base "is_number" 3 ["thing", "most"] (spP 2 ph_is_number)) (C4 : Cal P w K mg base "is_waits" 4 ["many", "deed", "thing"] (spP 3 ph_is_waits)) :
    Cal P w K mg base "first_wrong" 5 ["head", "deeds"] (spP 2 ph_first_wrong) := by
  refine cal_pure F sc_first_wrong rfl fun f cdv A outer s H E hr rs r hl ⟨hd, ds, e1, hv, e2⟩ => ?_
  subst e1 e2
  have hr1 : Room 1 (A.deeper (envOfC "first_wrong" (defScope s_first_wrong) s.heap.objs.size f cdv)) := hr.mono (by decide)
  have hr3 : Room 3 (A.deeper (envOfC "first_wrong" (defScope s_first_wrong) s.heap.objs.size f cdv)) := hr.mono (by decide)
  -- last = -1
  refine sd_cons (sd_asg 2 sc_first_wrong.nd rfl (.inl rfl) (pd_neg pd_int) ?_)
  rintro r rfl
  refine sd_cons (sd_for (A := Deed × Nat) (ds := ds.zipIdx) (enc := fun p => .tuple [.int (p.2 : Nat), encD p.1]) (bs := fun p => [(3, .int (p.2 : Nat)), (4, encD p.1)])
    (fun i t => ∃ la u3 u4, t = [.v (.d (.int hd)), .v (.d (dsD ds)), .v (.d (encF la)), u3, u4] ∧ Vf hd la (ds.drop i))
    PassesOwn.never rfl (it_enumT rfl B.enumerate (vr 1 rfl)) (pg_tup rfl (pgs_cons (pg_name (i := 3) sc_first_wrong.nd rfl (.inl rfl)) (pgs_cons (pg_name (i := 4) sc_first_wrong.nd rfl (.inl rfl)) pgs_nil))) (fun p _ => tg_tup (tgs_cons tg_name (tgs_cons tg_name tgs_nil)) rfl)
    ⟨some (-1), .no, .no, rfl, hv⟩ ?_ ?_)
  · rintro i ⟨⟨fi, n⟩, j⟩ u hi ⟨la, u3, u4, rfl, hv⟩
    obtain ⟨ej, hi'⟩ := zip_at hi
    rw [drop_cons hi'] at hv
    obtain ⟨v1, v2, v3, v4⟩ := hv
    -- if not is_triple(thing) or not is_first_behind(head, last, thing[0]): return deed
    refine sd_cons (sd_if (PWD.tst (pdw_or (pdt_not (PD.tst (pd_cal C1 hr1 (ac (vr 4 rfl) pma_nil) rfl ⟨_, rfl, rfl⟩))) fun _ => pwd_or1 (pdt_not (PD.tst (pd_cal C2 hr3 (ac (vr 0 rfl) (ac (vr 2 rfl) (ac (ix (vr 4 rfl) pd_int (id_tup rfl)) pma_nil))) rfl ⟨hd, la, fi, rfl, rfl⟩))))) (fun h => ?_) fun _ => sd_nil ?_)
    · exfalso
      have h : true = (!true || !(fFirst hd la fi)) := h
      rw [v1] at h
      cases h
    -- if not is_number(thing[1], MOST_CELLS) or not is_waits(..): return deed
    refine sd_cons (sd_if (PWD.tst (pdw_or (pdt_not (PD.tst (pd_cal C3 hr3 (ac (ix (vr 4 rfl) pd_int (id_tup rfl)) (ac (pd_globI rfl mM) pma_nil)) rfl ⟨_, _, rfl, rfl⟩))) fun _ => pwd_or1 (pdt_not (PD.tst (pd_cal C4 hr (ac (lenT B.len (vr 1 rfl)) (ac (vr 3 rfl) (ac (ix (vr 4 rfl) pd_int (id_tup rfl)) pma_nil))) rfl ⟨_, _, rfl, rfl⟩))))) (fun h => ?_) fun _ => sd_nil ?_)
    · exfalso
      have h : true = (!(decide (0 ≤ n) && decide (n ≤ 10 ^ 30)) || !true) := h
      rw [decide_eq_true v2, decide_eq_true v3] at h
      cases h
    -- last = thing[0]
    refine sd_one (sd_asg 2 sc_first_wrong.nd rfl (.inl rfl) (ix (vr 4 rfl) pd_int (id_tup rfl)) ?_)
    rintro r rfl
    exact ⟨fi, _, _, rfl, v4⟩
  · rintro u ⟨la, u3, u4, rfl, _⟩
    exact sd_one (sd_ret pd_non fun r hr => hr)
theorem at_0 {α : Type} (x : α) (xs : List α) : atI (x :: xs) 0 = some x := atI_nat (j := 0) rfl
abbrev s_is_too_far : Stmt := top 21
theorem sc_is_too_far : FnScope ["cells", "head", "deeds"] ["cells", "head", "deeds"] (defScope s_is_too_far) := ⟨rfl, rfl, rfl, by decide +kernel, rfl, by decide +kernel, by decide +kernel⟩
/-- there is room: the head is no more than cells ahead of the first place -/
def RoomOk (cells hd : Int) : List Deed → Prop
  | [] => True
  | (none, _) :: _ => True
  | (some x, _) :: _ => hd - x ≤ cells
def ph_is_too_far (rs : List Dt) (r : Dt) : Prop := ∃ cells hd ds, rs = [.d (.int cells), .d (.int hd), .d (dsD ds)] ∧ RoomOk cells hd ds ∧ r = .d (.bool false)
theorem c_is_too_far (F : HasFn K mg "is_too_far" s_is_too_far ["cells", "head", "deeds"]) (B : Bt mg) : Cal P w K mg base "is_too_far" 1 ["cells", "head", "deeds"] (spP 3 ph_is_too_far) := by
  refine cal_pure F sc_is_too_far rfl fun f cdv A outer s H E hr rs r hl ⟨cells, hd, ds, e1, ro, e2⟩ => ?_
  subst e1 e2
  cases ds with
  | nil =>
    refine sd_one (sd_ret (pd_and (k' := false) (cp (lenT B.len (vr 2 rfl)) pd_int (cd_gt _ _)) fun h => by cases h) ?_)
    exact fun r hr => hr
  | cons d ds =>
    obtain ⟨fi, n⟩ := d
    have hl : decide ((0 : Int) < (((fi, n) :: ds).map encD).length) = true := decide_eq_true (by rw [List.length_map, List.length_cons]; omega)
    cases fi with
    | none =>
      refine sd_one (sd_ret (pd_and (cp (lenT B.len (vr 2 rfl)) pd_int (cd_gt _ _)) fun _ => pd_and (k' := false) (cp (ix (ix (vr 2 rfl) pd_int (id_tup (d := encD (none, n)) (at_0 _ _))) pd_int (id_tup (d := .none) rfl)) pd_non cd_notN) fun h => ?_) ?_)
      · cases h
      intro r hr
      rw [hr]
      show Dt.d (.bool (_ && false)) = _
      rw [Bool.and_false]
    | some x =>
      have ro : hd - x ≤ cells := ro
      refine sd_one (sd_ret (pd_and (cp (lenT B.len (vr 2 rfl)) pd_int (cd_gt _ _)) fun _ => pd_and (cp (ix (ix (vr 2 rfl) pd_int (id_tup (d := encD (some x, n)) (at_0 _ _))) pd_int (id_tup (d := .int x) rfl)) pd_non cd_notN) fun _ => pd_one (cp (bn (y := .int x) (z := .int (hd - x)) (vr 1 rfl) (ix (ix (vr 2 rfl) pd_int (id_tup (d := encD (some x, n)) (at_0 _ _))) pd_int (id_tup (d := .int x) rfl)) (bd_sub hd x)) (vr 0 rfl) (cd_gt _ _))) ?_)
      intro r hr
      rw [hr]
      show Dt.d (.bool (_ && (_ && decide (cells < hd - x)))) = _
      rw [show decide (cells < hd - x) = false from decide_eq_false (by omega), Bool.and_false, Bool.and_false]
end
end K33

-- part T4
set_option Elab.async false
set_option maxRecDepth 100000
set_option maxHeartbeats 4000000
set_option linter.all false
namespace K33
open PySem PySem.Spec PyProof.Rows L2 Fw
section
variable {P : Program} {w : World} {K : PySem.W.Frag} {mg : Str → Option Value} {base : Heap}
/-! ### waited_for -/
abbrev s_waited_for : Stmt := top 19
theorem sc_waited_for : FnScope ["waits", "lot", "found", "waiting", "other", "deed"] ["waits", "lot"] (defScope s_waited_for) := ⟨rfl, rfl, rfl, by decide +kernel, rfl, by decide +kernel, by decide +kernel⟩
def ph_waited_for (rs : List Dt) (r : Dt) : Prop := ∃ ws l, rs = [.d (.list ws), .d (lotD l)] ∧ (l = [] ∨ ∃ d, l = [d] ∧ 0 ≤ d ∧ ws[d.toNat]? = some (.tuple [])) ∧ r = .d (lotD l)
theorem lot_perm {l : List Int} (h : l = [] ∨ ∃ d, l = [d]) (ys : List Int) (p : ys.Perm l) : ys = l := by
  rcases h with rfl | ⟨d, rfl⟩
  · exact p.eq_nil
  · exact p.eq_singleton
theorem c_waited_for (F : HasFn K mg "waited_for" s_waited_for ["waits", "lot"]) (B : Bt mg) : Cal P w K mg base "waited_for" 1 ["waits", "lot"] (spP 2 ph_waited_for) := by
  refine cal_pure F sc_waited_for rfl fun f cdv A outer s H E hr rs r hl ⟨ws, l, e1, hcase, e2⟩ => ?_
  subst e1 e2
  have hu : A.units + 3 + 1 < cLine := hu_of hr
  have hl1 : l = [] ∨ ∃ d, l = [d] := by
    rcases hcase with h | ⟨d, h, _⟩
    · exact .inl h
    · exact .inr ⟨d, h⟩
  have hlen : l.length ≤ 1 := by
    rcases hl1 with rfl | ⟨d, rfl⟩
    · exact Nat.zero_le _
    · exact Nat.le_refl _
  -- found = {deed: True for deed in lot}
  refine sd_cons (sd_dc0 (A := Int) (ds := l) (enc := PyData.int) (own := [("deed", 5)]) (bs := fun d => [(5, .int d)]) (key := fun d => d) (val := fun _ => .bool true) 2 rfl sc_waited_for.nd rfl rfl rfl (it_tup (vr 1 rfl)) (blkOk_by (N := ["waits", "lot", "found", "waiting", "other", "deed"]) (sc := defScope s_waited_for) (by decide +kernel))
    (fun _ _ _ _ _ => pg_name (i := 5) sc_waited_for.nd rfl (.inl rfl)) (fun _ _ => tg_name) (fun d _ p hp => by rw [List.mem_singleton.mp hp]; exact List.mem_singleton.mpr rfl) (fun j hj => by rw [List.mem_singleton.mp hj]; rfl) (fun d _ _ _ _ _ _ => vr 5 rfl) (fun d _ _ _ _ _ _ => pd_bl)
    (by rw [List.map_id']; rcases hl1 with rfl | ⟨d, rfl⟩ <;> simp) (Nat.lt_of_le_of_lt hlen (by decide)) ?_)
  intro D1 o1
  -- waiting = list(lot)
  refine sd_cons (sd_lstT 3 sc_waited_for.nd rfl (.inl rfl) B.list (vr 1 rfl) ?_)
  intro D2 o2
  -- while len(waiting) > 0
  refine sd_cons (sd_while (fun u m => ∃ xs v4, u = [.v (.d (.list ws)), .v (.d (lotD l)), .dct D1 (l.map fun a => (Sum.inl a, PyData.bool true)), .lst D2 (xs.map PyData.int), v4, .no] ∧ m = xs.length ∧ (xs = l ∨ xs = []))
    (fun u b => ∀ a xs, u[3]? = some (.lst a xs) → b = decide (0 < xs.length)) PassesOwn.never ⟨l, .no, rfl, rfl, .inl rfl⟩ ?_ ?_ ?_)
  · rintro u m ⟨xs, v4, rfl, rfl, hx⟩
    refine (ct (lenO 3 rfl B.len) pd_int (cd_gt _ _)).mono fun b hb a ys hy => ?_
    have hy' : Sl.lst D2 (xs.map PyData.int) = .lst a ys := Option.some.inj hy
    cases hy'
    rw [hb]
    by_cases q : 0 < (xs.map PyData.int).length
    · rw [decide_eq_true q, decide_eq_true (by omega)]
    · rw [decide_eq_false q, decide_eq_false (by omega)]
  · rintro u m ⟨xs, v4, rfl, rfl, hx⟩ hb
    have hpos := of_decide_eq_true (hb D2 _ rfl).symm
    rw [List.length_map] at hpos
    -- the one deed
    obtain ⟨d, rfl, rfl, hd0, hdw⟩ : ∃ d, l = [d] ∧ xs = [d] ∧ 0 ≤ d ∧ ws[d.toNat]? = some (.tuple []) := by
      rcases hcase with rfl | ⟨d, rfl, h0, hw⟩
      · rcases hx with rfl | rfl <;> exact absurd hpos (by simp)
      · rcases hx with rfl | rfl
        · exact ⟨d, rfl, rfl, h0, hw⟩
        · exact absurd hpos (by simp)
    refine sd_one ?_
    intro N sg F0 H0 Dd S q
    refine use_s (ps_for PassesOwn.never rfl (pi_tup (pe_ix ix_list (pv 0) (pe_bm0 PySem.F.plainAttrs_list PySem.F.slot_list_pop PySem.F.type_list_pop mt_pop (pv 3)) (fun _ _ => rfl))) (pg_name (i := 4) sc_waited_for.nd rfl (.inl rfl)) (pb_of _ _)) ?_
    obtain ⟨v0, g0, x0, rfl, dx⟩ := S.sl 0 _ rfl
    obtain ⟨v3, g3, rfl, f3, vs, h3, d3⟩ := S.sl 3 _ rfl
    have ev : vs = [V.int d] := by
      cases d3 with
      | cons a b => cases a; cases b; rfl
    subst ev
    cases dx with
    | lst gw aw =>
      have S1 : StO N F0 (upd H0 D2 (.lst [])) sg ([.v (.d (.list ws)), .v (.d (lotD [d])), .dct D1 ([d].map fun a => (Sum.inl a, PyData.bool true)), .lst D2 [], v4, .no]) :=
        S.mut (i := 3) (s' := .lst D2 []) rfl rfl rfl (Same.refl F0) (fun b o e => by rw [upd_ne (fun z => by rw [z, f3] at e; cases e)]; exact S.fh b o e) (fun b _ h => h) (fun b o z e => by rw [upd_ne z]; exact e) (by rw [upd_same]; intro z; cases z) fun v hv => ⟨hv.1, hv.2.1, [], upd_same, .nil⟩
      obtain ⟨tw, htw, dtw⟩ := aw.get hdw
      cases dtw with
      | tup gt at_ =>
        cases at_
        refine ⟨_, g0, _, g3, .inl ⟨rfl, _, SqL.of h3⟩, D2, [V.int d], V.int d, rfl, rfl, h3, rfl, _, _, d, _, rfl, rfl, SqL.of (S1.fh _ _ gw), ?_, _, rfl, ⟨_, SqT.of (S1.fh _ _ gt)⟩, for_tup (K := K) (xs := []) (fun i sg' H' => sg' = sg ∧ H' = upd H0 D2 (.lst [])) ⟨rfl, rfl⟩ (fun i sg' H' _ p => by rw [p.2]; exact SqT.of (S1.fh _ _ gt)) (fun i x sg' H' hi => by simp at hi) fun sg' H' p => ?_⟩
        · exact at_nat hd0 htw
        · rw [p.1, p.2]
          exact q.nx sg F0 _ _ S1 ⟨0, Nat.zero_lt_one, [], v4, rfl, rfl, .inr rfl⟩
  · rintro u m ⟨xs, v4, rfl, rfl, hx⟩ hb
    -- return tuple(sorted(found))
    refine sd_one (sd_ret (pd_callT rfl B.tuple (by decide +kernel) (ac (sortO (ns := l) 2 rfl B.sorted rfl (by rw [List.map_map]; rfl) (fun ys p _ => lot_perm hl1 ys p) (Nat.lt_of_le_of_lt hlen (by decide))) pma_nil) (ll_tupL _)) ?_)
    exact fun r hr => hr
/-! ### first_in_ring, waits_of -/
def waitsD (ds : List Deed) : PyData := .list (ds.map fun _ => .tuple [])
abbrev s_first_in_ring : Stmt := top 20
theorem sc_first_in_ring : FnScope ["waits", "deed", "some"] ["waits"] (defScope s_first_in_ring) := ⟨rfl, rfl, rfl, by decide +kernel, rfl, by decide +kernel, by decide +kernel⟩
def ph_first_in_ring (rs : List Dt) (r : Dt) : Prop := ∃ ds, rs = [.d (waitsD ds)] ∧ r = .d .none
theorem c_first_in_ring (F : HasFn K mg "first_in_ring" s_first_in_ring ["waits"]) (B : Bt mg) (C1 : Cal P w K mg base "waited_for" 1 ["waits", "lot"] (spP 2 ph_waited_for)) : Cal P w K mg base "first_in_ring" 2 ["waits"] (spP 1 ph_first_in_ring) := by
  refine cal_pure F sc_first_in_ring rfl fun f cdv A outer s H E hr rs r hl ⟨ds, e1, e2⟩ => ?_
  subst e1 e2
  refine sd_cons (sd_for (A := Deed × Nat) (ds := ds.zipIdx) (enc := fun p => .tuple [.int (p.2 : Nat), .tuple []]) (bs := fun p => [(1, .int (p.2 : Nat)), (2, .tuple [])])
    (fun i t => ∃ u1 u2, t = [.v (.d (waitsD ds)), u1, u2]) PassesOwn.never rfl (it_enumL (xs := ds) (enc := fun _ => .tuple []) rfl B.enumerate (vr 0 rfl)) (pg_tup (n := 2) rfl (pgs_cons (pg_name (i := 1) sc_first_in_ring.nd rfl (.inl rfl)) (pgs_cons (pg_name (i := 2) sc_first_in_ring.nd rfl (.inl rfl)) pgs_nil))) (fun p _ => tg_tup (tgs_cons tg_name (tgs_cons tg_name tgs_nil)) rfl)
    ⟨.no, .no, rfl⟩ ?_ ?_)
  · rintro i p u hi ⟨u1, u2, rfl⟩
    refine sd_one (sd_if (pdt_cmp (vr 1 rfl) (pd_cal C1 hr (ac (vr 0 rfl) (ac (vr 2 rfl) pma_nil)) rfl ⟨_, [], rfl, .inl rfl, rfl⟩) (cd_inT _ []) rfl) (fun h => by cases h) fun _ => sd_nil ⟨_, _, rfl⟩)
  · rintro u ⟨u1, u2, rfl⟩
    exact sd_one (sd_ret pd_non fun r hr => hr)
/-! ### a standing -/
def stD (C : Addr) (c h : Int) (ds : List Deed) : Dt := .ob C [("cells", .int c), ("head", .int h), ("deeds", dsD ds)]
structure StC (K : PySem.W.Frag) (mg : Str → Option Value) (C : Addr) : Prop where
  cl : Cls K C
  nC : NoAttr K C "cells"
  nH : NoAttr K C "head"
  nD : NoAttr K C "deeds"
  mgC : mg "Standing" = some (.ref C)
theorem lk_cells {a b c : PyData} : List.lookup ("cells" : Str) [(("cells" : Str), a), ("head", b), ("deeds", c)] = some a := rfl
theorem lk_head {a b c : PyData} : List.lookup ("head" : Str) [(("cells" : Str), a), ("head", b), ("deeds", c)] = some b := by
  have e1 : (("head" : Str) == "cells") = false := by decide +kernel
  rw [List.lookup_cons, e1]; rfl
theorem lk_deeds {a b c : PyData} : List.lookup ("deeds" : Str) [(("cells" : Str), a), ("head", b), ("deeds", c)] = some c := by
  have e1 : (("deeds" : Str) == "cells") = false := by decide +kernel
  have e2 : (("deeds" : Str) == "head") = false := by decide +kernel
  rw [List.lookup_cons, e1]
  show List.lookup ("deeds" : Str) [(("head" : Str), b), ("deeds", c)] = some c
  rw [List.lookup_cons, e2]; rfl
section
variable {X : Cx} {e : Expr} {t : Ty} {pos : Pos} {C : Addr} {c h : Int} {ds : List Deed}
theorem fldC (T : StC X.K X.mg C) (he : PM X e t (fun r => r = stD C c h ds)) (hb : attributeBase e "cells" X.env (eval e X.env) = eval e X.env := by rfl) : PD X (.Attribute e "cells" pos) t (.int c) := pm_fld he T.cl T.nC lk_cells hb
theorem fldH (T : StC X.K X.mg C) (he : PM X e t (fun r => r = stD C c h ds)) (hb : attributeBase e "head" X.env (eval e X.env) = eval e X.env := by rfl) : PD X (.Attribute e "head" pos) t (.int h) := pm_fld he T.cl T.nH lk_head hb
theorem fldD (T : StC X.K X.mg C) (he : PM X e t (fun r => r = stD C c h ds)) (hb : attributeBase e "deeds" X.env (eval e X.env) = eval e X.env := by rfl) : PD X (.Attribute e "deeds" pos) t (dsD ds) := pm_fld he T.cl T.nD lk_deeds hb
end
abbrev s_waits_of : Stmt := top 23
theorem sc_waits_of : FnScope ["standing", "first", "need", "waits"] ["standing"] (defScope s_waits_of) := ⟨rfl, rfl, rfl, by decide +kernel, rfl, by decide +kernel, by decide +kernel⟩
def ph_waits_of (C : Addr) (rs : List Dt) (r : Dt) : Prop := ∃ c h ds, rs = [stD C c h ds] ∧ ds.length ≤ 200 ∧ r = .d (waitsD ds)
theorem c_waits_of {C : Addr} (F : HasFn K mg "waits_of" s_waits_of ["standing"]) (T : StC K mg C) : Cal P w K mg base "waits_of" 1 ["standing"] (spP 1 (ph_waits_of C)) := by
  refine cal_pure F sc_waits_of rfl fun f cdv A outer s H E hr rs r hl ⟨c, h, ds, e1, hds, e2⟩ => ?_
  subst e1 e2
  refine sd_one (sd_ret (pd_lc0 (A := Deed) (ds := ds) (enc := encD) (own := [("first", 1), ("need", 2), ("waits", 3)]) (bs := fun d => [(1, encF d.1), (2, .int d.2), (3, .tuple [])]) (f := fun _ => .tuple []) rfl sc_waits_of.nd (it_tup (fldD T (vr 0 rfl))) (blkOk_by (N := ["standing", "first", "need", "waits"]) (sc := defScope s_waits_of) (by decide +kernel))
    (fun _ _ _ _ _ => pg_tup (n := 3) rfl (pgs_cons (pg_name (i := 1) sc_waits_of.nd rfl (.inl rfl)) (pgs_cons (pg_name (i := 2) sc_waits_of.nd rfl (.inl rfl)) (pgs_cons (pg_name (i := 3) sc_waits_of.nd rfl (.inl rfl)) pgs_nil)))) (fun d _ => tg_tup (tgs_cons tg_name (tgs_cons tg_name (tgs_cons tg_name tgs_nil))) rfl) ?_ ?_ (fun d _ _ _ _ _ _ => vr 3 rfl) (Nat.lt_of_le_of_lt hds (by decide))) ?_)
  · intro d _ p hp
    simp only [List.mem_cons, List.not_mem_nil, or_false] at hp
    rcases hp with rfl | rfl | rfl <;> simp
  · intro j hj
    simp only [List.map_cons, List.map_nil, List.mem_cons, List.not_mem_nil, or_false] at hj
    rcases hj with rfl | rfl | rfl <;> rfl
  · exact fun r hr => hr
end
end K33

-- part T5
set_option Elab.async false
set_option maxRecDepth 100000
set_option maxHeartbeats 4000000
set_option linter.all false
namespace K33
open PySem PySem.Spec PyProof.Rows L2 Fw
section
variable {P : Program} {w : World} {K : PySem.W.Frag} {mg : Str → Option Value} {base : Heap}
/-! ### loads -/
def loadsA (hd : Int) : Int → List Deed → List Int
  | _, [] => []
  | tot, (none, n) :: r => n :: loadsA hd tot r
  | tot, (some f, n) :: r => (hd - f + (tot + n)) :: loadsA hd (tot + n) r
theorem valP_none {ks : Kd} {k : Key} (h : ∀ p ∈ ks, p.1 ≠ k) : valP ks k = none := by
  unfold valP
  rw [List.find?_eq_none.mpr (fun p hp => by simp [h p hp])]
  rfl
theorem putP_new {ks : Kd} {k : Key} {v : PyData} (h : ∀ p ∈ ks, p.1 ≠ k) : putP ks k v = ks ++ [(k, v)] := by
  unfold putP
  rw [if_neg]
  intro z
  obtain ⟨p, hp, e⟩ := List.any_eq_true.mp z
  exact h p hp (of_decide_eq_true e)
abbrev s_loads_of : Stmt := top 24
abbrev n_loads_of : List Str := ["standing", "waits", "known", "total", "found", "deed", "first", "need", "some", "other"]
theorem sc_loads_of : FnScope n_loads_of ["standing"] (defScope s_loads_of) := ⟨rfl, rfl, rfl, by decide +kernel, rfl, by decide +kernel, by decide +kernel⟩
def ph_loads_of (C : Addr) (rs : List Dt) (r : Dt) : Prop := ∃ c h ds, rs = [stD C c h ds] ∧ ds.length ≤ 200 ∧ r = .d (.tuple ((loadsA h 0 ds).map PyData.int))
theorem at_map {α : Type} {f : α → PyData} {xs : List α} {i : Nat} {x : α} (h : xs[i]? = some x) : atI (xs.map f) (i : Int) = some (f x) := atI_nat (by rw [List.getElem?_map, h]; rfl)
theorem c_loads_of {C : Addr} (F : HasFn K mg "loads_of" s_loads_of ["standing"]) (B : Bt mg) (T : StC K mg C) (C1 : Cal P w K mg base "waits_of" 1 ["standing"] (spP 1 (ph_waits_of C))) (C2 : Cal P w K mg base "waited_for" 1 ["waits", "lot"] (spP 2 ph_waited_for)) : Cal P w K mg base "loads_of" 2 ["standing"] (spP 1 (ph_loads_of C)) := by
  refine cal_pure F sc_loads_of rfl fun f cdv A outer s H E hr rs r hl ⟨c, h, ds, e1, hds, e2⟩ => ?_
  subst e1 e2
  have hu : (A.deeper (envOfC "loads_of" (defScope s_loads_of) s.heap.objs.size f cdv)).units + 1 < cLine := hu_of hr
  refine sd_cons (sd_asg 1 sc_loads_of.nd rfl (.inl rfl) (pd_cal C1 hr (ac (vr 0 rfl) pma_nil) rfl ⟨c, h, ds, rfl, hds, rfl⟩) ?_)
  rintro r rfl
  refine sd_cons (sd_newD 2 sc_loads_of.nd rfl (.inl rfl) ?_)
  intro Dk ok
  refine sd_cons (sd_asg 3 sc_loads_of.nd rfl (.inl rfl) pd_int ?_)
  rintro r rfl
  refine sd_cons (sd_newL 4 sc_loads_of.nd rfl (.inl rfl) ?_)
  intro Df of_
  refine sd_cons (sd_for (A := Deed × Nat) (ds := ds.zipIdx) (enc := fun p => .tuple [.int (p.2 : Nat), encD p.1]) (bs := fun p => [(5, .int (p.2 : Nat)), (6, encF p.1.1), (7, .int p.1.2), (8, .tuple [])])
    (fun i t => ∃ ks tot vals u5 u6 u7 u8 u9, t = [.v (stD C c h ds), .v (.d (waitsD ds)), .dct Dk ks, .v (.d (.int tot)), .lst Df (vals.map PyData.int), u5, u6, u7, u8, u9] ∧ (∀ p ∈ ks, ∃ m : Nat, m < i ∧ p.1 = Sum.inl (m : Int)) ∧ ks.length ≤ i ∧ vals.length = i ∧ vals ++ loadsA h tot (ds.drop i) = loadsA h 0 ds)
    PassesOwn.never rfl (it_enumT rfl B.enumerate (fldD T (vr 0 rfl)))
    (pg_tup (n := 2) rfl (pgs_cons (pg_name (i := 5) sc_loads_of.nd rfl (.inl rfl)) (pgs_cons (pg_tup (n := 3) rfl (pgs_cons (pg_name (i := 6) sc_loads_of.nd rfl (.inl rfl)) (pgs_cons (pg_name (i := 7) sc_loads_of.nd rfl (.inl rfl)) (pgs_cons (pg_name (i := 8) sc_loads_of.nd rfl (.inl rfl)) pgs_nil)))) pgs_nil)))
    (fun p _ => tg_tup (tgs_cons tg_name (tgs_cons (tg_tup (tgs_cons tg_name (tgs_cons tg_name (tgs_cons tg_name tgs_nil))) rfl) tgs_nil)) rfl)
    ⟨[], 0, [], .no, .no, .no, .no, .no, rfl, (fun p hp => nomatch hp), Nat.le_refl _, rfl, rfl⟩ ?_ ?_)
  · rintro i ⟨⟨fi, n⟩, j⟩ u hi ⟨ks, tot, vals, u5, u6, u7, u8, u9, rfl, hks, hkl, hvl, heq⟩
    obtain ⟨ej, hi'⟩ := zip_at hi
    have ej : j = i := ej
    subst ej
    have hi200 : j < 200 := Nat.lt_of_lt_of_le (List.getElem?_eq_some_iff.mp hi').1 hds
    rw [drop_cons hi'] at heq
    cases fi with
    | none =>
      refine sd_one (sd_if (ct (vr 6 rfl) pd_non cd_isN) (fun _ => sd_one (sd_app 4 rfl (.inl rfl) rfl (vr 7 rfl) (by rw [List.length_map, hvl]; exact Nat.lt_trans hi200 (by decide)) ?_)) fun h => by cases h)
      rintro r rfl
      refine ⟨_, rfl, ks, tot, vals ++ [n], .v (.d (.int (j : Nat))), .v (.d .none), .v (.d (.int n)), .v (.d (.tuple [])), u9, ?_, fun p hp => ?_, Nat.le_succ_of_le hkl, by rw [List.length_append, hvl]; rfl, ?_⟩
      · rw [List.map_append]; rfl
      · obtain ⟨m, hm, e⟩ := hks p hp
        exact ⟨m, Nat.lt_succ_of_lt hm, e⟩
      · rw [List.append_assoc]; exact heq
    | some x =>
      have hne : ∀ p ∈ ks, p.1 ≠ (Sum.inl (j : Int) : Key) := fun p hp e => by
        obtain ⟨m, hm, e2⟩ := hks p hp
        rw [e2] at e
        have := Sum.inl.inj e
        omega
      refine sd_one (sd_if (ct (vr 6 rfl) pd_non cd_isN) (fun h => by cases h) fun _ => ?_)
      -- for other in waited_for(waits, (deed,))
      refine sd_cons (sd_for (A := Int) (ds := [(j : Int)]) (enc := PyData.int) (bs := fun d => [(9, .int d)])
        (fun k t => ∃ ks' tot' v9, t = [.v (stD C c h ds), .v (.d (waitsD ds)), .dct Dk ks', .v (.d (.int tot')), .lst Df (vals.map PyData.int), .v (.d (.int (j : Nat))), .v (.d (.int x)), .v (.d (.int n)), .v (.d (.tuple [])), v9] ∧ ((k = 0 ∧ ks' = ks ∧ tot' = tot) ∨ (k = 1 ∧ ks' = ks ++ [(Sum.inl (j : Int), .bool true)] ∧ tot' = tot + n)))
        PassesOwn.never rfl (it_tup (pd_cal C2 hr (ac (vr 1 rfl) (ac (pd_tup (ds := [.int (j : Nat)]) (ac (vr 5 rfl) pma_nil) (by show 1 ≤ sizeLine; decide)) pma_nil)) rfl ⟨_, [(j : Int)], rfl, .inr ⟨j, rfl, Int.natCast_nonneg _, by rw [Int.toNat_natCast, List.getElem?_map, hi']; rfl⟩, rfl⟩))
        (pg_name (i := 9) sc_loads_of.nd rfl (.inl rfl)) (fun _ _ => tg_name) ⟨ks, tot, u9, rfl, .inl ⟨rfl, rfl, rfl⟩⟩ ?_ ?_)
      · rintro k d u hk ⟨ks', tot', v9, rfl, hc⟩
        have hk0 : k = 0 := by
          have := (List.getElem?_eq_some_iff.mp hk).1
          simp at this
          exact this
        subst hk0
        have ed : d = (j : Int) := by simpa using hk.symm
        subst ed
        rcases hc with ⟨_, rfl, rfl⟩ | ⟨z, _⟩
        · refine sd_one (sd_if (ninOT 2 hu rfl (vr 9 rfl)) (fun _ => ?_) fun hb => ?_)
          · refine sd_cons (sd_put 2 hu rfl (.inl rfl) rfl pd_bl (vr 9 rfl) (by have := Nat.lt_of_le_of_lt hkl hi200; exact Nat.lt_trans this (by decide)) ?_)
            refine sd_one (sd_aug 3 sc_loads_of.nd rfl (.inl rfl) rfl (ix (ix (fldD T (vr 0 rfl)) (vr 9 rfl) (id_tup (d := encD (some x, n)) (at_map hi'))) pd_int (id_tup (d := .int n) rfl)) ?_)
            exact ⟨_, _, _, rfl, .inr ⟨rfl, putP_new hne, rfl⟩⟩
          · exfalso
            rw [valP_none hne] at hb
            cases hb
        · exact absurd z (by decide)
      · rintro u ⟨ks', tot', v9, rfl, hc⟩
        rcases hc with ⟨z, _⟩ | ⟨_, rfl, rfl⟩
        · exact absurd z (by simp)
        refine sd_one (sd_app 4 rfl (.inl rfl) rfl (bn (bn (fldH T (vr 0 rfl)) (vr 6 rfl) (bd_sub h x)) (vr 3 rfl) (bd_add (h - x) (tot + n))) (by rw [List.length_map, hvl]; exact Nat.lt_trans hi200 (by decide)) ?_)
        rintro r rfl
        refine ⟨_, rfl, ks ++ [(Sum.inl (j : Int), .bool true)], tot + n, vals ++ [h - x + (tot + n)], .v (.d (.int (j : Nat))), .v (.d (.int x)), .v (.d (.int n)), .v (.d (.tuple [])), v9, ?_, fun p hp => ?_, (by rw [List.length_append]; exact Nat.succ_le_succ hkl), by rw [List.length_append, hvl]; rfl, ?_⟩
        · rw [List.map_append]; rfl
        · rcases List.mem_append.mp hp with q | q
          · obtain ⟨m, hm, e⟩ := hks p q
            exact ⟨m, Nat.lt_succ_of_lt hm, e⟩
          · rw [List.mem_singleton.mp q]
            exact ⟨j, Nat.lt_succ_self j, rfl⟩
        · rw [List.append_assoc]; exact heq
  · rintro u ⟨ks, tot, vals, u5, u6, u7, u8, u9, rfl, hks, hkl, hvl, heq⟩
    refine sd_one (sd_ret (tupO 4 rfl B.tuple) ?_)
    rintro r rfl
    rw [List.length_zipIdx, List.drop_length] at heq
    have heq : vals ++ [] = loadsA h 0 ds := heq
    rw [List.append_nil] at heq
    rw [heq]
end
end K33

-- part T6
set_option Elab.async false
set_option maxRecDepth 100000
set_option maxHeartbeats 4000000
set_option linter.all false
namespace Fw
open PySem PySem.Spec PyProof.Rows L2
/-! ### names of a comprehension's own -/
theorem ow1 {A : Type} {ds : List A} {x : Str} {j : Nat} {f : A → PyData} : ∀ d ∈ ds, ∀ p ∈ (fun d => [(j, f d)]) d, p.1 ∈ ([(x, j)] : List (Str × Nat)).map (·.2) := fun d _ p hp => by rw [List.mem_singleton.mp hp]; exact List.mem_singleton.mpr rfl
theorem ow2 {A : Type} {ds : List A} {x y : Str} {i j : Nat} {f g : A → PyData} : ∀ d ∈ ds, ∀ p ∈ (fun d => [(i, f d), (j, g d)]) d, p.1 ∈ ([(x, i), (y, j)] : List (Str × Nat)).map (·.2) := fun d _ p hp => by
  simp only [List.mem_cons, List.not_mem_nil, or_false] at hp
  rcases hp with rfl | rfl <;> simp
theorem ow3 {A : Type} {ds : List A} {x y z : Str} {i j k : Nat} {f g h : A → PyData} : ∀ d ∈ ds, ∀ p ∈ (fun d => [(i, f d), (j, g d), (k, h d)]) d, p.1 ∈ ([(x, i), (y, j), (z, k)] : List (Str × Nat)).map (·.2) := fun d _ p hp => by
  simp only [List.mem_cons, List.not_mem_nil, or_false] at hp
  rcases hp with rfl | rfl | rfl <;> simp
theorem no1 {t : Ty} {x : Str} {j : Nat} (h : t[j]? = some .no) : ∀ i ∈ ([(x, j)] : List (Str × Nat)).map (·.2), t[i]? = some .no := fun i hi => by rw [List.mem_singleton.mp hi]; exact h
theorem no2 {t : Ty} {x y : Str} {i j : Nat} (h : t[i]? = some .no) (h2 : t[j]? = some .no) : ∀ l ∈ ([(x, i), (y, j)] : List (Str × Nat)).map (·.2), t[l]? = some .no := fun l hl => by
  simp only [List.map_cons, List.map_nil, List.mem_cons, List.not_mem_nil, or_false] at hl
  rcases hl with rfl | rfl
  · exact h
  · exact h2
theorem no3 {t : Ty} {x y z : Str} {i j k : Nat} (h : t[i]? = some .no) (h2 : t[j]? = some .no) (h3 : t[k]? = some .no) : ∀ l ∈ ([(x, i), (y, j), (z, k)] : List (Str × Nat)).map (·.2), t[l]? = some .no := fun l hl => by
  simp only [List.map_cons, List.map_nil, List.mem_cons, List.not_mem_nil, or_false] at hl
  rcases hl with rfl | rfl | rfl
  · exact h
  · exact h2
  · exact h3
theorem putFP_le (f : Str) (v : PyData) : ∀ (fs : List (Str × PyData)), (putFP f v fs).length ≤ fs.length + 1
  | [] => Nat.le_refl _
  | p :: r => by
    show (if p.1 = f then (f, v) :: r else p :: putFP f v r).length ≤ _
    split
    · exact Nat.le_succ _
    · exact Nat.succ_le_succ (putFP_le f v r)
/-- a class of the text, its __init__ -/
def HasCls (K : PySem.W.Frag) (mg : Str → Option Value) (nm qual : Str) (C : Addr) (st : Stmt) (ps : List Str) : Prop := ∃ f fd, Fun K "__init__" qual st f fd ∧ Mk K C f ∧ mg nm = some (.ref C) ∧ Binds K fd ps []
def MakC (P : Program) (w : World) (K : PySem.W.Frag) (mg : Str → Option Value) (base : Heap) (nm : Str) (C : Addr) (k : Nat) (ps : List Str) (sp : Sp) : Prop :=
  ∃ f fd, Mk K C f ∧ FnOk P w K mg base CX0 k f fd ps sp ∧ mg nm = some (.ref C) ∧ Binds K fd ps []
section
variable {X : Cx} {e : Expr} {es : List Expr} {t : Ty} {R : Dt → Prop} {pos p : Pos} {nm : Str} {k n : Nat} {ps : List Str} {C : Addr}
theorem pm_mak {Phi : List Dt → List (Str × PyData) → Prop} {rs : List Dt} {fs : List (Str × PyData)} (M : MakC X.prog X.w X.K X.mg X.base nm C k ps (spI C n Phi)) (hr : Room (k + 1) X.A) (ha : PDA X (e :: es) t rs) (hl : rs.length = n) (h : Phi rs fs)
    (hg : Gl X nm := by rfl) (hdb : (nm == ("__debug__" : Str)) = false := by decide) (he : starEach (e :: es) X.env = (false, eval e X.env) :: starEach es X.env := by rfl) (hpl : (backTo pos (starEach es X.env)).any (·.1) = false := by rfl) : PM X (.Call (.Name nm p) (e :: es) [] pos) t (fun r => r = .ob C fs) := by
  obtain ⟨f, fd, g1, g2, g3, g4⟩ := M
  exact pm_make g1 g2 hr g3 g4 ha (fun rs' e' => by subst e'; exact ⟨hl, fs, h, rfl⟩) hg hdb he hpl
end
theorem mak_init {P : Program} {w : World} {K : PySem.W.Frag} {mg : Str → Option Value} {base : Heap} {nm qual : Str} {st : Stmt} {C : Addr} {n0 : Str} {N ps : List Str} {k n : Nat} {Phi : List Dt → List (Str × PyData) → Prop} (F : HasCls K mg nm qual C st ps) (S : FnScope (n0 :: N) ps (defScope st)) (hn : ps.length = n + 1)
    (body : ∀ (f : Addr) (cdv : Value) (A : Around) (outer : List Env) (s : Shared) (H : Hp) (E : XK), Room k (A.deeper (envOfC qual (defScope st) s.heap.objs.size f cdv)) → ∀ rs fs p dx, rs.length = n → Phi rs fs →
      SDs (bx P w K mg base (n0 :: N) qual st f cdv A outer s H E) (defBody st) (.ins p C dx [] :: startT N rs) ⟨fun t => t[0]? = some (.ins p C dx fs), fun _ _ => False, fun _ => False, fun _ => False⟩) : MakC P w K mg base nm C (k + 1) ps (spI C n Phi) := by
  obtain ⟨f, fd, h1, h2, h3, h4⟩ := F
  exact ⟨f, fd, h2, fn_init h1 S hn fun cdv A outer s H E => body f cdv A outer s H E, h3, h4⟩
end Fw
namespace K33
open PySem PySem.Spec PyProof.Rows L2 Fw
section
variable {P : Program} {w : World} {K : PySem.W.Frag} {mg : Str → Option Value} {base : Heap}
theorem loadsA_len (h : Int) : ∀ (ds : List Deed) (tot : Int), (loadsA h tot ds).length = ds.length
  | [], _ => rfl
  | (none, n) :: r, tot => by show (n :: loadsA h tot r).length = _; rw [List.length_cons, loadsA_len h r]; rfl
  | (some f, n) :: r, tot => by show ((h - f + (tot + n)) :: loadsA h (tot + n) r).length = _; rw [List.length_cons, loadsA_len h r]; rfl
def heavyL (c h : Int) (ds : List Deed) : List (Int × Nat) := (loadsA h 0 ds).zipIdx.filter fun p => decide (c < p.1)
abbrev s_too_heavy : Stmt := top 25
theorem sc_too_heavy : FnScope ["standing", "deed", "load"] ["standing"] (defScope s_too_heavy) := ⟨rfl, rfl, rfl, by decide +kernel, rfl, by decide +kernel, by decide +kernel⟩
def ph_too_heavy (C : Addr) (rs : List Dt) (r : Dt) : Prop := ∃ c h ds, rs = [stD C c h ds] ∧ ds.length ≤ 200 ∧ r = .d (.list ((heavyL c h ds).map fun p => .int (p.2 : Nat)))
theorem c_too_heavy {C : Addr} (F : HasFn K mg "too_heavy" s_too_heavy ["standing"]) (B : Bt mg) (T : StC K mg C) (C1 : Cal P w K mg base "loads_of" 2 ["standing"] (spP 1 (ph_loads_of C))) : Cal P w K mg base "too_heavy" 3 ["standing"] (spP 1 (ph_too_heavy C)) := by
  refine cal_pure F sc_too_heavy rfl fun f cdv A outer s H E hr rs r hl ⟨c, h, ds, e1, hds, e2⟩ => ?_
  subst e1 e2
  refine sd_one (sd_ret (pd_lc1 (A := Int × Nat) (ds := (loadsA h 0 ds).zipIdx) (enc := fun p => .tuple [.int (p.2 : Nat), .int p.1]) (own := [("deed", 1), ("load", 2)]) (bs := fun p => [(1, .int (p.2 : Nat)), (2, .int p.1)]) (c := fun p => decide (c < p.1)) (f := fun p => .int (p.2 : Nat)) rfl sc_too_heavy.nd
    (it_enumT (xs := loadsA h 0 ds) (enc := PyData.int) rfl B.enumerate (pd_cal C1 hr (ac (vr 0 rfl) pma_nil) rfl ⟨c, h, ds, rfl, hds, rfl⟩)) (blkOk_by (N := ["standing", "deed", "load"]) (sc := defScope s_too_heavy) (by decide +kernel))
    (fun _ _ _ _ _ => pg_tup (n := 2) rfl (pgs_cons (pg_name (i := 1) sc_too_heavy.nd rfl (.inl rfl)) (pgs_cons (pg_name (i := 2) sc_too_heavy.nd rfl (.inl rfl)) pgs_nil))) (fun d _ => tg_tup (tgs_cons tg_name (tgs_cons tg_name tgs_nil)) rfl) ow2 (no2 rfl rfl)
    (fun d _ _ _ _ _ _ => ct (vr 2 rfl) (fldC T (vr 0 rfl)) (cd_gt _ _)) (fun d _ _ _ _ _ _ _ => vr 1 rfl) (by rw [List.length_zipIdx, loadsA_len]; exact Nat.lt_of_le_of_lt hds (by decide))) ?_)
  exact fun r hr => hr
abbrev s_easy : Stmt := top 26
theorem sc_easy : FnScope ["standing"] ["standing"] (defScope s_easy) := ⟨rfl, rfl, rfl, by decide +kernel, rfl, by decide +kernel, by decide +kernel⟩
def easyB (c h : Int) (ds : List Deed) : Bool := decide (∀ x ∈ loadsA h 0 ds, x ≤ c)
theorem heavy_nil {c h : Int} {ds : List Deed} : decide ((((heavyL c h ds).map fun p => PyData.int (p.2 : Nat)).length : Int) = 0) = easyB c h ds := by
  unfold easyB heavyL
  rw [List.length_map]
  by_cases q : ∀ x ∈ loadsA h 0 ds, x ≤ c
  · rw [decide_eq_true q]
    have e : (loadsA h 0 ds).zipIdx.filter (fun p => decide (c < p.1)) = [] := by
      rw [List.filter_eq_nil_iff]
      rintro ⟨x, i⟩ hp
      have := q x (List.mem_of_getElem? (List.mem_zipIdx_iff_getElem?.mp hp))
      simp
      omega
    rw [e]
    rfl
  · rw [decide_eq_false q]
    apply decide_eq_false
    intro z
    have z : ((loadsA h 0 ds).zipIdx.filter (fun p => decide (c < p.1))).length = 0 := by omega
    have e := List.length_eq_zero_iff.mp z
    rw [List.filter_eq_nil_iff] at e
    apply q
    intro x hx
    obtain ⟨i, hi⟩ := List.getElem?_of_mem hx
    have := e (x, i) (List.mem_zipIdx_iff_getElem?.mpr hi)
    simp at this
    omega
def ph_easy (C : Addr) (rs : List Dt) (r : Dt) : Prop := ∃ c h ds, rs = [stD C c h ds] ∧ ds.length ≤ 200 ∧ r = .d (.bool (easyB c h ds))
theorem c_easy {C : Addr} (F : HasFn K mg "easy" s_easy ["standing"]) (B : Bt mg) (C1 : Cal P w K mg base "too_heavy" 3 ["standing"] (spP 1 (ph_too_heavy C))) : Cal P w K mg base "easy" 4 ["standing"] (spP 1 (ph_easy C)) := by
  refine cal_pure F sc_easy rfl fun f cdv A outer s H E hr rs r hl ⟨c, h, ds, e1, hds, e2⟩ => ?_
  subst e1 e2
  refine sd_one (sd_ret (cp (lenL B.len (pd_cal C1 hr (ac (vr 0 rfl) pma_nil) rfl ⟨c, h, ds, rfl, hds, rfl⟩)) pd_int (cd_eqI _ _)) ?_)
  rintro r rfl
  rw [heavy_nil]
abbrev s_is_easy : Stmt := top 27
theorem sc_is_easy : FnScope ["standing"] ["standing"] (defScope s_is_easy) := ⟨rfl, rfl, rfl, by decide +kernel, rfl, by decide +kernel, by decide +kernel⟩
theorem c_is_easy {C : Addr} (F : HasFn K mg "is_easy" s_is_easy ["standing"]) (C1 : Cal P w K mg base "easy" 4 ["standing"] (spP 1 (ph_easy C))) : Cal P w K mg base "is_easy" 5 ["standing"] (spP 1 (ph_easy C)) := by
  refine cal_pure F sc_is_easy rfl fun f cdv A outer s H E hr rs r hl ⟨c, h, ds, e1, hds, e2⟩ => ?_
  subst e1 e2
  refine sd_one (sd_ret (pd_cal C1 hr (ac (vr 0 rfl) pma_nil) rfl ⟨c, h, ds, rfl, hds, rfl⟩) ?_)
  exact fun r hr => hr
/-! ### Standing(cells, head, deeds) -/
def StOk (c h : Int) (ds : List Deed) : Prop := 1 ≤ c ∧ c ≤ 10 ^ 30 ∧ 0 ≤ h ∧ h ≤ 10 ^ 40 ∧ ds.length ≤ 200 ∧ Vf h (some (-1)) ds ∧ RoomOk c h ds
def ph_standing (rs : List Dt) (fs : List (Str × PyData)) : Prop := ∃ c h ds, rs = [.d (.int c), .d (.int h), .d (dsD ds)] ∧ StOk c h ds ∧ fs = ([("cells", .int c), ("head", .int h), ("deeds", dsD ds)] : List (Str × PyData))
abbrev s_standing : Stmt := inClass (top 22) 0
theorem sc_standing : FnScope ["self", "cells", "head", "deeds", "wrong", "first", "need", "waits"] ["self", "cells", "head", "deeds"] (defScope s_standing) := ⟨rfl, rfl, rfl, by decide +kernel, rfl, by decide +kernel, by decide +kernel⟩
theorem c_standing {C : Addr} (F : HasCls K mg "Standing" "Standing.__init__" C s_standing ["self", "cells", "head", "deeds"]) (B : Bt mg) (T : StC K mg C) {tk1 tk2 tk3 : Tok} (m1 : mg "MOST_CELLS" = some (.int (10 ^ 30) tk1)) (m2 : mg "MOST_HEAD" = some (.int (10 ^ 40) tk2)) (m3 : mg "MOST_DEEDS" = some (.int 200 tk3))
    (C1 : Cal P w K mg base "is_within" 2 ["thing", "least", "most"] (spP 3 ph_is_within)) (C2 : Cal P w K mg base "is_number" 3 ["thing", "most"] (spP 2 ph_is_number)) (C3 : Cal P w K mg base "first_wrong" 5 ["head", "deeds"] (spP 2 ph_first_wrong)) (C4 : Cal P w K mg base "is_too_far" 1 ["cells", "head", "deeds"] (spP 3 ph_is_too_far)) (C5 : Cal P w K mg base "first_in_ring" 2 ["waits"] (spP 1 ph_first_in_ring)) :
    MakC P w K mg base "Standing" C 6 ["self", "cells", "head", "deeds"] (spI C 3 ph_standing) := by
  refine mak_init F sc_standing rfl fun f cdv A outer s H E hr rs fs p dx hl ⟨c, h, ds, e1, ⟨c1, c2, h1, h2, hds, hv, hro⟩, e2⟩ => ?_
  subst e1 e2
  refine sd_cons (sd_if (pdt_not (PD.tst (pd_cal C1 (hr.mono (by decide)) (ac (vr 1 rfl) (ac pd_int (ac (pd_globI rfl m1) pma_nil))) rfl ⟨_, _, _, rfl, rfl⟩))) (fun q => ?_) fun _ => sd_nil ?_)
  · exfalso
    have q : true = !(decide (1 ≤ c) && decide (c ≤ 10 ^ 30)) := q
    rw [decide_eq_true c1, decide_eq_true c2] at q
    cases q
  refine sd_cons (sd_if (pdt_not (PD.tst (pd_cal C2 (hr.mono (by decide)) (ac (vr 2 rfl) (ac (pd_globI rfl m2) pma_nil)) rfl ⟨_, _, rfl, rfl⟩))) (fun q => ?_) fun _ => sd_nil ?_)
  · exfalso
    have q : true = !(decide (0 ≤ h) && decide (h ≤ 10 ^ 40)) := q
    rw [decide_eq_true h1, decide_eq_true h2] at q
    cases q
  refine sd_cons (sd_if (PWD.tst (pdw_or (pdt_not (PD.tst (isT B.isinstance B.tuple (vr 3 rfl)))) fun _ => pwd_or1 (ct (lenT B.len (vr 3 rfl)) (pd_globI rfl m3) (cd_gt _ _)))) (fun q => ?_) fun _ => sd_nil ?_)
  · exfalso
    have q : true = (false || decide ((200 : Int) < ((ds.map encD).length : Nat))) := q
    rw [List.length_map, decide_eq_false (by omega)] at q
    cases q
  refine sd_cons (sd_asg 4 sc_standing.nd rfl (.inl rfl) (pd_cal C3 hr (ac (vr 2 rfl) (ac (vr 3 rfl) pma_nil)) rfl ⟨h, ds, rfl, hv, rfl⟩) ?_)
  rintro r rfl
  refine sd_cons (sd_if (ct (vr 4 rfl) pd_non cd_notN) (fun q => by cases q) fun _ => sd_nil ?_)
  refine sd_cons (sd_if (PD.tst (pd_cal C4 (hr.mono (by decide)) (ac (vr 1 rfl) (ac (vr 2 rfl) (ac (vr 3 rfl) pma_nil))) rfl ⟨c, h, ds, rfl, hro, rfl⟩)) (fun q => by cases q) fun _ => sd_nil ?_)
  refine sd_cons (sd_asg 4 sc_standing.nd rfl (.inl rfl) (pd_cal C5 (hr.mono (by decide)) (ac (pd_lc0 (A := Deed) (ds := ds) (enc := encD) (own := [("first", 5), ("need", 6), ("waits", 7)]) (bs := fun d => [(5, encF d.1), (6, .int d.2), (7, .tuple [])]) (f := fun _ => .tuple []) rfl sc_standing.nd (it_tup (vr 3 rfl)) (blkOk_by (N := ["self", "cells", "head", "deeds", "wrong", "first", "need", "waits"]) (sc := defScope s_standing) (by decide +kernel))
    (fun _ _ _ _ _ => pg_tup (n := 3) rfl (pgs_cons (pg_name (i := 5) sc_standing.nd rfl (.inl rfl)) (pgs_cons (pg_name (i := 6) sc_standing.nd rfl (.inl rfl)) (pgs_cons (pg_name (i := 7) sc_standing.nd rfl (.inl rfl)) pgs_nil)))) (fun d _ => tg_tup (tgs_cons tg_name (tgs_cons tg_name (tgs_cons tg_name tgs_nil))) rfl) ow3 (no3 rfl rfl rfl) (fun d _ _ _ _ _ _ => vr 7 rfl) (Nat.lt_of_le_of_lt hds (by decide))) pma_nil) rfl ⟨ds, rfl, rfl⟩) ?_)
  rintro r rfl
  refine sd_cons (sd_if (ct (vr 4 rfl) pd_non cd_notN) (fun q => by cases q) fun _ => sd_nil ?_)
  refine sd_cons (sd_fld 0 rfl (.inl rfl) rfl T.cl T.nC (vr 1 rfl) (by decide) ?_)
  refine sd_cons (sd_fld 0 rfl (.inl rfl) rfl T.cl T.nH (vr 2 rfl) (Nat.lt_of_le_of_lt (putFP_le _ _ _) (by decide)) ?_)
  refine sd_one (sd_fld 0 rfl (.inl rfl) rfl T.cl T.nD (vr 3 rfl) (Nat.lt_of_le_of_lt (putFP_le _ _ _) (Nat.lt_of_le_of_lt (Nat.succ_le_succ (putFP_le _ _ _)) (by decide))) ?_)
  rfl
end
end K33

-- part FwLed2
set_option Elab.async false
set_option maxRecDepth 100000
set_option maxHeartbeats 4000000
set_option linter.all false
namespace Fw
open PySem PySem.Spec PyProof.Rows L2
theorem SlK.stay {F H F' H' : Hp} {v : Option V} {s : Sl} (h : SlK F H v s) (ff : Same F F') (nf : ∀ a, H a ≠ none → F a = none → F' a = none) (un : ∀ a, s.ad = some a → ∀ o, H a = some o → H' a = some o) : SlK F' H' v s := by
  cases s with
  | no => trivial
  | v r => obtain ⟨y, g1, g2⟩ := h; exact ⟨y, g1, g2.up ff⟩
  | lst a xs => obtain ⟨g1, g2, vs, g3, g4⟩ := h; exact ⟨g1, nf a (by rw [g3]; intro z; cases z) g2, vs, un a rfl _ g3, g4.up ff⟩
  | dct a xs => obtain ⟨g1, g2, vs, g3, g4⟩ := h; exact ⟨g1, nf a (by rw [g3]; intro z; cases z) g2, vs, un a rfl _ g3, g4.up ff⟩
  | hand a => obtain ⟨g1, g2, vs, hs, g3, g4, g5⟩ := h; exact ⟨g1, nf a (by rw [g3]; intro z; cases z) g2, vs, hs, un a rfl _ g3, g4.up ff, g5⟩
  | rf a => exact h
  | ins a C dx fs => obtain ⟨g1, g2, vs, g3, g4⟩ := h; exact ⟨g1, nf a (by rw [g3]; intro z; cases z) g2, vs, un a rfl _ g3, g4.up ff⟩
  | obj a C dx vs => obtain ⟨g1, g2, g3⟩ := h; exact ⟨g1, nf a (by rw [g3]; intro z; cases z) g2, un a rfl _ g3⟩
  | gd a ks => obtain ⟨g2, vs, g3, g4⟩ := h; exact ⟨nf a (by rw [g3]; intro z; cases z) g2, vs, un a rfl _ g3, g4.up ff⟩
  | xt a S ks => obtain ⟨g1, g2, o, vs, g3, g4, g5⟩ := h; exact ⟨g1, nf a (by rw [g3]; intro z; cases z) g2, o, vs, un a rfl _ g3, g4, g5.up ff⟩
theorem ows_eq {t t' : Ty} (h : t'.map Sl.ad = t.map Sl.ad) : ows t' = ows t := by
  have e : ∀ u : Ty, ows u = (u.map Sl.ad).filterMap id := fun u => by unfold ows; rw [List.filterMap_map]; rfl
  rw [e, e, h]
theorem ad_set {t : Ty} {i : Nat} {s s' : Sl} (h : t[i]? = some s) (e : s'.ad = s.ad) : (t.set i s').map Sl.ad = t.map Sl.ad := by
  apply List.ext_getElem?
  intro j
  rw [List.getElem?_map, List.getElem?_map]
  by_cases q : i = j
  · subst q
    rw [List.getElem?_set_self (List.getElem?_eq_some_iff.mp h).1, h]
    exact congrArg some e
  · rw [List.getElem?_set_ne q]
/-- several things of one's own have changed -/
theorem StO.muts {N : En} {F H F' H' : Hp} {sg : St} {t t' : Ty} (S : StO N F H sg t) (W : Addr → Prop) (ho : t'.map Sl.ad = t.map Sl.ad) (hs : ∀ (i : Nat) s', t'[i]? = some s' → ∃ s, t[i]? = some s ∧ ((s' = s ∧ ∀ a, s.ad = some a → ¬ W a) ∨ ∀ v, SlK F H v s → SlK F' H' v s')) (hW : ∀ a, W a → a ∈ ows t)
    (ff : Same F F') (fh : Same F' H') (nf : ∀ b, H b ≠ none → F b = none → F' b = none) (un : ∀ b o, ¬ W b → H b = some o → H' b = some o) (na : ∀ b, W b → H' b ≠ none) : StO N F' H' sg t' := by
  have eo := ows_eq ho
  have el : t'.length = t.length := by have := congrArg List.length ho; rwa [List.length_map, List.length_map] at this
  refine ⟨by rw [el]; exact S.ln, fh, S.f0.trans ff, fun b h1 h2 => nf b (S.th b h1) (S.nf b h1 h2), fun b o h1 h2 => un b o (fun z => ?_) (S.un b o h1 h2), fun b h => ?_, fun i s' hi => ?_, fun a ha => S.ow a (by rwa [eo] at ha), by rw [eo]; exact S.ap⟩
  · rcases S.ow b (hW b z) with q | q
    · rw [h1] at q; cases q
    · exact h2 q
  · by_cases z : W b
    · exact na b z
    · have q := S.th b h
      intro w
      cases e2 : H b with
      | none => exact q e2
      | some o => rw [un b o z e2] at w; cases w
  · obtain ⟨s, h1, h2⟩ := hs i s' hi
    obtain ⟨v, g1, g2⟩ := S.sl i s h1
    rcases h2 with ⟨e, hn⟩ | h2
    · subst e
      exact ⟨v, g1, g2.stay ff nf fun a ha o ho => un a o (hn a ha) ho⟩
    · exact ⟨v, g1, h2 v g2⟩
/-- slot i takes a thing kept aside -/
theorem StO.hold {N : En} {F H : Hp} {sg : St} {t : Ty} (S : StO N F H sg t) {i : Nat} {D : Addr} {s : Sl} (e : s.ad = some D) (hn : N.H D = none ∨ N.bor D) (ho : D ∉ ows t) (h : ∀ v, SlK F H v s) : StO N F H sg (t.set i s) := by
  refine ⟨by rw [List.length_set, S.ln], S.fh, S.f0, S.nf, S.un, S.th, fun j u hj => ?_, fun a ha => ?_, ows_set_own e S.ap (.inl ho)⟩
  · by_cases q : i = j
    · subst q
      have hl : i < t.length := by
        have z := (List.getElem?_eq_some_iff.mp hj).1
        rwa [List.length_set] at z
      rw [List.getElem?_set_self hl] at hj
      cases hj
      exact ⟨_, List.getElem?_eq_getElem (by rw [S.ln]; exact hl), h _⟩
    · rw [List.getElem?_set_ne q] at hj
      exact S.sl j u hj
  · obtain ⟨x, hx, ex⟩ := List.mem_filterMap.mp ha
    rcases List.mem_or_eq_of_mem_set hx with q | q
    · exact S.ow a (List.mem_filterMap.mpr ⟨x, q, ex⟩)
    · subst q
      rw [e] at ex
      cases ex
      exact hn
/-! ### a leader: an instance with two numbers and two dicts -/
structure Led where
  c : Int
  h : Int
  rest : List (Int × Int)
  firsts : List (Int × Int)
def kdI (l : List (Int × Int)) : Kd := l.map fun p => (Sum.inl p.1, .int p.2)
def ledF (L : Led) (r g : Addr) : List (Str × V) := [("cells", .int L.c), ("head", .int L.h), ("rest", .ref r), ("firsts", .ref g)]
structure LedAt (F H : Hp) (a C dx r g : Addr) (L : Led) : Prop where
  fa : F a = none
  fr : F r = none
  fg : F g = none
  ar : a ≠ r
  ag : a ≠ g
  rg : r ≠ g
  oa : H a = some (.ins C dx (ledF L r g))
  or : ∃ kr, H r = some (.dK kr) ∧ KvR F kr (kdI L.rest)
  og : ∃ kg, H g = some (.dK kg) ∧ KvR F kg (kdI L.firsts)
def spL (C : Addr) (n : Nat) (Phi : Led → List Dt → Bool → Led → Prop) : Sp := fun vs H Q _ => vs.length = n + 1 ∧ ∃ (F : Hp) (a dx r g : Addr) (vs' : List V) (rs : List Dt) (L L' : Led) (b : Bool), vs = .ref a :: vs' ∧ Same F H ∧ LedAt F H a C dx r g L ∧ DtA F vs' rs ∧ Phi L rs b L' ∧
  ∀ F' H', Same F F' → Same F' H' → (∀ x, H x ≠ none → F x = none → F' x = none) → (∀ x o, x ≠ a → x ≠ r → x ≠ g → H x = some o → H' x = some o) → LedAt F' H' a C dx r g L' → Q (.bl b) H'
/-- the leader at slot i, its dicts at slots j, k -/
structure LedS (t : Ty) (i j k : Nat) (a C dx r g : Addr) (L : Led) : Prop where
  i : t[i]? = some (.obj a C dx (ledF L r g))
  j : t[j]? = some (.gd r (kdI L.rest))
  k : t[k]? = some (.gd g (kdI L.firsts))
def ledT (t : Ty) (i j k : Nat) (a C dx r g : Addr) (L : Led) : Ty := ((t.set i (.obj a C dx (ledF L r g))).set j (.gd r (kdI L.rest))).set k (.gd g (kdI L.firsts))
theorem LedS.ne {t : Ty} {i j k : Nat} {a C dx r g : Addr} {L : Led} (h : LedS t i j k a C dx r g L) (nd : (ows t).Nodup) (hjk : j ≠ k) : a ≠ r ∧ a ≠ g ∧ r ≠ g ∧ i ≠ j ∧ i ≠ k := by
  have ij : i ≠ j := fun z => by have := h.j; rw [← z, h.i] at this; cases this
  have ik : i ≠ k := fun z => by have := h.k; rw [← z, h.i] at this; cases this
  refine ⟨fun z => ij (ows_inj nd h.i h.j rfl (by rw [z]; rfl)), fun z => ik (ows_inj nd h.i h.k rfl (by rw [z]; rfl)), fun z => hjk (ows_inj nd h.j h.k rfl (by rw [z]; rfl)), ij, ik⟩
theorem LedS.at_ {N : En} {F H : Hp} {sg : St} {t : Ty} {i j k : Nat} {a C dx r g : Addr} {L : Led} (h : LedS t i j k a C dx r g L) (S : StO N F H sg t) (hjk : j ≠ k) : LedAt F H a C dx r g L := by
  obtain ⟨n1, n2, n3, _, _⟩ := h.ne S.ap hjk
  obtain ⟨_, _, _, a2, a3⟩ := S.sl i _ h.i
  obtain ⟨_, _, b1, b2, b3, b4⟩ := S.sl j _ h.j
  obtain ⟨_, _, c1, c2, c3, c4⟩ := S.sl k _ h.k
  exact ⟨a2, b1, c1, n1, n2, n3, a3, ⟨b2, b3, b4⟩, ⟨c2, c3, c4⟩⟩
/-- the leader after a doing -/
theorem LedS.mut {N : En} {F H F' H' : Hp} {sg : St} {t : Ty} {i j k : Nat} {a C dx r g : Addr} {L L' : Led} (h : LedS t i j k a C dx r g L) (S : StO N F H sg t) (hjk : j ≠ k) (ff : Same F F') (fh : Same F' H') (nf : ∀ x, H x ≠ none → F x = none → F' x = none) (un : ∀ x o, x ≠ a → x ≠ r → x ≠ g → H x = some o → H' x = some o) (A : LedAt F' H' a C dx r g L') :
    StO N F' H' sg (ledT t i j k a C dx r g L') := by
  obtain ⟨n1, n2, n3, ij, ik⟩ := h.ne S.ap hjk
  have hj1 : (t.set i (.obj a C dx (ledF L' r g)))[j]? = some (.gd r (kdI L.rest)) := by rw [List.getElem?_set_ne ij]; exact h.j
  have hk1 : ((t.set i (.obj a C dx (ledF L' r g))).set j (.gd r (kdI L'.rest)))[k]? = some (.gd g (kdI L.firsts)) := by rw [List.getElem?_set_ne hjk, List.getElem?_set_ne ik]; exact h.k
  refine S.muts (fun x => x = a ∨ x = r ∨ x = g) ?_ (fun q s' hq => ?_) ?_ ff fh nf (fun b o hb => un b o (fun z => hb (.inl z)) (fun z => hb (.inr (.inl z))) fun z => hb (.inr (.inr z))) ?_
  · unfold ledT
    exact (ad_set (s' := .gd g (kdI L'.firsts)) hk1 rfl).trans ((ad_set (s' := .gd r (kdI L'.rest)) hj1 rfl).trans (ad_set (s' := .obj a C dx (ledF L' r g)) h.i rfl))
  · unfold ledT at hq
    by_cases qk : k = q
    · subst qk
      rw [List.getElem?_set_self (by have := (List.getElem?_eq_some_iff.mp hk1).1; exact this)] at hq
      cases hq
      obtain ⟨kg, e1, e2⟩ := A.og
      exact ⟨_, h.k, .inr fun v _ => ⟨A.fg, kg, e1, e2⟩⟩
    · rw [List.getElem?_set_ne qk] at hq
      by_cases qj : j = q
      · subst qj
        rw [List.getElem?_set_self (by have := (List.getElem?_eq_some_iff.mp hj1).1; exact this)] at hq
        cases hq
        obtain ⟨kg, e1, e2⟩ := A.or
        exact ⟨_, h.j, .inr fun v _ => ⟨A.fr, kg, e1, e2⟩⟩
      · rw [List.getElem?_set_ne qj] at hq
        by_cases qi : i = q
        · subst qi
          rw [List.getElem?_set_self (List.getElem?_eq_some_iff.mp h.i).1] at hq
          cases hq
          exact ⟨_, h.i, .inr fun v hv => ⟨hv.1, A.fa, A.oa⟩⟩
        · rw [List.getElem?_set_ne qi] at hq
          refine ⟨s', hq, .inl ⟨rfl, fun x hx z => ?_⟩⟩
          rcases z with z | z | z
          · exact qi (ows_inj S.ap h.i hq rfl (by rw [hx, z]))
          · exact qj (ows_inj S.ap h.j hq rfl (by rw [hx, z]))
          · exact qk (ows_inj S.ap h.k hq rfl (by rw [hx, z]))
  · rintro x (z | z | z)
    · rw [z]; exact ows_mem h.i rfl
    · rw [z]; exact ows_mem h.j rfl
    · rw [z]; exact ows_mem h.k rfl
  · rintro x (z | z | z)
    · rw [z, A.oa]; intro y; cases y
    · obtain ⟨_, e, _⟩ := A.or; rw [z, e]; intro y; cases y
    · obtain ⟨_, e, _⟩ := A.og; rw [z, e]; intro y; cases y
/-! ### methods -/
def HasMth (K : PySem.W.Frag) (m qual : Str) (C : Addr) (st : Stmt) (ps : List Str) : Prop := ∃ f fd, Fun K m qual st f fd ∧ Meth K C m f ∧ Binds K fd ps []
def Mth (P : Program) (w : World) (K : PySem.W.Frag) (mg : Str → Option Value) (base : Heap) (m : Str) (C : Addr) (k : Nat) (ps : List Str) (sp : Sp) : Prop :=
  ∃ f fd, FnOk P w K mg base CX0 k f fd ps sp ∧ Meth K C m f ∧ Binds K fd ps []
section
variable {X : Cx} {e : Expr} {es : List Expr} {t : Ty} {pos p nx ap : Pos} {x m : Str} {n k : Nat} {ps : List Str} {a C dx r g : Addr} {L L' : Led} {b : Bool} {Phi : Led → List Dt → Bool → Led → Prop}
/-- o.m(e, ..), o the leader -/
theorem pms_meth {rs : List Dt} (i j l : Nat) (hjl : j ≠ l) (M : Mth X.prog X.w X.K X.mg X.base m C k ps (spL C n Phi)) (hr : Room k X.A) (hc : Cls X.K C) (hS : LedS t i j l a C dx r g L) (ha : PDA X (e :: es) t rs) (hl : rs.length = n) (hP : Phi L rs b L') (hm : (ledF L r g).lookup m = none := by rfl) (hN : X.N[i]? = some x := by rfl)
    (hv : Vis X.env.scope x := by first | exact Or.inl rfl | exact Or.inr (Or.inl rfl) | exact Or.inr (Or.inr rfl)) (hd : (x == ("__debug__" : Str)) = false := by decide) (hcd : (x == ("__classdict__" : Str)) = false := by decide) (hst : starEach (e :: es) X.env = (false, eval e X.env) :: starEach es X.env := by rfl) (hpl : (backTo pos (starEach es X.env)).any (·.1) = false := by rfl) {pl : Sem Bool}
    (ht : eval (.Call (.Attribute (.Name x nx) m ap) (e :: es) [] pos) X.env = (do
      let ov ← eval (.Name x nx) X.env
      standAt ap.atName
      let (f, first) ← holding [ov] (getMethod ov m pl)
      callWith pos f first (backTo pos (starEach (e :: es) X.env)) (backToKw pos (keywordEach [] X.env))) := by rfl) :
    PMS X (.Call (.Attribute (.Name x nx) m ap) (e :: es) [] pos) t (fun z t' => z = .d (.bool b) ∧ t' = ledT t i j l a C dx r g L') := fun N sg F H Q S q => by
  obtain ⟨f, fd, G, hM, hb⟩ := M
  refine use_e (pe_meth (pl := pl) (dvs := []) (E := E0) (pe_var hN hv hd hcd) hc hM G hr hb .nil pass0 (pa_of X _) hst hpl ht) ?_
  have A0 := hS.at_ S hjl
  obtain ⟨v0, g1, rfl, g2, g3⟩ := S.sl i _ hS.i
  refine ⟨_, g1, a, dx, _, rfl, g3, hm, ha N sg F H _ S fun vs F1 H1 rs1 S1 s1 d1 hr1 => ?_⟩
  subst hr1
  rw [List.append_nil]
  exact ⟨by rw [List.length_cons, d1.len, hl], F1, a, dx, r, g, vs, rs1, L, L', b, rfl, S1.fh, hS.at_ S1 hjl, d1, hP, fun F' H' ff fh nf un A => q _ F' H' (.d _) _ (hS.mut S1 hjl ff fh nf un A) (s1.trans ff) (Dq.bl b) ⟨rfl, rfl⟩⟩
theorem pms_meth0 (i j l : Nat) (hjl : j ≠ l) (M : Mth X.prog X.w X.K X.mg X.base m C k ps (spL C 0 Phi)) (hr : Room k X.A) (hc : Cls X.K C) (hS : LedS t i j l a C dx r g L) (hP : Phi L [] b L') (hm : (ledF L r g).lookup m = none := by rfl) (hN : X.N[i]? = some x := by rfl)
    (hv : Vis X.env.scope x := by first | exact Or.inl rfl | exact Or.inr (Or.inl rfl) | exact Or.inr (Or.inr rfl)) (hd : (x == ("__debug__" : Str)) = false := by decide) (hcd : (x == ("__classdict__" : Str)) = false := by decide) {pl : Sem Bool}
    (ht : eval (.Call (.Attribute (.Name x nx) m ap) [] [] pos) X.env = (do
      let ov ← eval (.Name x nx) X.env
      standAt ap.atName
      let (f, first) ← holding [ov] (getMethod ov m pl)
      callWith pos f first (backTo pos (starEach [] X.env)) (backToKw pos (keywordEach [] X.env))) := by rfl) :
    PMS X (.Call (.Attribute (.Name x nx) m ap) [] [] pos) t (fun z t' => z = .d (.bool b) ∧ t' = ledT t i j l a C dx r g L') := fun N sg F H Q S q => by
  obtain ⟨f, fd, G, hM, hb⟩ := M
  refine use_e (pe_meth0 (pl := pl) (dvs := []) (E := E0) (pe_var hN hv hd hcd) hc hM G hr hb .nil pass0 ht) ?_
  have A0 := hS.at_ S hjl
  obtain ⟨v0, g1, rfl, g2, g3⟩ := S.sl i _ hS.i
  exact ⟨_, g1, a, dx, _, rfl, g3, hm, rfl, F, a, dx, r, g, [], [], L, L', b, rfl, S.fh, A0, .nil, hP, fun F' H' ff fh nf un A => q _ F' H' (.d _) _ (hS.mut S hjl ff fh nf un A) ff (Dq.bl b) ⟨rfl, rfl⟩⟩
end
/-- a method of the leader, by its body -/
theorem mth_led {P : Program} {w : World} {K : PySem.W.Frag} {mg : Str → Option Value} {base : Heap} {m qual : Str} {st : Stmt} {C : Addr} {n0 : Str} {N ps : List Str} {k n : Nat} {Phi : Led → List Dt → Bool → Led → Prop} (j l : Nat) (hj : 0 < j) (hjl : j < l) (hl : l < N.length + 1) (HM : HasMth K m qual C st ps) (S : FnScope (n0 :: N) ps (defScope st)) (hn : ps.length = n + 1)
    (body : ∀ (f : Addr) (cdv : Value) (A : Around) (outer : List Env) (s : Shared) (H : Hp) (E : XK), Room k (A.deeper (envOfC qual (defScope st) s.heap.objs.size f cdv)) → ∀ rs a dx r g L b L', rs.length = n → Phi L rs b L' →
      SDs (bx P w K mg base (n0 :: N) qual st f cdv A outer s H E) (defBody st) (ledT (.obj a C dx (ledF L r g) :: startT N rs) 0 j l a C dx r g L) ⟨fun _ => False, fun z t' => z = .d (.bool b) ∧ LedS t' 0 j l a C dx r g L', fun _ => False, fun _ => False⟩) : Mth P w K mg base m C (k + 1) ps (spL C n Phi) := by
  obtain ⟨f, fd, h1, h2, h3⟩ := HM
  refine ⟨f, fd, h1.ok S (fun vs H Q E h => by rw [hn]; exact h.1) fun cdv A outer s H vs Q E hr h => ?_, h2, h3⟩
  obtain ⟨hlv, F0, a, dx, r, g, vs', rs, L, L', b, rfl, fh, LA, da, ph, q⟩ := h
  have hlen := da.len
  have hN : rs.length ≤ N.length := by
    have e1 := congrArg List.length S.pre
    rw [List.length_take, List.length_cons] at e1
    rw [List.length_cons] at hlv
    omega
  have eS : L2.start (n0 :: N) (.ref a :: vs') = some (.ref a) :: L2.start N vs' := by
    unfold L2.start
    rw [List.map_cons, List.length_cons, List.length_cons, Nat.add_sub_add_right]
    rfl
  have S0 := start_sto (N := N) fh da hN
  have no : ows (startT N rs) = [] := no_ows fun s hs => by
    unfold startT at hs
    rcases List.mem_append.mp hs with z | z
    · obtain ⟨r, _, e⟩ := List.mem_map.mp z
      subst e; rfl
    · rw [(List.mem_replicate.mp z).2]; rfl
  have ew : ∀ y, ows (.obj a C dx y :: startT N rs) = [a] := fun y => by
    show List.filterMap Sl.ad (.obj a C dx y :: startT N rs) = _
    rw [List.filterMap_cons]
    show a :: ows (startT N rs) = [a]
    rw [no]
  have S1 : StO ⟨F0, H, fun x => x = a ∨ x = r ∨ x = g⟩ F0 H (L2.start (n0 :: N) (.ref a :: vs')) (.obj a C dx (ledF L r g) :: startT N rs) := by
    rw [eS]
    refine ⟨by rw [List.length_cons, List.length_cons, S0.ln], fh, Same.refl _, fun a _ z => z, fun a o z _ => z, fun a z => z, fun i u hi => ?_, fun x ha => ?_, by rw [ew]; simp⟩
    · cases i with
      | zero =>
        have z : Sl.obj a C dx (ledF L r g) = u := by simpa using hi
        subst z
        exact ⟨_, rfl, rfl, LA.fa, LA.oa⟩
      | succ i =>
        obtain ⟨v, h1, h2⟩ := S0.sl i u (by simpa using hi)
        exact ⟨v, by simpa using h1, h2⟩
    · rw [ew] at ha
      exact .inr (.inl (List.mem_singleton.mp ha))
  have et : (Sl.obj a C dx (ledF L r g) :: startT N rs).set 0 (.obj a C dx (ledF L r g)) = .obj a C dx (ledF L r g) :: startT N rs := rfl
  obtain ⟨kr, r1, r2⟩ := LA.or
  obtain ⟨kg, g1, g2⟩ := LA.og
  have S2 : StO ⟨F0, H, fun x => x = a ∨ x = r ∨ x = g⟩ F0 H (L2.start (n0 :: N) (.ref a :: vs')) ((Sl.obj a C dx (ledF L r g) :: startT N rs).set j (.gd r (kdI L.rest))) := S1.hold (D := r) rfl (.inr (.inr (.inl rfl))) (by rw [ew]; exact fun z => LA.ar (List.mem_singleton.mp z).symm) fun v => ⟨LA.fr, kr, r1, r2⟩
  have S3 : StO ⟨F0, H, fun x => x = a ∨ x = r ∨ x = g⟩ F0 H (L2.start (n0 :: N) (.ref a :: vs')) (((Sl.obj a C dx (ledF L r g) :: startT N rs).set j (.gd r (kdI L.rest))).set l (.gd g (kdI L.firsts))) := S2.hold (D := g) rfl (.inr (.inr (.inr rfl))) (fun z => by
    obtain ⟨s, hs, es⟩ := List.mem_filterMap.mp z
    rcases List.mem_or_eq_of_mem_set hs with q | q
    · have := List.mem_filterMap.mpr ⟨s, q, es⟩
      have : g ∈ ows (Sl.obj a C dx (ledF L r g) :: startT N rs) := this
      rw [ew] at this
      exact LA.ag (List.mem_singleton.mp this).symm
    · subst q
      cases es
      exact LA.rg rfl) fun v => ⟨LA.fg, kg, g1, g2⟩
  refine ⟨tbOf _ _, pb_of _ _, body f cdv A outer s H E hr rs a dx r g L b L' (by rw [List.length_cons] at hlv; omega) ph _ _ F0 H _ (by unfold ledT; rw [et]; exact S3) ⟨fun _ _ _ _ _ z => z.elim, fun v F1 H1 sg t z S4 dz hz => ?_, fun _ _ _ _ _ z => z.elim, fun _ _ _ _ _ z => z.elim⟩⟩
  obtain ⟨e1, hL⟩ := hz
  subst e1
  cases dz
  exact q F1 H1 S4.f0 S4.fh S4.nf (fun x o x1 x2 x3 hx => S4.un x o hx fun z => z.elim x1 fun z => z.elim x2 x3) (hL.at_ S4 (Nat.ne_of_lt hjl))
end Fw

-- part FwLed3
set_option Elab.async false
set_option maxRecDepth 100000
set_option maxHeartbeats 4000000
set_option linter.all false
namespace Fw
open PySem PySem.Spec PyProof.Rows L2
section
variable {A : Type} {X : Cx} {kx vx tg it cnd : Expr} {scope : Scope} {own : List (Str × Nat)} {pos spos nx ap : Pos} {t : Ty} {ds : List A} {enc : A → PyData} {g : TG} {bs : A → List (Nat × PyData)} {c : A → Bool} {key : A → Int} {val : A → PyData} {R : Po} {y f : Str} {a C dx : Addr} {vs : List (Str × V)}
/-- self.f = {kx: vx for tg in it if cnd} -/
theorem sd_fldDc (i j : Nat) (hij : i ≠ j) (hc : X.calm = true) (hN : X.N.Nodup) (hy : X.N[i]? = some y) (hv : Vis X.env.scope y) (hsw : swapsWith (.DictComp kx vx [⟨tg, it, [cnd], 0⟩] scope pos) (some (.Attribute (.Name y nx) f ap)) spos.line X.env = pure false) (hti : t[i]? = some (.obj a C dx vs)) (hcl : Cls X.K C) (hna : NoAttr X.K C f) (hl : vs.length < 1000)
    (hi : ItD X tg it t (ds.map enc)) (ok : BlkOk X.N X.env.scope scope own) (hg : PGB X scope tg g) (ht : ∀ d ∈ ds, TgS g (enc d) (bs d)) (hb : ∀ d ∈ ds, ∀ p ∈ bs d, p.1 ∈ own.map (·.2)) (hno : ∀ j ∈ own.map (·.2), t[j]? = some .no)
    (hcn : ∀ d ∈ ds, PMTB X scope cnd (setsT t (bs d)) (fun b => b = c d)) (hk : ∀ d ∈ ds, c d = true → PMB X scope kx (setsT t (bs d)) (fun r => r = .d (.int (key d)))) (he : ∀ d ∈ ds, c d = true → PMB X scope vx (setsT t (bs d)) (fun r => r = .d (val d))) (hnd : ((ds.filter c).map key).Nodup) (hz : ds.length < sizeLine)
    (k : ∀ D, D ∉ ows t → R.nx ((t.set i (.obj a C dx (putF f (.ref D) vs))).set j (.gd D ((ds.filter c).map fun a => (Sum.inl (key a), val a))))) (hs : ∀ x, foldedSetIterable it X.env x = pure x := by intro _; rfl) (hd : (y == ("__debug__" : Str)) = false := by decide) (hcd : (y == ("__classdict__" : Str)) = false := by decide) : SD X (.Assign [.Attribute (.Name y nx) f ap] (.DictComp kx vx [⟨tg, it, [cnd], 0⟩] scope pos) spos) t R := fun N sg F H Ds S q => by
  obtain ⟨wi, hpi, hw⟩ := hi
  refine use_s (ps_fld (pe_var hy hv hd hcd) (pe_dc (tt := ttB X scope cnd) (tk := teB X scope kx) (tv := teB X scope vx) hc hN hpi ok hg (fun s H0 C cl fp => pts_one ⟨fun pins s' sg H Q I h => (by first | exact te_at (h s H0 C cl fp) pins s' I | exact tt_at (h s H0 C cl fp) pins s' I)⟩) (fun s H0 C cl fp => ⟨fun pins s' sg H Q I h => (by first | exact te_at (h s H0 C cl fp) pins s' I | exact tt_at (h s H0 C cl fp) pins s' I)⟩) (fun s H0 C cl fp => ⟨fun pins s' sg H Q I h => (by first | exact te_at (h s H0 C cl fp) pins s' I | exact tt_at (h s H0 C cl fp) pins s' I)⟩) hs) hsw) ?_
  refine dc_read (c := c) (key := key) (val := val) hw ht hb hno (fun d hd N sg F H Q S q s H0 C cl fp => hcn d hd s H0 C cl fp N sg F H Q S q) (fun d hd hcd N sg F H Q S q s H0 C cl fp => hk d hd hcd s H0 C cl fp N sg F H Q S q) (fun d hd hcd N sg F H Q S q s H0 C cl fp => he d hd hcd s H0 C cl fp N sg F H Q S q)
    hnd hz S fun Dd F' H' kvs S' s' nD fD oD hD kr => ?_
  obtain ⟨v1, j1, rfl, j3, j4⟩ := S'.sl i _ hti
  refine ⟨_, j1, a, C, dx, vs, rfl, j4, hcl, hna, hl, ?_⟩
  have na : Dd ≠ a := fun z => oD (z ▸ ows_mem hti rfl)
  have S2 : StO N F' (upd H' a (.ins C dx (putF f (.ref Dd) vs))) sg (t.set i (.obj a C dx (putF f (.ref Dd) vs))) :=
    S'.mut (s' := .obj a C dx (putF f (.ref Dd) vs)) hti rfl rfl (Same.refl F') (fun b o e => by rw [upd_ne (fun z => by rw [z, j3] at e; cases e)]; exact S'.fh b o e) (fun b _ h => h) (fun b o z e => by rw [upd_ne z]; exact e) (by rw [upd_same]; intro z; cases z) fun v hv => ⟨hv.1, hv.2.1, upd_same⟩
  refine q.nx sg F' _ _ (S2.hold (i := j) (s := .gd Dd _) rfl (.inl nD) (fun z => ?_) fun v => ⟨fD, kvs, by rw [upd_ne na]; exact hD, kr⟩) (k Dd oD)
  rw [ows_eq (ad_set (s' := .obj a C dx (putF f (.ref Dd) vs)) hti rfl)] at z
  exact oD z
end
/-! ### a new leader -/
def spD (C : Addr) (n : Nat) (Phi : List Dt → Led → Prop) : Sp := fun vs H Q _ => vs.length = n + 1 ∧ ∃ (F : Hp) (p dx : Addr) (vs' : List V) (rs : List Dt) (L : Led), vs = .ref p :: vs' ∧ Same F H ∧ F p = none ∧ H p = some (.ins C dx []) ∧ DtA F vs' rs ∧ Phi rs L ∧
  ∀ F' H' r g, Same F F' → Same F' H' → (∀ a, H a ≠ none → F a = none → F' a = none) → (∀ a o, a ≠ p → H a = some o → H' a = some o) → H r = none → H g = none → LedAt F' H' p C dx r g L → Q .non H'
theorem mak_led {P : Program} {w : World} {K : PySem.W.Frag} {mg : Str → Option Value} {base : Heap} {nm qual : Str} {st : Stmt} {C : Addr} {n0 : Str} {N ps : List Str} {k n : Nat} {Phi : List Dt → Led → Prop} (j l : Nat) (hjl : j ≠ l) (HC : HasCls K mg nm qual C st ps) (S : FnScope (n0 :: N) ps (defScope st)) (hn : ps.length = n + 1)
    (body : ∀ (f : Addr) (cdv : Value) (A : Around) (outer : List Env) (s : Shared) (H : Hp) (E : XK), Room k (A.deeper (envOfC qual (defScope st) s.heap.objs.size f cdv)) → ∀ rs L p dx, rs.length = n → Phi rs L →
      SDs (bx P w K mg base (n0 :: N) qual st f cdv A outer s H E) (defBody st) (.obj p C dx [] :: startT N rs) ⟨fun t => ∃ r g, LedS t 0 j l p C dx r g L, fun _ _ => False, fun _ => False, fun _ => False⟩) : MakC P w K mg base nm C (k + 1) ps (spD C n Phi) := by
  obtain ⟨f, fd, h1, h2, h3, h4⟩ := HC
  refine ⟨f, fd, h2, h1.ok S (fun vs H Q E h => by rw [hn]; exact h.1) fun cdv A outer s H vs Q E hr h => ?_, h3, h4⟩
  obtain ⟨hl, F0, p, dx, vs', rs, L, rfl, fh, fp, hp, da, ph, q⟩ := h
  have hlen := da.len
  have hN : rs.length ≤ N.length := by
    have e1 := congrArg List.length S.pre
    rw [List.length_take, List.length_cons] at e1
    rw [List.length_cons] at hl
    omega
  have eS : L2.start (n0 :: N) (.ref p :: vs') = some (.ref p) :: L2.start N vs' := by
    unfold L2.start
    rw [List.map_cons, List.length_cons, List.length_cons, Nat.add_sub_add_right]
    rfl
  have S0 := start_sto (N := N) fh da hN
  have no : ows (startT N rs) = [] := no_ows fun s hs => by
    unfold startT at hs
    rcases List.mem_append.mp hs with z | z
    · obtain ⟨r, _, e⟩ := List.mem_map.mp z
      subst e; rfl
    · rw [(List.mem_replicate.mp z).2]; rfl
  have ew : ows (.obj p C dx [] :: startT N rs) = [p] := by
    show List.filterMap Sl.ad (.obj p C dx [] :: startT N rs) = _
    rw [List.filterMap_cons]
    show p :: ows (startT N rs) = [p]
    rw [no]
  have S1 : StO ⟨F0, H, fun a => a = p⟩ F0 H (L2.start (n0 :: N) (.ref p :: vs')) (.obj p C dx [] :: startT N rs) := by
    rw [eS]
    refine ⟨by rw [List.length_cons, List.length_cons, S0.ln], fh, Same.refl _, fun a _ z => z, fun a o z _ => z, fun a z => z, fun i u hi => ?_, fun a ha => ?_, by rw [ew]; simp⟩
    · cases i with
      | zero =>
        have z : Sl.obj p C dx [] = u := by simpa using hi
        subst z
        exact ⟨_, rfl, rfl, fp, hp⟩
      | succ i =>
        obtain ⟨v, h1, h2⟩ := S0.sl i u (by simpa using hi)
        exact ⟨v, by simpa using h1, h2⟩
    · rw [ew] at ha
      exact .inr (List.mem_singleton.mp ha)
  refine ⟨tbOf _ _, pb_of _ _, body f cdv A outer s H E hr rs L p dx (by rw [List.length_cons] at hl; omega) ph _ _ F0 H _ S1 ⟨fun sg F1 H1 t S2 e => ?_, fun _ _ _ _ _ _ _ _ z => z.elim, fun _ _ _ _ _ z => z.elim, fun _ _ _ _ _ z => z.elim⟩⟩
  obtain ⟨r, g, hL⟩ := e
  have LA := hL.at_ S2 hjl
  refine q F1 H1 r g S2.f0 S2.fh S2.nf (fun a o ha ho => S2.un a o ho ha) ?_ ?_ LA
  · rcases S2.ow r (ows_mem hL.j rfl) with z | z
    · exact z
    · exact absurd z.symm LA.ar
  · rcases S2.ow g (ows_mem hL.k rfl) with z | z
    · exact z
    · exact absurd z.symm LA.ag
section
variable {X : Cx} {e : Expr} {es : List Expr} {t : Ty} {R : Po} {pos cp p np : Pos} {nm x : Str} {k n : Nat} {ps : List Str} {C : Addr}
/-- x = C(..), the new leader, its dicts at slots j, l -/
theorem sd_mkL {Phi : List Dt → Led → Prop} {rs : List Dt} {L : Led} (i j l : Nat) (hij : i ≠ j) (hil : i ≠ l) (hjl : j ≠ l) (hlj : j < t.length) (hll : l < t.length) (M : MakC X.prog X.w X.K X.mg X.base nm C k ps (spD C n Phi)) (hr : Room (k + 1) X.A) (hN : X.N.Nodup) (hi : X.N[i]? = some x) (hx : Loc X.env.scope x) (ha : PDA X (e :: es) t rs) (hl : rs.length = n) (h : Phi rs L)
    (kk : ∀ a dx r g, R.nx (ledT t i j l a C dx r g L)) (hg : Gl X nm := by rfl) (hdb : (nm == ("__debug__" : Str)) = false := by decide) (he : starEach (e :: es) X.env = (false, eval e X.env) :: starEach es X.env := by rfl) (hpl : (backTo cp (starEach es X.env)).any (·.1) = false := by rfl)
    (hs : swapsWith (.Call (.Name nm p) (e :: es) [] cp) (some (.Name x np)) pos.line X.env = pure false := by rfl) (hf : X.fn x = true ∨ X.env.scope.names.lookup x = some .local := by first | exact .inl rfl | exact .inr rfl) : SD X (.Assign [.Name x np] (.Call (.Name nm p) (e :: es) [] cp) pos) t R := fun N sg F H Ds S q => by
  obtain ⟨f, fd, g1, g2, g3, g4⟩ := M
  refine use_s (ps_set hN hi hx (L2.pe_make (dvs := []) (E := E0) g1 g2 hr hg g3 g4 .nil pass0 (pa_of X _) hdb he hpl) hs hf) (ha N sg F H _ S fun vs F1 H1 rs1 S1 s1 d1 hr1 => ?_)
  subst hr1
  intro p dx hp hdx hne
  obtain ⟨x1, x2, x3⟩ := S1.new_ hp
  have gA := Gr.lay (o := .own p) S1.fh hdx
  have hp' : (upd H1 dx (.own p)) p = none := by rw [upd_ne (Ne.symm hne)]; exact hp
  have gB := Gr.lay (o := .ins C dx []) gA.fh hp'
  have S2 := (S1.grow gA).grow gB
  rw [List.append_nil]
  refine ⟨by rw [List.length_cons, d1.len, hl], F1, p, dx, vs, rs1, L, rfl, gB.fh, x2, upd_same, d1, h, fun F' H' r g ff fh nf un hr0 hg0 LA => ⟨rfl, ?_⟩⟩
  have S3 := S2.but x1 x3 ff fh nf un
  obtain ⟨r1, r2, r3⟩ := S2.new_ hr0
  obtain ⟨q1, q2, q3⟩ := S2.new_ hg0
  have S4 : StO N F' H' (sg.set i (some (.ref p))) (t.set i (.obj p C dx (ledF L r g))) := StO.own (s := .obj p C dx (ledF L r g)) S3 rfl x1 x3 ⟨rfl, LA.fa, LA.oa⟩
  obtain ⟨kr, e1, e2⟩ := LA.or
  obtain ⟨kg, e3, e4⟩ := LA.og
  have sub : ∀ {u : Ty} {i : Nat} {s : Sl} {b : Addr}, b ∈ ows (u.set i s) → b ∈ ows u ∨ s.ad = some b := fun {u i s b} z => by
    obtain ⟨s', hs', es'⟩ := List.mem_filterMap.mp z
    rcases List.mem_or_eq_of_mem_set hs' with q | q
    · exact .inl (List.mem_filterMap.mpr ⟨s', q, es'⟩)
    · subst q; exact .inr es'
  have S5 := S4.hold (i := j) (s := .gd r (kdI L.rest)) rfl (.inl r1) (fun z => by
    rcases sub z with q | q
    · exact r3 q
    · cases q; exact LA.ar rfl) fun v => ⟨LA.fr, kr, e1, e2⟩
  have S6 := S5.hold (i := l) (s := .gd g (kdI L.firsts)) rfl (.inl q1) (fun z => by
    rcases sub z with q | q
    · rcases sub q with q | q
      · exact q3 q
      · cases q; exact LA.ag rfl
    · cases q; exact LA.rg rfl) fun v => ⟨LA.fg, kg, e3, e4⟩
  exact q.nx _ F' H' _ S6 (kk p dx r g)
end
/-! ### a comprehension whose turns change the things of one's own -/
theorem lc_readM {A : Type} {T : Nat → Ty} {ds : List A} {enc : A → PyData} {wi : TI} {g : TG} {te : TE} {ws : List Nat} {bs : A → List (Nat × PyData)} {val : Nat → A → PyData}
    (hw : ∀ (N : En) (sg : St) (F H : Hp) (R : It → Hp → Prop), StO N F H sg (T 0) → (∀ J F1 H1, StO N F1 H1 sg (T 0) → Same F F1 → WkD J F1 (ds.map enc) → R J H1) → wi sg H R)
    (hT : ∀ i, (T i).map Sl.ad = (T 0).map Sl.ad) (ht : ∀ d ∈ ds, TgS g (enc d) (bs d)) (hb : ∀ d ∈ ds, ∀ p ∈ bs d, p.1 ∈ ws) (hno : ∀ i, ∀ j ∈ ws, (T i)[j]? = some .no)
    (hte : ∀ i d, ds[i]? = some d → ∀ (N : En) (sg : St) (F H : Hp) (Q : VK), StO N F H sg (setsT (T i) (bs d)) → (∀ v F' H', StO N F' H' sg (setsT (T (i + 1)) (bs d)) → Same F F' → Dq F' v (val i d) → Q v H') → te sg H Q)
    (hz : ds.length < sizeLine) {N : En} {sg : St} {F H : Hp} {Q : VK} (S : StO N F H sg (T 0))
    (k : ∀ v F' H', StO N F' H' sg (T ds.length) → Same F F' → Dq F' v (.list (ds.zipIdx.map fun p => val p.2 p.1)) → Q v H') : tLc wi g tYes te ws sg H Q := by
  have eo : ∀ i, ows (T i) = ows (T 0) := fun i => ows_eq (hT i)
  have el : ∀ i, (T i).length = (T 0).length := fun i => by have := congrArg List.length (hT i); rwa [List.length_map, List.length_map] at this
  refine hw N sg F H _ S fun J F1 H1 S1 s1 W D hD => ?_
  obtain ⟨nD, fD, oD⟩ := S1.new_ hD
  refine ⟨fun i m H' => m = ds.length - i ∧ i ≤ ds.length ∧ ∃ F2 acc, StO N F2 H' sg (T i) ∧ Same F1 F2 ∧ F2 D = none ∧ H' D = some (.lst acc) ∧ DqA F2 acc ((ds.zipIdx.take i).map fun p => val p.2 p.1),
    ⟨_, rfl, Nat.zero_le _, F1, [], S1.updAt nD fD oD, Same.refl F1, fD, upd_same, .nil⟩, ?_⟩
  rintro i m H2 ⟨rfl, hil, F2, acc, S2, s2, f2, h2, d2⟩
  by_cases hlt : i < ds.length
  · refine .inr ⟨W.go i H2 (by rw [List.length_map]; exact hlt) (s2.trans S2.fh), fun H' => i + 1 ≤ ds.length ∧ ∃ F' acc', StO N F' H' sg (T (i + 1)) ∧ Same F1 F' ∧ F' D = none ∧ H' D = some (.lst acc') ∧ DqA F' acc' ((ds.zipIdx.take (i + 1)).map fun p => val p.2 p.1), fun H' p' => ⟨ds.length - (i + 1), by omega, rfl, p'.1, p'.2⟩, fun x H3 y => ?_⟩
    obtain ⟨F3, d0, g3, hd0, dq3⟩ := W.yld i H2 x H3 (by rw [List.length_map]; exact hlt) (s2.trans S2.fh) y F2 s2 S2.fh
    obtain ⟨d, hd3, ed3⟩ : ∃ d, ds[i]? = some d ∧ enc d = d0 := by
      rw [List.getElem?_map] at hd0
      obtain ⟨b, hb, eb⟩ := Option.map_eq_some_iff.mp hd0
      exact ⟨b, hb, eb⟩
    subst ed3
    have hm := List.mem_of_getElem? hd3
    have S3 := S2.grow g3
    have f3 : F3 D = none := g3.nf D (by rw [h2]; intro z; cases z) f2
    have h3 : H3 D = some (.lst acc) := g3.hh _ _ h2
    have S3w := S3.wipe (hno i)
    refine ht d hm F3 H3 x _ _ S3w.fh dq3 fun qs hq => ?_
    have hqs : ∀ q ∈ qs, q.1 ∈ ws := by
      intro q hq'
      have gg : ∀ {qs : List (Nat × V)} {ps : List (Nat × PyData)}, Bnd F3 qs ps → ∀ q ∈ qs, ∃ p ∈ ps, q.1 = p.1 := by
        intro qs ps h
        induction h with
        | nil => intro q hq; cases hq
        | cons h1 h2 ih =>
          intro q hq
          rcases List.mem_cons.mp hq with e | e
          · subst e; exact ⟨_, List.mem_cons_self, h1.1⟩
          · obtain ⟨p, hp, e2⟩ := ih q e; exact ⟨p, List.mem_cons_of_mem _ hp, e2⟩
      obtain ⟨p, hp, e⟩ := gg hq q hq'
      rw [e]
      exact hb d hm p hp
    refine ⟨by rw [wipe_sets qs _ hqs, wipe_wipe], ?_⟩
    have S4 := S3w.sets hq
    have B4 := S4.base
    have oo : D ∉ ows (setsT (T i) (bs d)) := by
      have sub : ∀ (ps : List (Nat × PyData)) (u : Ty), D ∉ ows u → D ∉ ows (setsT u ps) := by
        intro ps
        induction ps with
        | nil => intro u h; exact h
        | cons p ps ih => intro u h; exact ih _ fun z => h (ows_set_sub rfl z)
      exact sub _ _ (by rw [eo]; exact oD)
    simp only [tYes, if_true]
    refine hte i d hd3 _ _ F3 H3 _ B4 fun v F6 H6 S5 s6 dr => ?_
    have a1 : H6 D = some (.lst acc) := S5.un D _ h3 oo
    have a2 : F6 D = none := S5.nf D (by show H3 D ≠ none; rw [h3]; intro z; cases z) f3
    have S6 := S4.back S5
    have q1 : StO N F6 H6 sg (T (i + 1)) := by
      refine StO.unwipe (ws := ws) ⟨by rw [wipe_length, el, ← el 0]; exact S.ln, S6.fh, S6.f0, S6.nf, S6.un, S6.th, fun j s hj => ?_, fun a ha => S.ow a (by rwa [eo] at ha), by rw [eo]; exact S.ap⟩ (hno (i + 1))
      have other : ∀ (ps : List (Nat × PyData)) (u : Ty), j ∉ ps.map (·.1) → (setsT u ps)[j]? = u[j]? := by
        intro ps
        induction ps with
        | nil => intro u _; rfl
        | cons p ps ih =>
          intro u hn
          have h1 : p.1 ≠ j := fun z => hn (by rw [List.map_cons]; exact List.mem_cons.mpr (.inl z.symm))
          show (setsT (u.set p.1 (.v (.d p.2))) ps)[j]? = _
          rw [ih _ (fun z => hn (by rw [List.map_cons]; exact List.mem_cons_of_mem _ z)), List.getElem?_set_ne h1]
      have otherV : ∀ (ps : List (Nat × V)) (u : St), j ∉ ps.map (·.1) → (setsV u ps)[j]? = u[j]? := by
        intro ps
        induction ps with
        | nil => intro u _; rfl
        | cons p ps ih =>
          intro u hn
          have h1 : p.1 ≠ j := fun z => hn (by rw [List.map_cons]; exact List.mem_cons.mpr (.inl z.symm))
          show (setsV (u.set p.1 (some p.2)) ps)[j]? = _
          rw [ih _ (fun z => hn (by rw [List.map_cons]; exact List.mem_cons_of_mem _ z)), List.getElem?_set_ne h1]
      by_cases hj' : j ∈ ws
      · rw [hno (i + 1) j hj'] at hj
        cases hj
        have hl : j < (L2.wipe sg ws).length := by
          rw [wipe_length, S.ln]
          exact (List.getElem?_eq_some_iff.mp (hno 0 j hj')).1
        exact ⟨(L2.wipe sg ws)[j]'hl, List.getElem?_eq_getElem hl, trivial⟩
      · have n1 : j ∉ (bs d).map (·.1) := fun z => by
          obtain ⟨p, hp, e⟩ := List.mem_map.mp z
          exact hj' (e ▸ hb d hm p hp)
        have n2 : j ∉ qs.map (·.1) := fun z => by
          obtain ⟨p, hp, e⟩ := List.mem_map.mp z
          exact hj' (e ▸ hqs p hp)
        obtain ⟨v, g1, g2⟩ := S6.sl j s (by rw [other _ _ n1]; exact hj)
        rw [otherV _ _ n2] at g1
        exact ⟨v, g1, g2⟩
    have hzi : ds.zipIdx[i]? = some (d, i) := zipIdx_get hd3
    refine ⟨acc, a1, ?_, hlt, F6, acc ++ [v], q1.updAt nD a2 (by rw [eo]; exact oD), (s2.trans g3.ff).trans S5.f0, a2, upd_same, ?_⟩
    · have e1 := d2.len
      rw [List.length_map, List.length_take, List.length_zipIdx] at e1
      omega
    · rw [take_succ hzi, List.map_append]
      exact (d2.up (g3.ff.trans S5.f0)).app (.cons dr .nil)
  · have ei : i = ds.length := by omega
    subst ei
    refine .inl ⟨by have q := W.stop H2 (s2.trans S2.fh); rw [List.length_map] at q; exact q, ?_⟩
    have S7 := S2.frz nD f2 (by rw [eo]; exact oD) h2
    have dd := d2
    rw [show ds.zipIdx.take ds.length = ds.zipIdx from List.take_of_length_le (by rw [List.length_zipIdx]; exact Nat.le_refl _)] at dd
    exact k (.ref D) _ H2 S7 ((s1.trans s2).trans (same_new f2)) (.lst upd_same (dd.up (same_new f2)))
section
variable {A : Type} {X : Cx} {elt tg it : Expr} {scope : Scope} {own : List (Str × Nat)} {pos : Pos} {T : Nat → Ty} {ds : List A} {enc : A → PyData} {g : TG} {bs : A → List (Nat × PyData)} {val : Nat → A → PyData}
theorem pms_lc0 (hc : X.calm = true) (hN : X.N.Nodup) (hi : ItD X tg it (T 0) (ds.map enc)) (ok : BlkOk X.N X.env.scope scope own) (hg : PGB X scope tg g) (hT : ∀ i, (T i).map Sl.ad = (T 0).map Sl.ad) (ht : ∀ d ∈ ds, TgS g (enc d) (bs d)) (hb : ∀ d ∈ ds, ∀ p ∈ bs d, p.1 ∈ own.map (·.2)) (hno : ∀ i, ∀ j ∈ own.map (·.2), (T i)[j]? = some .no)
    (he : ∀ i d, ds[i]? = some d → ∀ (s : Shared) (H0 : Hp) (C : Addr) (cl : List (Str × Addr)) (fp : List Addr), PMS (X.blk s H0 scope (compEnvC scope cl C X.env) fp) elt (setsT (T i) (bs d)) (fun r t' => r = .d (val i d) ∧ t' = setsT (T (i + 1)) (bs d))) (hz : ds.length < sizeLine) (hs : ∀ x, foldedSetIterable it X.env x = pure x := by intro _; rfl) :
    PMS X (.ListComp elt [⟨tg, it, [], 0⟩] scope pos) (T 0) (fun r t' => r = .d (.list (ds.zipIdx.map fun p => val p.2 p.1)) ∧ t' = T ds.length) := fun N sg F H Q S q => by
  obtain ⟨wi, hpi, hw⟩ := hi
  refine use_e (pe_lc (tt := tYes) (te := teB X scope elt) hc hN hpi ok hg (fun _ _ _ _ _ => pts_nil) (fun s H0 C cl fp => ⟨fun pins s' sg H Q I h => (by first | exact te_at (h s H0 C cl fp) pins s' I | exact tt_at (h s H0 C cl fp) pins s' I)⟩) hs) ?_
  refine lc_readM (val := val) hw hT ht hb hno (fun i d hd N sg F H Q S q s H0 C cl fp => he i d hd s H0 C cl fp N sg F H Q S fun v F' H' r t' S' s' dv hr => ?_) hz S fun v F' H' S' s' dv => q v F' H' (.d _) _ S' s' dv ⟨rfl, rfl⟩
  obtain ⟨e1, e2⟩ := hr
  subst e1 e2
  exact q v F' H' S' s' dv
end
end Fw

-- part FwMisc
set_option Elab.async false
set_option maxRecDepth 100000
set_option maxHeartbeats 4000000
set_option linter.all false
namespace PySem
open PySem.Spec PyProof.Rows
theorem sq_items {P : Nat → Value → Prop} {acc : Array Value} {n : Nat} (h : ItemsOf P acc n) : acc.toList.length = n ∧ ∀ i v, acc.toList[i]? = some v → P i v := by
  obtain ⟨h1, h2⟩ := h
  refine ⟨by simpa using h1, fun i v e => ?_⟩
  exact h2 i v (by simpa using e)
end PySem
namespace HT
open PySem PySem.Spec PyProof.Rows
section
variable {prog : Program} {w : World} {A : Around} {E : Value → Shared → Prop} {s : Shared}
theorem sliceApplied_rev2 {sl : Addr} {vl vu vs : Value} {Q : Int × Int × Nat → Shared → Prop} (hs : s.heap.IsSliceOf sl vl vu vs) (pl : IsPart vl none) (pu : IsPart vu none) (ps : IsPart vs (some (-1)))
    (h : Q ((1 : Int), -1, 2) s) : wpAny (model prog w) A (Builtin.Slice.sliceApplied (.ref sl) (pure (2 : Int))) Q E s := by
  obtain ⟨os, hos, hcs, hds⟩ := id hs
  unfold Builtin.Slice.sliceApplied Builtin.Slice.sliceFields
  refine wpAny_bind (wpAny_bind (wpAny_field hos hds (x := vl) rfl (wpAny_bind (wpAny_field hos hds (x := vu) rfl (wpAny_bind (wpAny_field hos hds (x := vs) rfl (wpAny_pure ?_)))))))
  refine wpAny_bind (slicePart_ ps ?_)
  show wpAny _ _ (if ((-1 : Int) == 0) = true then _ else _) _ _ s
  rw [if_neg (by decide)]
  refine wpAny_bind (slicePart_ pl (wpAny_bind (slicePart_ pu (wpAny_bind (wpAny_pure ?_)))))
  exact wpAny_pure h
theorem getItem_tuple_rev2 {t sl : Addr} {a b : Value} {vl vu vs : Value} {Q : Value → Shared → Prop} (ht : IsTup s.heap t #[a, b]) (hs : s.heap.IsSliceOf sl vl vu vs) (pl : IsPart vl none) (pu : IsPart vu none) (ps : IsPart vs (some (-1)))
    (h : Q (.ref s.heap.objs.size) { s with heap := s.heap.push { cls := .type "tuple", data := .seq #[b, a] } }) : wpAny (model prog w) A (getItem (.ref t) (.ref sl)) Q E s := by
  have htake : sizeOk (.seq #[b, a]) := by show 2 ≤ sizeLine; decide
  obtain ⟨os, hos, hcs, hds⟩ := id hs
  have hTs : s.TypeIs (.ref sl) "slice" := ⟨os, hos, hcs⟩
  unfold getItem
  try with_reducible refine wpAny_holding ?_
  first | refine wpAny_bind (wpAny_pure ?_) | skip
  refine wpAny_bind (wpAny_sequenceKey ht.typeIs (by decide) ?_)
  refine wpAny_bind (wpAny_callSpecial?_slot (name := Str.ofString "__getitem__") ht.typeIs PyProof.Rows.slot_tuple_getitem
    (wpAny_call_entry PyProof.Rows.slot_tuple_getitem ht.typeIs entry_tuple_getitem ?_ (args_tuple_getitem _ _)))
  show wpAny _ _ (Builtin.Tuple.tupleItemsOf (.ref t) >>= _) _ _ s
  refine wpAny_bind (tupleItemsOf_ ht ?_)
  refine wpAny_bind (wpAny_typeOf hTs ?_)
  rw [if_pos (by decide)]
  refine wpAny_bind (sliceApplied_rev2 hs pl pu ps ?_)
  first
    | exact wpAny_bind (m := Builtin.Tuple.tupleExact _) (wpAny_newObj_type (wpAny_pure ⟨_, rfl, wpAny_pure h⟩) htake)
    | exact wpAny_bind (m := Builtin.Tuple.tupleExact _) (wpAny_newObj_type (wpAny_bind (wpAny_pure (wpAny_pure ⟨_, rfl, wpAny_pure h⟩))) htake)
    | exact wpAny_bind (wpAny_bind (m := Builtin.Tuple.tupleExact _) (wpAny_newObj_type (wpAny_pure (wpAny_pure ⟨_, rfl, wpAny_pure h⟩)) htake))
    | exact wpAny_bind (wpAny_bind (m := Builtin.Tuple.tupleExact _) (wpAny_newObj_type (wpAny_pure ⟨_, rfl, wpAny_pure h⟩) htake))
end
end HT
namespace Fw
open PySem PySem.Spec PyProof.Rows L2
theorem vals_of_kv {kvs : List (Key × V)} {vs : List (Key × Value)} (h : KV kvs vs) : Vals (kvs.map (·.2)) (vs.map (·.2)) := by
  unfold KV at h
  induction h with
  | nil => exact .nil
  | cons h1 h2 ih => exact .cons h1.2 ih
/-- list(e.values()) -/
def tListVals (te : TE) : TE := fun σ H Q => te σ H fun x H1 => ∃ d kvs, x = V.ref d ∧ H1 d = some (.dK kvs) ∧ ∀ l, H1 l = none → Q (.ref l) (upd H1 l (.lst (kvs.map (·.2))))
section
variable {X : Cx} {e : Expr} {te : TE} {p apos cpos pos : Pos}
theorem pe_listVals (hc : X.calm = true) (he : PE X e te) (hg : Gl X "list") (hm : X.mg "list" = none) (hv : bootBuiltins "list" = some (.type "list")) (hbase : attributeBase e "values" X.env (eval e X.env) = eval e X.env := by rfl) (hline : (apos.endLine == cpos.line) = true := by rfl)
    (hs : starEach [.Call (.Attribute e "values" apos) [] [] cpos] X.env = (false, eval (.Call (.Attribute e "values" apos) [] [] cpos) X.env) :: starEach [] X.env := by rfl) :
    PE X (.Call (.Name "list" p) [.Call (.Attribute e "values" apos) [] [] cpos] [] pos) (tListVals te) := by
  refine ⟨fun pins s σ H Q I hq => ?_⟩
  refine wpAny_Call_Name_kw (ld_blt I hg hm hv ?_)
  refine PyProof.Rows.callWith_type1 ?_ hs rfl
  rw [hs]
  show wpAny _ _ (spliced ((false, eval (.Call (.Attribute e "values" apos) [] [] cpos) X.env) :: backTo pos (starEach [] X.env))) _ _ s
  refine Calls.spliced_cons ?_
  refine wpAny_Call_method (T := "dict") (id := "dict.values") hbase rfl hline F.plainAttrs_dict F.slot_dict_values F.type_dict_values (thn (he.run pins s σ H _ I hq) fun u s1 ⟨x, H1, I1, rx, d, kvs, ex, hd, q⟩ => ?_)
  subst ex
  obtain rfl : u = Value.ref d := rx
  obtain ⟨hz, hs0, vs, kv, hdo⟩ := I1.hok d _ hd
  obtain ⟨ep, hat⟩ := hdo.dictAt
  have lk : kvs.length = vs.length := Paired.length kv
  have I2 : Inv X pins σ H1 { s1 with heap := s1.heap.push { cls := .type "dict_values", data := .fields #[.ref d] } } := I1.kept (t' := s1.toks) fun b ob q => Heap.get?_push_of_some _ q
  refine ⟨hdo.typeIs, hdo.mapOf.noDict, ?_⟩
  show wpAny _ _ (callWith cpos (.builtin "dict.values") [.ref d] [] []) _ X.xe s1
  refine method_meetsIn F.slot_dict_values F.entry_dict_values rfl (PySem.evalArgs_none ⟨rfl, hdo.typeIs, F.args_dict_values_1 _, _, meets_dict_values (mixKind X.prog X.w) d hs0, ⟨vs, hdo⟩, ?_⟩)
  refine Calls.spliced_nil ?_
  refine PySem.W.kdl_call (PySem.W.kdl_values (knd := mixKind X.prog X.w) (kvs := vs) (ep := ep)) (I1.ok.hd hc) ⟨⟨_, Heap.get?_push_size _ rfl, rfl, rfl⟩, hat.push _⟩ (by omega) fun h' tk acc c hk hS hacc => ?_
  obtain ⟨i1, i2⟩ := PySem.sq_items hacc
  have ev : acc.toList = vs.map (·.2) := by
    apply List.ext_getElem?
    intro i
    rw [List.getElem?_map]
    cases q1 : acc.toList[i]? with
    | none =>
      have : vs.length ≤ i := by rw [← i1]; exact List.getElem?_eq_none_iff.mp q1
      rw [List.getElem?_eq_none this]; rfl
    | some v =>
      obtain ⟨k, hk2⟩ := i2 i v q1
      rw [hk2]; rfl
  refine ⟨.ref _, _, I2.laid (t' := tk) (o := .lst (kvs.map (·.2))) hk (Nat.le_refl _) ⟨by rw [List.length_map]; exact hz, acc.toList, c, by rw [ev]; exact vals_of_kv kv, by simpa using hS⟩, rfl, q _ (I2.hok.fresh (Nat.le_refl _))⟩
end
/-- an expression that reads as a dict with these items -/
def PK (X : Cx) (e : Expr) (t : Ty) (ks : Kd) : Prop := ∀ (N : En) (sg : St) (F H : Hp) (Q : VK), StO N F H sg t → (∀ a F' H' kvs, StO N F' H' sg t → Same F F' → H' a = some (.dK kvs) → KvR F' kvs ks → Q (.ref a) H') → teOf X e sg H Q
section
variable {X : Cx} {a b e ki fe : Expr} {es : List Expr} {t : Ty} {R : Po} {pos p pp nx ap cp sp : Pos} {x y : Str} {d z : PyData} {ks : Kd} {ds : List PyData} {D : Addr}
theorem pk_of (h : PM X e t (fun r => r = .dk ks)) : PK X e t ks := fun N sg F H Q S q => h N sg F H Q S fun v F' H' r S' s dv hr => by
  subst hr
  obtain ⟨a, kvs, rfl, h2, h3⟩ := dv
  exact q a F' H' kvs S' s (S'.fh _ _ h2) h3
theorem pk_nm (i : Nat) (ht : t[i]? = some (.dct D ks)) (hN : X.N[i]? = some x := by rfl) (hv : Vis X.env.scope x := by first | exact Or.inl rfl | exact Or.inr (Or.inl rfl) | exact Or.inr (Or.inr rfl))
    (hd : (x == ("__debug__" : Str)) = false := by decide) (hcd : (x == ("__classdict__" : Str)) = false := by decide) : PK X (.Name x nx) t ks := fun N sg F H Q S q => use_e (pe_var hN hv hd hcd) (by
  obtain ⟨v0, g1, rfl, g2, kvs, g3, g4⟩ := S.sl i _ ht
  exact ⟨_, g1, q D F H kvs S (Same.refl F) g3 g4⟩)
/-- list(e.values()) -/
theorem pd_listVals (h : PK X e t ks) (hm : X.mg "list" = none) (hc : X.calm = true := by rfl) (hg : Gl X "list" := by rfl) (hbase : attributeBase e "values" X.env (eval e X.env) = eval e X.env := by rfl) (hline : (ap.endLine == cp.line) = true := by rfl)
    (hs : starEach [.Call (.Attribute e "values" ap) [] [] cp] X.env = (false, eval (.Call (.Attribute e "values" ap) [] [] cp) X.env) :: starEach [] X.env := by rfl) : PD X (.Call (.Name "list" p) [.Call (.Attribute e "values" ap) [] [] cp] [] pos) t (.list (ks.map (·.2))) := fun N sg F H Q S q =>
  use_e (pe_listVals hc (pe_of X e) hg hm (by decide +kernel) hbase hline hs) (h N sg F H _ S fun a F1 H1 kvs S1 s1 h1 h2 => ⟨a, kvs, rfl, h1, fun l hl => q _ _ _ (.d _) (S1.grow (Gr.new S1.fh hl)) (s1.trans (same_new (S1.fh.free hl))) (.lst upd_same ((KvR.snd h2).up (same_new (S1.fh.free hl)))) rfl⟩)
/-- e.get(k, z) -/
theorem pd_get2 {j : Int} (hu : X.A.units + 1 < cLine) (he : PM X e t (fun r => r = .dk ks)) (hk : PD X ki t (.int j)) (hf : PD X fe t z) (m : M2 X e "get" ap ki fe cp := by exact ⟨rfl, rfl, rfl, rfl⟩) : PD X (.Call (.Attribute e "get" ap) [ki, fe] [] cp) t ((valP ks (.inl j)).getD z) := fun N sg F H Q S q => by
  refine use_e (pe_dget2 hu (pe_of X e) (pe_of X ki) (pe_of X fe) m) (he N sg F H _ S fun v0 F0 H0 r0 S0 s0 d0 hr0 => ?_)
  subst hr0
  obtain ⟨a, kvs, rfl, h2, h3⟩ := d0
  refine ⟨a, rfl, .inl ⟨_, .inl (S0.fh _ _ h2)⟩, hk N sg F0 H0 _ S0 fun u F1 H1 r1 S1 s1 d1 hr1 => hf N sg F1 H1 _ S1 fun w F2 H2 r2 S2 s2 d2 hr2 => ?_⟩
  subst hr1 hr2
  cases d1
  have h3' : KvR F2 kvs ks := KvR.up h3 (s1.trans s2)
  refine ⟨_, DGet.k (k := Sum.inl j) (S2.fh _ _ ((s1.trans s2) _ _ h2)), ?_⟩
  rcases KvR.val h3' (.inl j) with ⟨e1, e2⟩ | ⟨v, dd, e1, e2, e3⟩
  · rw [e1]
    exact q w F2 H2 (.d z) S2 ((s0.trans s1).trans s2) d2 (by rw [e2]; rfl)
  · rw [e1]
    exact q v F2 H2 (.d dd) S2 ((s0.trans s1).trans s2) e3 (by rw [e2]; rfl)
/-- a slot is given up -/
theorem StO.lose {N : En} {F H : Hp} {sg : St} {t : Ty} (S : StO N F H sg t) (i : Nat) : StO N F H sg (t.set i .no) := by
  refine ⟨by rw [List.length_set, S.ln], S.fh, S.f0, S.nf, S.un, S.th, fun j u hj => ?_, fun a ha => S.ow a (ows_set_sub rfl ha), ?_⟩
  · by_cases q : i = j
    · subst q
      have hl : i < t.length := by
        have z := (List.getElem?_eq_some_iff.mp hj).1
        rwa [List.length_set] at z
      rw [List.getElem?_set_self hl] at hj
      cases hj
      exact ⟨sg[i]'(by rw [S.ln]; exact hl), List.getElem?_eq_getElem (by rw [S.ln]; exact hl), trivial⟩
    · rw [List.getElem?_set_ne q] at hj
      exact S.sl j u hj
  · have sub : ∀ (t : Ty) (i : Nat), (ows (t.set i .no)).Sublist (ows t) := by
      intro t
      induction t with
      | nil => intro i; exact List.Sublist.refl _
      | cons s t ih =>
        intro i
        cases i with
        | zero =>
          show (List.filterMap Sl.ad (.no :: t)).Sublist (List.filterMap Sl.ad (s :: t))
          rw [List.filterMap_cons, List.filterMap_cons]
          cases s.ad with
          | none => exact List.Sublist.refl _
          | some a => exact List.sublist_cons_self _ _
        | succ i =>
          show (List.filterMap Sl.ad (s :: t.set i .no)).Sublist (List.filterMap Sl.ad (s :: t))
          rw [List.filterMap_cons, List.filterMap_cons]
          cases s.ad with
          | none => exact ih i
          | some a => exact (ih i).cons₂ a
    exact (sub t i).nodup S.ap
theorem lose_not {t : Ty} {i : Nat} {s : Sl} {a : Addr} (nd : (ows t).Nodup) (h : t[i]? = some s) (e : s.ad = some a) : a ∉ ows (t.set i .no) := fun z => by
  obtain ⟨u, hu, eu⟩ := List.mem_filterMap.mp z
  obtain ⟨j, hj⟩ := List.getElem?_of_mem hu
  by_cases q : i = j
  · subst q
    rw [List.getElem?_set_self (List.getElem?_eq_some_iff.mp h).1] at hj
    cases hj
    cases eu
  · rw [List.getElem?_set_ne q] at hj
    exact q (ows_inj nd h hj e eu)
/-- the address of a dict of one's own -/
theorem pm_ad (i : Nat) (ht : t[i]? = some (.dct D ks)) (hN : X.N[i]? = some x := by rfl) (hv : Vis X.env.scope x := by first | exact Or.inl rfl | exact Or.inr (Or.inl rfl) | exact Or.inr (Or.inr rfl))
    (hd : (x == ("__debug__" : Str)) = false := by decide) (hcd : (x == ("__classdict__" : Str)) = false := by decide) : PM X (.Name x nx) t (fun r => r = .ad D) := fun N sg F H Q S q => use_e (pe_var hN hv hd hcd) (by
  obtain ⟨v0, g1, rfl, _⟩ := S.sl i _ ht
  exact ⟨_, g1, q (.ref D) F H (.ad D) S (Same.refl F) rfl rfl⟩)
/-! ### slices -/
def PDO (X : Cx) (o : Option Expr) (t : Ty) (l : Option Int) : Prop := ∃ tl, PO X o tl ∧ ∀ (N : En) (sg : St) (F H : Hp) (Q : Option Int → Hp → Prop), StO N F H sg t → (∀ F' H', StO N F' H' sg t → Same F F' → Q l H') → tl sg H Q
theorem pdo_none : PDO X none t none := ⟨_, po_none, fun N sg F H Q S q => q F H S (Same.refl F)⟩
theorem pdo_some {j : Int} (h : PD X e t (.int j)) : PDO X (some e) t (some j) := ⟨_, po_some (pe_of X e), fun N sg F H Q S q => h N sg F H _ S fun v F1 H1 r1 S1 s1 d1 hr1 => by
  subst hr1
  cases d1
  exact ⟨j, rfl, q F1 H1 S1 s1⟩⟩
def cutD (xs : List PyData) (lo hi : Option Int) : List PyData := (xs.drop (HT.sIx xs.length 0 lo)).take (HT.sIx xs.length xs.length hi - HT.sIx xs.length 0 lo)
theorem cut_dq {F : Hp} {vs : List V} {ds : List PyData} {lo hi : Option Int} (h : DqA F vs ds) : DqA F (cutV vs lo hi) (cutD ds lo hi) := by
  unfold cutV cutD
  rw [h.len]
  exact (h.drop _).take _
variable {lo hi : Option Expr} {l u : Option Int} {p2 : Pos}
theorem pd_slT (he : PD X e t (.tuple ds)) (hl : PDO X lo t l) (hu : PDO X hi t u) : PD X (.Subscript e (.Slice lo hi none p2) pos) t (.tuple (cutD ds l u)) := fun N sg F H Q S q => by
  obtain ⟨tl, pl, wl⟩ := hl
  obtain ⟨tu, pu, wu⟩ := hu
  refine use_e (pe_slice sl_tupA (pe_of X e) pl pu) (he N sg F H _ S fun v F1 H1 r1 S1 s1 d1 hr1 => wl N sg F1 H1 _ S1 fun F2 H2 S2 s2 => wu N sg F2 H2 _ S2 fun F3 H3 S3 s3 => ?_)
  subst hr1
  cases d1 with
  | @tup a xs _ g h =>
    have g3 := S3.fh _ _ ((s2.trans s3) _ _ g)
    have h3 := h.up (s2.trans s3)
    have f3 := (s2.trans s3) _ _ g
    refine ⟨a, xs, rfl, SqT.of g3, fun hw => ?_, fun _ p hp => ?_⟩
    · refine q (.ref a) F3 H3 (.d _) S3 ((s1.trans s2).trans s3) ?_ rfl
      have e : cutD ds l u = ds := by
        unfold cutD
        rw [← h.len, hw.1, hw.2, List.drop_zero, Nat.sub_zero, h.len, List.take_length]
      rw [e]
      exact .tup f3 h3
    · have sn := same_new (o := .tup (cutV xs l u)) (S3.fh.free hp)
      exact q _ _ _ (.d _) (S3.grow (Gr.new S3.fh hp)) (((s1.trans s2).trans s3).trans sn) (.tup upd_same ((cut_dq h3).up sn)) rfl
theorem pd_slL (he : PD X e t (.list ds)) (hl : PDO X lo t l) (hu : PDO X hi t u) : PD X (.Subscript e (.Slice lo hi none p2) pos) t (.list (cutD ds l u)) := fun N sg F H Q S q => by
  obtain ⟨tl, pl, wl⟩ := hl
  obtain ⟨tu, pu, wu⟩ := hu
  refine use_e (pe_slice sl_list (pe_of X e) pl pu) (he N sg F H _ S fun v F1 H1 r1 S1 s1 d1 hr1 => wl N sg F1 H1 _ S1 fun F2 H2 S2 s2 => wu N sg F2 H2 _ S2 fun F3 H3 S3 s3 => ?_)
  subst hr1
  cases d1 with
  | @lst a xs _ g h =>
    have g3 := S3.fh _ _ ((s2.trans s3) _ _ g)
    have h3 := h.up (s2.trans s3)
    refine ⟨a, xs, rfl, SqL.of g3, fun p hp => ?_⟩
    have sn := same_new (o := .lst (cutV xs l u)) (S3.fh.free hp)
    exact q _ _ _ (.d _) (S3.grow (Gr.new S3.fh hp)) (((s1.trans s2).trans s3).trans sn) (.lst upd_same ((cut_dq h3).up sn)) rfl
/-! ### x[k] = e, x a list of one's own -/
theorem sd_setI {xs : List PyData} {j : Int} {n : Nat} (i : Nat) (ht : t[i]? = some (.lst D xs)) (he : PD X e t d) (hk : PD X ki t (.int j)) (hj : ixN xs.length j = some n) (k : R.nx (t.set i (.lst D (xs.set n d)))) (hN : X.N[i]? = some x := by rfl) (hv : Vis X.env.scope x := by first | exact Or.inl rfl | exact Or.inr (Or.inl rfl) | exact Or.inr (Or.inr rfl))
    (hd : (x == ("__debug__" : Str)) = false := by decide) (hcd : (x == ("__classdict__" : Str)) = false := by decide) (hs : swapsWithSole [.Subscript (.Name x nx) ki sp] e pos.line X.env = pure false := by rfl) (hw : swappedStores [.Subscript (.Name x nx) ki sp] e X.env = pure none := by rfl)
    (h1 : (assignEach [.Subscript (.Name x nx) ki sp] X.env).map (·.2) = [assign (.Subscript (.Name x nx) ki sp) X.env] := by rfl)
    (ha : ∀ v, assign (.Subscript (.Name x nx) ki sp) X.env v = (do
      let ov ← holding [v] (eval (.Name x nx) X.env)
      let iv ← holding [v, ov] (eval ki X.env)
      standAt sp
      holding [v, ov, iv] (setItem ov iv v)
      release [v, ov, iv] []) := by intro _; rfl) : SD X (.Assign [.Subscript (.Name x nx) ki sp] e pos) t R := fun N sg F H Ds S q => by
  refine use_s (ps_asg (pe_of X e) (pg_sub (pe_var hN hv hd hcd) (pe_of X ki) set_list ha) hs hw h1) (he N sg F H _ S fun v F1 H1 r1 S1 s1 d1 hr1 => ?_)
  subst hr1
  obtain ⟨v0, g1, rfl, _⟩ := S1.sl i _ ht
  refine ⟨_, g1, hk N sg F1 H1 _ S1 fun w F2 H2 r2 S2 s2 d2 hr2 => ?_⟩
  subst hr2
  cases d2
  obtain ⟨v1, j1, j2, j3, ws, j4, j5⟩ := S2.sl i _ ht
  refine ⟨D, ws, j, n, rfl, rfl, j4, by rw [j5.len]; exact hj, ?_⟩
  have st : ∀ {vs : List V} {ds : List PyData} (n : Nat) {v : V} {d : PyData}, DqA F2 vs ds → Dq F2 v d → DqA F2 (vs.set n v) (ds.set n d) := by
    intro vs ds
    induction ds generalizing vs with
    | nil => intro n v d h _; cases h; exact .nil
    | cons y ys ih =>
      intro n v d h hq
      cases h with
      | cons h1 h2 =>
        cases n with
        | zero => exact .cons hq h2
        | succ n => exact .cons h1 (ih n h2 hq)
  refine q.nx sg F2 _ _ (S2.mut (s' := .lst D (xs.set n d)) ht rfl rfl (Same.refl F2) (fun b o e => ?_) (fun b _ h => h) (fun b o z e => by rw [upd_ne z]; exact e) (by rw [upd_same]; intro z; cases z) fun v hv => ⟨hv.1, hv.2.1, _, upd_same, st n j5 (d1.up s2)⟩) k
  rw [upd_ne (fun z => by rw [z, j3] at e; cases e)]
  exact S2.fh b o e
/-- x, y = e, [] -/
theorem sd_parL {px py pt pt2 pl : Pos} {kt k2 : Nat} {Re : Dt → Prop} (i j : Nat) (hij : i ≠ j) (hc : X.calm = true) (hN : X.N.Nodup) (hi : X.N[i]? = some x) (hj : X.N[j]? = some y) (hx : X.env.scope.names.lookup x = some .local) (hy : X.env.scope.names.lookup y = some .local) (he : PM X e t Re)
    (hw : swappedStores [.Tuple [.Name x px, .Name y py] kt pt] (.Tuple [e, .List [] pl] k2 pt2) X.env = pure (some [x, y])) (k : ∀ r D, Re r → D ∉ ows t → R.nx ((t.set i (.v r)).set j (.lst D [])))
    (hs : swapsWithSole [.Tuple [.Name x px, .Name y py] kt pt] (.Tuple [e, .List [] pl] k2 pt2) pos.line X.env = pure false := by rfl) (h1 : starEach [e, .List [] pl] X.env = (false, eval e X.env) :: starEach [.List [] pl] X.env := by rfl) (h2 : starEach [.List [] pl] X.env = (false, eval (.List [] pl) X.env) :: starEach [] X.env := by rfl) :
    SD X (.Assign [.Tuple [.Name x px, .Name y py] kt pt] (.Tuple [e, .List [] pl] k2 pt2) pos) t R := fun N sg F H Ds S q => by
  refine use_s (ps_par hc hN hi hj hij hx hy (pa_cons (pe_of X e) (pa_cons (pe_lst pa_nil) pa_nil h2) h1) hw hs) (he N sg F H _ S fun v F1 H1 r1 S1 s1 d1 hr1 => ⟨Nat.zero_le _, fun l hl => ⟨v, .ref l, rfl, ?_⟩⟩)
  obtain ⟨n1, n2, n3⟩ := S1.new_ hl
  have S2 := S1.grow (Gr.lay (o := .lst []) S1.fh hl)
  have S3 := S2.set (i := i) (s := .v r1) rfl ⟨v, rfl, d1⟩
  exact q.nx _ F1 _ _ (StO.own (s := .lst l []) S3 rfl n1 (fun z => n3 (ows_set_sub rfl z)) ⟨rfl, n2, [], upd_same, .nil⟩) (k r1 l hr1 n3)
theorem cd_notB (i j : Bool) : CmpD X .IsNot (.bool i) (.bool j) (!(i == j)) := fun F H v u Q e h1 h2 k => by
  cases h1; cases h2
  refine use_o op_notBl ⟨i, j, rfl, rfl, ?_⟩
  have := k F H (Gr.refl e)
  cases i <;> cases j <;> exact this
/-- t[::-1], t a tuple of two -/
theorem pe_revT {te : TE} {kk : Nat} {p1 q2 p3 : Pos} (he : PE X e te) : PE X (.Subscript e (.Slice none none (some (.UnaryOp .USub (.Constant (.int 1) kk p1) q2)) p3) pos) (fun σ H Q => te σ H fun x H1 => ∃ a v w, x = .ref a ∧ SqT X.K H1 a [v, w] ∧ ∀ p, H1 p = none → Q (.ref p) (upd H1 p (.tup [w, v]))) := by
  refine ⟨fun pins s σ H Q I h => ?_⟩
  refine Subscript_ (thn (he.run pins s σ H _ I h) fun v s1 ⟨x, H1, I1, r1, q1⟩ => ?_)
  obtain ⟨a, x1, x2, ex, hx, q⟩ := q1
  subst ex
  cases r1
  have hst : PO X (some (.UnaryOp .USub (.Constant (.int 1) kk p1) q2)) (tPart (tUn (rU fun i => .int (-i)) (tC (.int 1)))) := po_some (pe_un un_neg pe_int)
  refine wpAny_Slice (thn (po_none.run pins s1 σ H1 (fun o H2 => o = none ∧ H2 = H1) I1 ⟨rfl, rfl⟩) fun vl s2 ⟨l, H2, I2, pl, el, e2⟩ => ?_)
  subst el e2
  refine thn (po_none.run pins s2 σ H2 (fun o H3 => o = none ∧ H3 = H2) I2 ⟨rfl, rfl⟩) fun vu s3 ⟨u, H3, I3, pu, eu, e3⟩ => ?_
  subst eu e3
  refine thn (hst.run pins s3 σ H3 (fun o H4 => o = some (-1) ∧ H4 = H3) I3 ⟨1, rfl, -1, rfl, rfl, rfl⟩) fun vs s4 ⟨o, H4, I4, ps, eo, e4⟩ => ?_
  subst eo e4
  have I5 : Inv X pins σ H4 { s4 with heap := s4.heap.push { cls := .type "slice", data := .fields #[vl, vu, vs] } } := I4.kept (t' := s4.toks) fun b ob q => Heap.get?_push_of_some _ q
  obtain ⟨its, r, ht, hz⟩ := I5.tuple hx
  cases r with
  | cons r1 rt => cases rt with
    | cons r2 rt => cases rt with
      | nil =>
        refine tail_any (ops := [.ref a, .ref s4.heap.objs.size]) ht.typeIs (PyProof.Rows.slot_tuple_getitem.lookup) ?_ (by with_unfolding_all rfl)
        refine HT.getItem_tuple_rev2 ht (Heap.IsSliceOf.new _ vl vu vs) pl pu ps ?_
        refine ⟨.ref _, _, I5.laid (t' := s4.toks) (o := .tup [x2, x1]) (fun b ob q => Heap.get?_push_of_some _ q) (Nat.le_refl _) ?_, rfl, q _ (I5.hok.fresh (Nat.le_refl _))⟩
        exact ⟨by show 2 ≤ sizeLine; decide, _, .cons r2 (.cons r1 .nil), IsTup.new _ _⟩
theorem pd_rev2 {kk : Nat} {p1 q2 p3 : Pos} {d1 d2 : PyData} (he : PD X e t (.tuple [d1, d2])) : PD X (.Subscript e (.Slice none none (some (.UnaryOp .USub (.Constant (.int 1) kk p1) q2)) p3) pos) t (.tuple [d2, d1]) := fun N sg F H Q S q =>
  use_e (pe_revT (pe_of X e)) (he N sg F H _ S fun v F1 H1 r1 S1 s1 dv hr1 => by
    subst hr1
    cases dv with
    | tup g h => cases h with
      | cons h1 h => cases h with
        | cons h2 h =>
          cases h
          refine ⟨_, _, _, rfl, SqT.of (S1.fh _ _ g), fun p hp => ?_⟩
          exact q _ _ _ (.d _) (S1.grow (Gr.new S1.fh hp)) (s1.trans (same_new (S1.fh.free hp))) (.tup upd_same (.cons (h2.up (same_new (S1.fh.free hp))) (.cons (h1.up (same_new (S1.fh.free hp))) .nil))) rfl)
end
/-- a pure def that gives a dict, made in it -/
theorem cal_pureD {P : Program} {w : World} {K : PySem.W.Frag} {mg : Str → Option Value} {base : Heap} {nm : Str} {st : Stmt} {N ps : List Str} {k n : Nat} {Phi : List Dt → Kd → Prop} (i : Nat) (F : HasFn K mg nm st ps) (S : FnScope N ps (defScope st)) (hn : ps.length = n)
    (body : ∀ (f : Addr) (cdv : Value) (A : Around) (outer : List Env) (s : Shared) (H : Hp) (E : XK), Room k (A.deeper (envOfC nm (defScope st) s.heap.objs.size f cdv)) → ∀ rs ks, rs.length = n → Phi rs ks →
      SDs (bx P w K mg base N nm st f cdv A outer s H E) (defBody st) (startT N rs) ⟨fun _ => False, fun z t' => ∃ D, z = .ad D ∧ t'[i]? = some (.dct D ks), fun _ => False, fun _ => False⟩) : Cal P w K mg base nm (k + 1) ps (spP n fun rs r => ∃ ks, r = .dk ks ∧ Phi rs ks) := by
  obtain ⟨f, fd, h1, h2, h3⟩ := F
  refine ⟨f, fd, h1.ok S (fun vs H Q E h => by rw [hn]; exact h.1) fun cdv A outer s H vs Q E hr h => ?_, h2, h1.kp, h3⟩
  obtain ⟨hl, F0, rs, r, fh, da, ⟨ks, er, ph⟩, q⟩ := h
  subst er
  have hN : rs.length ≤ N.length := by
    have e1 := congrArg List.length S.pre
    rw [List.length_take] at e1
    have e2 := da.len
    omega
  refine ⟨tbOf _ _, pb_of _ _, body f cdv A outer s H E hr rs ks (by rw [← da.len]; exact hl) ph ⟨F0, H, fun _ => False⟩ _ F0 H _ (start_sto fh da hN) ⟨fun _ _ _ _ _ z => z.elim, fun v F1 H1 sg t r' S1 dv e => ?_, fun _ _ _ _ _ z => z.elim, fun _ _ _ _ _ z => z.elim⟩⟩
  obtain ⟨D, e1, e2⟩ := e
  subst e1
  have ev : v = .ref D := dv
  subst ev
  obtain ⟨v0, g1, g2, g3, kvs, g4, g5⟩ := S1.sl i _ e2
  have hnew : H D = none := by
    rcases S1.ow D (ows_mem e2 rfl) with z | z
    · exact z
    · exact z.elim
  have S2 := (S1.lose i).frz (D := D) hnew g3 (lose_not S1.ap e2 rfl) g4
  exact q (.ref D) _ H1 S2.gr ⟨D, kvs, rfl, upd_same, KvR.up g5 (same_new g3)⟩
end Fw

-- part FwSeen
set_option Elab.async false
set_option maxRecDepth 100000
set_option maxHeartbeats 4000000
set_option linter.all false
namespace Fw
open PySem PySem.Spec PyProof.Rows L2
/-! ### the states that were seen: a dict by pairs of tuples -/
abbrev FState := List Int × List (Option Int)
def encO : Option Int → PyData
  | none => .none
  | some i => .int i
def nkO : Option Int → NestedKey
  | none => .none
  | some i => .num i
def encS (st : FState) : PyData := .tuple [.tuple (st.1.map PyData.int), .tuple (st.2.map encO)]
def nkS (st : FState) : NestedKey := .tup [.tup (st.1.map NestedKey.num), .tup (st.2.map nkO)]
theorem num_inj {a b : List Int} (h : a.map NestedKey.num = b.map NestedKey.num) : a = b := by
  induction a generalizing b with
  | nil => cases b with
    | nil => rfl
    | cons _ _ => cases h
  | cons x a ih => cases b with
    | nil => cases h
    | cons y b =>
      have h1 := (List.cons.inj h).1
      have h2 := (List.cons.inj h).2
      cases h1
      rw [ih h2]
theorem nkO_inj {a b : Option Int} (h : nkO a = nkO b) : a = b := by
  cases a <;> cases b <;> first | rfl | cases h
  rfl
theorem nkOs_inj {a b : List (Option Int)} (h : a.map nkO = b.map nkO) : a = b := by
  induction a generalizing b with
  | nil => cases b with
    | nil => rfl
    | cons _ _ => cases h
  | cons x a ih => cases b with
    | nil => cases h
    | cons y b =>
      have h1 := nkO_inj (List.cons.inj h).1
      have h2 := (List.cons.inj h).2
      rw [h1, ih h2]
theorem nkS_inj {a b : FState} (h : nkS a = nkS b) : a = b := by
  unfold nkS at h
  injection h with h
  have h1 := (List.cons.inj h).1
  have h2 := (List.cons.inj (List.cons.inj h).2).1
  injection h1 with h1
  injection h2 with h2
  exact Prod.ext (num_inj h1) (nkOs_inj h2)
theorem nk_depth (st : FState) : (nkS st).depth ≤ 8 := by
  have e1 : ∀ l : List Int, NestedKey.depthAll (l.map NestedKey.num) ≤ 1 := by
    intro l
    induction l with
    | nil => simp [NestedKey.depthAll]
    | cons x l ih => simp [NestedKey.depthAll, NestedKey.depth]; omega
  have e2 : ∀ l : List (Option Int), NestedKey.depthAll (l.map nkO) ≤ 1 := by
    intro l
    induction l with
    | nil => simp [NestedKey.depthAll]
    | cons x l ih => cases x <;> simp [NestedKey.depthAll, NestedKey.depth, nkO] <;> omega
  have h1 := e1 st.1
  have h2 := e2 st.2
  unfold nkS
  simp only [NestedKey.depth, NestedKey.depthAll]
  omega
theorem nis_ints {h : Heap} : ∀ {l : List Int} {vs : List V} {us : List Value} {F : Hp}, DqA F vs (l.map PyData.int) → Vals vs us → NestedAll h (l.map NestedKey.num) us
  | [], _, _, _, a, r => by cases a; cases r; exact .nil
  | i :: l, _, _, _, a, r => by
    cases a with
    | cons h1 h2 =>
      cases h1
      cases r with
      | cons r1 r2 =>
        obtain ⟨t, rfl⟩ := r1
        exact .cons (.int i t) (nis_ints h2 r2)
theorem nis_opts {h : Heap} : ∀ {l : List (Option Int)} {vs : List V} {us : List Value} {F : Hp}, DqA F vs (l.map encO) → Vals vs us → NestedAll h (l.map nkO) us
  | [], _, _, _, a, r => by cases a; cases r; exact .nil
  | o :: l, _, _, _, a, r => by
    cases a with
    | cons h1 h2 =>
      cases r with
      | cons r1 r2 =>
        cases o with
        | none =>
          cases h1
          cases r1
          exact .cons .none (nis_opts h2 r2)
        | some i =>
          cases h1
          obtain ⟨t, rfl⟩ := r1
          exact .cons (.int i t) (nis_opts h2 r2)
theorem nis_st {X : Cx} {pins : List (Addr × Obj)} {σ : L2.St} {H F : Hp} {s : Shared} {v : V} {st : FState} (I : Inv X pins σ H s) (e : Same F H) (d : Dq F v (encS st)) : ∃ a, v = .ref a ∧ (nestedKind X.prog X.w).is s.heap (nkS st) a := by
  unfold encS at d
  cases d with
  | @tup a xs _ g da =>
    cases da with
    | cons d1 da => cases da with
      | cons d2 da =>
        cases da
        cases d1 with
        | @tup a1 xs1 _ g1 da1 =>
          cases d2 with
          | @tup a2 xs2 _ g2 da2 =>
            obtain ⟨_, its, r, o, ho, hc, n, hd⟩ := I.hok a _ (e _ _ g)
            obtain ⟨_, its1, r1, o1, ho1, hc1, n1, hd1⟩ := I.hok a1 _ (e _ _ g1)
            obtain ⟨_, its2, r2, o2, ho2, hc2, n2, hd2⟩ := I.hok a2 _ (e _ _ g2)
            refine ⟨a, rfl, ?_, nk_depth st⟩
            cases r with
            | cons ra rt => cases rt with
              | cons rb rt =>
                cases rt
                cases ra
                cases rb
                exact .tup ho hc hd (.cons (.tup ho1 hc1 hd1 (nis_ints da1 r1)) (.cons (.tup ho2 hc2 hd2 (nis_opts da2 r2)) .nil))
def SeenAt (P : Program) (w : World) (D : Addr) (xs : List (NestedKey × Addr × Value)) (h : Heap) : Prop := ∃ o es ep, h.get? D = some o ∧ o.ExactDict ∧ o.data = .dict es ep ∧ es.toList = xs.map (entryOfKey (nestedKind P w)) ∧ (xs.map (·.1)).Nodup
def SeenR (P : Program) (w : World) (D : Addr) (sts : List FState) (o : HO) (vs : List V) : Prop := ∃ xs : List (NestedKey × Addr × Value), o = .ext (SeenAt P w D xs) ∧ vs = xs.map (fun x => .ref x.2.1) ∧ xs.map (·.1) = sts.map nkS ∧ (D == sysModules) = false
theorem seen_stay {P : Program} {w : World} {D : Addr} {xs : List (NestedKey × Addr × Value)} (h1 h2 : Heap) (x : SeenAt P w D xs h1) (k : ∀ o, h1.get? D = some o → h2.get? D = some o) : SeenAt P w D xs h2 :=
  let ⟨o, es, ep, ho, r⟩ := x; ⟨o, es, ep, k o ho, r⟩
theorem seen_ok {P : Program} {w : World} {H : Hp} {h : Heap} {D : Addr} {xs : List (NestedKey × Addr × Value)} (x : SeenAt P w D xs h) : ObjOk P w H h D (.ext (SeenAt P w D xs)) := ⟨x, let ⟨o, _, _, ho, _⟩ := x; ⟨o, ho⟩, seen_stay⟩
theorem keys_are {X : Cx} {pins : List (Addr × Obj)} {σ : L2.St} {H F : Hp} {s : Shared} (I : Inv X pins σ H s) (e : Same F H) : ∀ {xs : List (NestedKey × Addr × Value)} {sts : List FState}, xs.map (·.1) = sts.map nkS → DqA F (xs.map fun x => .ref x.2.1) (sts.map encS) → ∀ x ∈ xs, (nestedKind X.prog X.w).is s.heap x.1 x.2.1
  | [], _, _, _, x, hx => by cases hx
  | y :: xs, [], h, _, x, hx => by cases h
  | y :: xs, st :: sts, h, d, x, hx => by
    have h1 := (List.cons.inj h).1
    have h2 := (List.cons.inj h).2
    cases d with
    | cons d1 d2 =>
      rcases List.mem_cons.mp hx with z | z
      · subst z
        obtain ⟨a, ea, q⟩ := nis_st I e d1
        cases ea
        have h1 : x.1 = nkS st := h1
        rw [h1]
        exact q
      · exact keys_are I e h2 d2 x z
theorem seen_dict {X : Cx} {pins : List (Addr × Obj)} {σ : L2.St} {H F : Hp} {s : Shared} {D : Addr} {xs : List (NestedKey × Addr × Value)} {sts : List FState} (I : Inv X pins σ H s) (e : Same F H) (hD : H D = some (.ext (SeenAt X.prog X.w D xs))) (hk : xs.map (·.1) = sts.map nkS) (d : DqA F (xs.map fun x => .ref x.2.1) (sts.map encS)) : s.heap.DictOfH (nestedKind X.prog X.w) D xs := by
  obtain ⟨⟨o, es, ep, ho, hc, hd, he, hn⟩, _, _⟩ := I.hok D _ hD
  exact ⟨o, es, ep, ho, hc, hd, he, keys_are I e hk d, hn⟩
theorem at_seen {xs : List (NestedKey × Addr × Value)} {sts : List FState} {st : FState} (hk : xs.map (·.1) = sts.map nkS) : (atKey xs (nkS st)).isSome = decide (st ∈ sts) := by
  have e : (atKey xs (nkS st)).isSome = decide (nkS st ∈ xs.map (·.1)) := by
    unfold atKey
    rw [Option.isSome_map, List.isSome_find?]
    by_cases q : nkS st ∈ xs.map (·.1)
    · rw [decide_eq_true q]
      obtain ⟨x, hx, ex⟩ := List.mem_map.mp q
      exact List.any_eq_true.mpr ⟨x, hx, decide_eq_true ex⟩
    · rw [decide_eq_false q]
      rw [List.any_eq_false]
      intro x hx z
      exact q (List.mem_map.mpr ⟨x, hx, of_decide_eq_true z⟩)
  rw [e, hk]
  by_cases q : st ∈ sts
  · rw [decide_eq_true q, decide_eq_true (List.mem_map.mpr ⟨st, q, rfl⟩)]
  · rw [decide_eq_false q, decide_eq_false]
    intro z
    obtain ⟨y, hy, ey⟩ := List.mem_map.mp z
    exact q (nkS_inj ey ▸ hy)
section
variable {X : Cx}
/-- u not in the seen, where this stands -/
def rNinSeen (X : Cx) : R2 := fun x y H Q => ∃ (F : Hp) (D : Addr) (st : FState) (sts : List FState) (xs : List (NestedKey × Addr × Value)), y = .ref D ∧ Same F H ∧ Dq F x (encS st) ∧ H D = some (.ext (SeenAt X.prog X.w D xs)) ∧ xs.map (·.1) = sts.map nkS ∧ DqA F (xs.map fun x => .ref x.2.1) (sts.map encS) ∧ (D == sysModules) = false ∧ Q (.bl (!decide (st ∈ sts))) H
theorem op_ninSeen (hu : X.A.units + 9 < cLine) : OpR X (compareOp .NotIn) (rNinSeen X) := by
  intro pins s σ H x y v u Q I rx ry h
  obtain ⟨F, D, st, sts, xs, rfl, e, dx, hD, hk, d, hs, q⟩ := h
  cases ry
  obtain ⟨a, rfl, ka⟩ := nis_st I e dx
  obtain rfl : v = Value.ref a := rx
  have dd := seen_dict I e hD hk d
  have q' := q
  rw [← at_seen hk] at q'
  exact PyProof.Rows.wpAny_notIn_heap (knd := nestedKind X.prog X.w) (by show X.A.in1.units + 8 < cLine; exact Nat.lt_of_le_of_lt (Nat.le_of_eq (by show X.A.units + 1 + 8 = _; omega)) hu) ka hs dd ⟨.bl (!(atKey xs (nkS st)).isSome), H, I.tok _, rfl, q'⟩
def rSetSeen (X : Cx) : V → V → V → Hp → (Hp → Prop) → Prop := fun o i v H Q => ∃ (F : Hp) (D : Addr) (st : FState) (sts : List FState) (xs : List (NestedKey × Addr × Value)), o = .ref D ∧ v = .bl true ∧ Same F H ∧ Dq F i (encS st) ∧ H D = some (.ext (SeenAt X.prog X.w D xs)) ∧ xs.map (·.1) = sts.map nkS ∧ DqA F (xs.map fun x => .ref x.2.1) (sts.map encS) ∧ st ∉ sts ∧ xs.length < sizeLine ∧
  ∀ a, i = .ref a → Q (upd H D (.ext (SeenAt X.prog X.w D (xs ++ [(nkS st, a, .bool true)]))))
theorem set_seen (hu : X.A.units + 9 < cLine) : PSet X (rSetSeen X) := by
  intro pins s σ H o i v ov iv u Q I ro ri rv h
  obtain ⟨F, D, st, sts, xs, rfl, rfl, e, di, hD, hk, d, hn, hz, q⟩ := h
  cases ro
  cases rv
  obtain ⟨a, rfl, ka⟩ := nis_st I e di
  obtain rfl : iv = Value.ref a := ri
  have dd := seen_dict I e hD hk d
  refine PySem.wpAny_setItem_heap (knd := nestedKind X.prog X.w) (hsz := Nat.le_of_lt hz) (by show X.A.in1.units + 8 < cLine; exact Nat.lt_of_le_of_lt (Nat.le_of_eq (by show X.A.units + 1 + 8 = _; omega)) hu) ka dd fun h' dd' sb => ?_
  have en : atKey xs (nkS st) = none := by
    have := at_seen (st := st) hk
    rw [decide_eq_false hn] at this
    cases z : atKey xs (nkS st) with
    | none => rfl
    | some p => rw [z] at this; cases this
  rw [storedH_new en] at dd'
  obtain ⟨o', es, ep, ho, hc, hd, he, _, hnd⟩ := dd'
  refine ⟨_, d_write I (by rw [hD]; exact True.intro) sb ⟨o', ho⟩ (seen_ok ⟨o', es, ep, ho, hc, hd, he, hnd⟩), q a rfl⟩
/-- {k: True} -/
def tSeen1 (X : Cx) (tk : TE) : TE := fun σ H Q => ∀ p, H p = none → tk σ (upd H p (.dT [])) fun x H1 => ∃ (F : Hp) (st : FState) (a : Addr), x = .ref a ∧ H1 = upd H p (.dT []) ∧ Same F H1 ∧ Dq F x (encS st) ∧ ((p == sysModules) = false → Q (.ref p) (upd H1 p (.ext (SeenAt X.prog X.w p [(nkS st, a, .bool true)]))))
theorem pe_seen1 {k : Expr} {tk : TE} {kk : Nat} {pc pos : Pos} (hu : X.A.units + 9 < cLine) (hk : PE X k tk) : PE X (.Dict [some k] [.Constant (.bool true) kk pc] pos) (tSeen1 X tk) := by
  refine ⟨fun pins s σ H Q I q => ?_⟩
  have hn := I.hok.fresh (Nat.le_refl s.heap.objs.size)
  have I1 := I.laid (a := s.heap.objs.size) (o := .dT []) (h' := s.heap.push { cls := .type "dict", data := .dict #[] }) (t' := s.toks) (fun _ _ q => Heap.get?_push_of_some _ q) (Nat.le_refl _) (dt_empty s.heap I.big)
  have hlen := pairTrees_length [some k] [Expr.Constant (.bool true) kk pc] X.env pos rfl rfl
  rw [arm_eval_Dict, zip_pairTrees [some k] [Expr.Constant (.bool true) kk pc] X.env pos rfl rfl, dictDisplay_pairs _ (by intro z; rw [z] at hlen; cases hlen) (by rw [hlen]; show 1 < 17; decide)]
  refine wpAny_bind (wpAny_standAt (wpAny_bind (wpAny_subDictH (knd := nestedKind X.prog X.w) (Q := fun d s' => wpAny (model X.prog X.w) X.A (pure (Value.ref d)) (EP X pins σ Q) X.xe s') (by show X.A.units + 8 < cLine; omega) (by rw [hlen]; show 1 ≤ 15; decide) ?_)))
  refine pairTrees_cons_walk (thn (hk.run pins _ σ _ _ I1 (q _ hn)) fun u s1 ⟨x, H1, I2, rx, F, st, a, ex, eH, e, dx, q2⟩ => thn (pe_bl.run pins s1 σ H1 (fun y H2 => y = .bl true ∧ H2 = H1) I2 ⟨rfl, rfl⟩) fun w2 s2 ⟨y, H2, I3, ry, ey, e2⟩ => pairTrees_nil_walk ?_)
  subst ex ey e2 eH
  cases ry
  obtain rfl : u = Value.ref a := rx
  obtain ⟨a', ea, ka⟩ := nis_st I3 e dx
  cases ea
  obtain ⟨_, hs, xs0, r0, o, es, ep, ho, hc, hd, he, hnd⟩ := I3.hok s.heap.objs.size (.dT []) upd_same
  cases r0
  refine ⟨[(nkS st, a, .bool true)], ⟨rfl, rfl, ka, trivial⟩, ⟨o, es, ep, ho, hc, hd, he, (fun x hx => nomatch hx), List.nodup_nil⟩, fun h' tk dd sb => wpAny_pure ?_⟩
  obtain ⟨o', es', ep', ho', hc', hd', he', _, hnd'⟩ := dd
  exact ⟨.ref s.heap.objs.size, _, d_write I3 (by rw [upd_same]; exact True.intro) sb ⟨o', ho'⟩ (seen_ok ⟨o', es', ep', ho', hc', hd', he', hnd'⟩), rfl, q2 hs⟩
end
end Fw

-- part FwSeen2
set_option Elab.async false
set_option maxRecDepth 100000
set_option maxHeartbeats 4000000
set_option linter.all false
namespace L2
open PySem PySem.Spec PyProof.Rows
theorem cr_sumT {X : Cx} (hc : X.calm = true) : CallR X (.builtin "sum") (fun vs H Q => ∃ (a : Addr) (ns : List Int), vs = [V.ref a] ∧ SqT X.K H a (ns.map V.int) ∧ Q (.int ns.sum) H) := by
  intro pins s σ H vs us Q I r h
  obtain ⟨a, ns, rfl, hs, q⟩ := h
  obtain ⟨its, rv, hl, _⟩ := I.tuple hs
  rw [Vals.ref1 r]
  have hi := rv.ints
  obtain ⟨xs, e⟩ := hi.allInts.items
  have hn : numsOf (intItems xs).toList = ns := by rw [← e]; exact hi.numsOf
  rw [nums_intItems] at hn
  have hl' : s.heap.IsTuple a its.toArray := hl
  rw [e] at hl'
  refine PySem.W.ktm_sumG (I.ok.hd hc) hl' fun h' tk t' hk => ?_
  rw [preSum_eq, List.take_of_length_le (by simp), hn]
  exact ⟨.int _, H, I.kept hk, ⟨_, rfl⟩, q⟩
end L2
namespace Fw
open PySem PySem.Spec PyProof.Rows L2
section
variable {X : Cx} {a b c e ke : Expr} {es : List Expr} {t t1 : Ty} {R : Po} {pos p pp nx np ap cp sp pc p2 p3 : Pos} {x y : Str} {d z : PyData} {ds : List PyData} {D : Addr} {sts : List FState} {st : FState}
theorem ll_sumT (hc : X.calm = true) (ns : List Int) : CallD X (.builtin "sum") [.d (.tuple (ns.map PyData.int))] (.int ns.sum) := fun F H vs Q e h k => by
  cases h with
  | cons h1 h2 =>
    cases h2
    cases h1 with
    | tup g a =>
      rw [a.ints] at g
      exact use_c (cr_sumT hc) ⟨_, ns, rfl, SqT.of (e _ _ g), k _ F H (Gr.refl e) (.int _)⟩
/-- a if c else b -/
theorem pd_ite {k : Bool} (hc : PDT X c t k) (h1 : k = true → PD X a t d) (h0 : k = false → PD X b t d) : PD X (.IfExp c a b pos) t d := fun N sg F H Q S q =>
  use_e (pe_ifExp (pt_of X c) (pe_of X a) (pe_of X b)) (hc N sg F H _ S fun kk F1 H1 S1 s1 hk => by
    subst hk
    cases kk with
    | true => rw [if_pos rfl]; exact h1 rfl N sg F1 H1 _ S1 fun v F2 H2 r2 S2 s2 d2 hr2 => q v F2 H2 r2 S2 (s1.trans s2) d2 hr2
    | false => rw [if_neg Bool.false_ne_true]; exact h0 rfl N sg F1 H1 _ S1 fun v F2 H2 r2 S2 s2 d2 hr2 => q v F2 H2 r2 S2 (s1.trans s2) d2 hr2)
theorem pm_ite {P : Bool → Prop} {R' : Dt → Prop} (hc : PMT X c t P) (h1 : P true → PM X a t R') (h0 : P false → PM X b t R') : PM X (.IfExp c a b pos) t R' := fun N sg F H Q S q =>
  use_e (pe_ifExp (pt_of X c) (pe_of X a) (pe_of X b)) (hc N sg F H _ S fun kk F1 H1 S1 s1 hk => by
    cases kk with
    | true => rw [if_pos rfl]; exact h1 hk N sg F1 H1 _ S1 fun v F2 H2 r2 S2 s2 d2 hr2 => q v F2 H2 r2 S2 (s1.trans s2) d2 hr2
    | false => rw [if_neg Bool.false_ne_true]; exact h0 hk N sg F1 H1 _ S1 fun v F2 H2 r2 S2 s2 d2 hr2 => q v F2 H2 r2 S2 (s1.trans s2) d2 hr2)
/-- x = [..] -/
theorem sd_lstN {P : List Dt → Prop} (i : Nat) (hN : X.N.Nodup) (hi : X.N[i]? = some x) (hx : Loc X.env.scope x) (ha : PMA X es t P) (hl : ∀ rs, P rs → ∃ ds, rs = allD ds ∧ ds.length ≤ sizeLine ∧ ∀ D, D ∉ ows t → R.nx (t.set i (.lst D ds))) (hs : swapsWith (.List es p2) (some (.Name x p)) pos.line X.env = pure false := by rfl)
    (hf : X.fn x = true ∨ X.env.scope.names.lookup x = some .local := by first | exact .inl rfl | exact .inr rfl) : SD X (.Assign [.Name x p] (.List es p2) pos) t R := fun N sg F H Ds S q =>
  use_s (ps_set hN hi hx (pe_lst (pa_of X es)) hs hf) (ha N sg F H _ S fun vs F1 H1 rs S1 s1 d1 hr => by
    obtain ⟨ds, rfl, hz, k⟩ := hl rs hr
    have d2 := dqa_of d1
    refine ⟨by rw [d2.len]; exact hz, fun l hl => ?_⟩
    obtain ⟨h1, h2, h3⟩ := S1.new_ hl
    exact q.nx _ F1 _ _ (StO.own (s := .lst l ds) (S1.grow (Gr.lay S1.fh hl)) rfl h1 h3 ⟨rfl, h2, _, upd_same, d2⟩) (k l h3))
/-- x.pop() -/
theorem pms_pop {xs : List PyData} (i : Nat) (ht : t[i]? = some (.lst D (xs ++ [d]))) (hN : X.N[i]? = some x := by rfl) (hv : Vis X.env.scope x := by first | exact Or.inl rfl | exact Or.inr (Or.inl rfl) | exact Or.inr (Or.inr rfl))
    (hd : (x == ("__debug__" : Str)) = false := by decide) (hcd : (x == ("__classdict__" : Str)) = false := by decide) (hbase : attributeBase (.Name x nx) "pop" X.env (eval (.Name x nx) X.env) = eval (.Name x nx) X.env := by rfl) (hline : (ap.endLine == cp.line) = true := by rfl) : PMS X (.Call (.Attribute (.Name x nx) "pop" ap) [] [] cp) t (fun r t' => r = .d d ∧ t' = t.set i (.lst D xs)) := fun N sg F H Q S q => by
  refine use_e (pe_bm0 PySem.F.plainAttrs_list PySem.F.slot_list_pop PySem.F.type_list_pop mt_pop (pe_var hN hv hd hcd) hbase hline) ?_
  obtain ⟨v1, j1, rfl, j3, ws, j4, j5⟩ := S.sl i _ ht
  have hl := j5.len
  rw [List.length_append, List.length_singleton] at hl
  obtain ⟨v, hv', dv⟩ := j5.get (i := xs.length) (d := d) (by rw [List.getElem?_append_right (Nat.le_refl _), Nat.sub_self]; rfl)
  have dp : DqA F ws.dropLast xs := by
    have := j5.take xs.length
    rw [List.take_left] at this
    rw [List.dropLast_eq_take, hl]
    exact this
  refine ⟨_, j1, .inl ⟨rfl, _, SqL.of j4⟩, D, ws, v, rfl, rfl, j4, by rw [hl]; exact hv', ?_⟩
  refine q v F _ (.d d) _ (S.mut (s' := .lst D xs) ht rfl rfl (Same.refl F) (fun b o e => ?_) (fun b _ h => h) (fun b o z e => by rw [upd_ne z]; exact e) (by rw [upd_same]; intro z; cases z) fun v hv => ⟨hv.1, hv.2.1, _, upd_same, dp⟩) (Same.refl F) dv ⟨rfl, rfl⟩
  rw [upd_ne (fun z => by rw [z, j3] at e; cases e)]
  exact S.fh b o e
/-- tg = e, e may change the things of one's own -/
theorem sd_asgTS {tg : Expr} {g : TG} {bs : List (Nat × PyData)} (he : PMS X e t (fun r t' => r = .d d ∧ t' = t1)) (hg : PG X tg g) (ht : TgS g d bs) (k : R.nx (setsT t1 bs)) (hs : swapsWithSole [tg] e pos.line X.env = pure false := by rfl) (hw : swappedStores [tg] e X.env = pure none := by rfl) (ha : (assignEach [tg] X.env).map (·.2) = [assign tg X.env] := by rfl) : SD X (.Assign [tg] e pos) t R := fun N sg F H D S q =>
  use_s (ps_asg (pe_of X e) hg hs hw ha) (he N sg F H _ S fun v F1 H1 r1 t' S1 s1 d1 hr1 => by
    obtain ⟨e1, e2⟩ := hr1
    subst e1 e2
    exact ht F1 H1 v sg _ S1.fh d1 fun qs hq => q.nx _ F1 H1 _ (S1.sets hq) k)
/-! ### the seen -/
/-- x = {y: True} -/
theorem sd_newSeen {kk : Nat} (i j : Nat) (hu : X.A.units + 9 < cLine) (hN : X.N.Nodup) (hi : X.N[i]? = some x) (hx : Loc X.env.scope x) (ht : t[j]? = some (.v (.d (encS st)))) (k : ∀ D, D ∉ ows t → R.nx (t.set i (.xt D (SeenR X.prog X.w D [st]) [encS st]))) (hj : X.N[j]? = some y := by rfl) (hv : Vis X.env.scope y := by first | exact Or.inl rfl | exact Or.inr (Or.inl rfl) | exact Or.inr (Or.inr rfl))
    (hd : (y == ("__debug__" : Str)) = false := by decide) (hcd : (y == ("__classdict__" : Str)) = false := by decide) (hs : swapsWith (.Dict [some (.Name y nx)] [.Constant (.bool true) kk pc] p2) (some (.Name x np)) pos.line X.env = pure false := by rfl)
    (hf : X.fn x = true ∨ X.env.scope.names.lookup x = some .local := by first | exact .inl rfl | exact .inr rfl) : SD X (.Assign [.Name x np] (.Dict [some (.Name y nx)] [.Constant (.bool true) kk pc] p2) pos) t R := fun N sg F H Ds S q => by
  refine use_s (ps_set hN hi hx (pe_seen1 hu (pe_var hj hv hd hcd)) hs hf) fun l hl => ?_
  obtain ⟨v0, g1, v, rfl, dv⟩ := S.sl j _ ht
  obtain ⟨h1, h2, h3⟩ := S.new_ hl
  have dv : Dq F v (encS st) := dv
  have dv' := dv
  unfold encS at dv'
  cases dv' with
  | @tup a xs _ ga da =>
    have sm : Same F (upd H l (.dT [])) := S.fh.trans (same_new hl)
    refine ⟨_, g1, F, st, a, rfl, rfl, sm, dv, fun hsys => ?_⟩
    have e2 : upd (upd H l (.dT [])) l (.ext (SeenAt X.prog X.w l [(nkS st, a, .bool true)])) = upd H l (.ext (SeenAt X.prog X.w l [(nkS st, a, .bool true)])) := by
      funext b
      by_cases z : b = l
      · subst z; rw [upd_same, upd_same]
      · rw [upd_ne z, upd_ne z, upd_ne z]
    rw [e2]
    refine q.nx _ F _ _ (StO.own (s := .xt l (SeenR X.prog X.w l [st]) [encS st]) (S.grow (Gr.lay S.fh hl)) rfl h1 h3 ⟨rfl, h2, _, [.ref a], upd_same, ⟨_, rfl, rfl, rfl, hsys⟩, .cons dv .nil⟩) (k l h3)
/-- ke not in x -/
theorem ninSeen (i : Nat) (hu : X.A.units + 9 < cLine) (ht : t[i]? = some (.xt D (SeenR X.prog X.w D sts) (sts.map encS))) (hk : PD X ke t (encS st)) (hN : X.N[i]? = some x := by rfl) (hv : Vis X.env.scope x := by first | exact Or.inl rfl | exact Or.inr (Or.inl rfl) | exact Or.inr (Or.inr rfl))
    (hd : (x == ("__debug__" : Str)) = false := by decide) (hcd : (x == ("__classdict__" : Str)) = false := by decide) (hb : behindInMarks .NotIn (.Name x nx) = false := by rfl) : PDT X (.Compare ke [.NotIn] [.Name x nx] cp) t (!decide (st ∈ sts)) := fun N sg F H Q S q => by
  refine use_t (pt_cmpR (op_ninSeen hu) (pe_of X ke) (pe_var hN hv hd hcd) hb) (hk N sg F H _ S fun u F1 H1 r1 S1 s1 d1 hr1 => ?_)
  subst hr1
  obtain ⟨v1, j1, rfl, j3, o, vs, j4, ⟨xs, e1, e2, e3, e4⟩, j5⟩ := S1.sl i _ ht
  subst e1 e2
  exact ⟨_, j1, F1, D, st, sts, xs, rfl, S1.fh, d1, j4, e3, j5, e4, _, rfl, q _ F1 H1 S1 s1 rfl⟩
/-- x[ke] = True -/
theorem sd_putSeen {kk : Nat} (i : Nat) (hu : X.A.units + 9 < cLine) (ht : t[i]? = some (.xt D (SeenR X.prog X.w D sts) (sts.map encS))) (hk : PD X ke t (encS st)) (hn : st ∉ sts) (hz : sts.length < sizeLine) (k : R.nx (t.set i (.xt D (SeenR X.prog X.w D (sts ++ [st])) ((sts ++ [st]).map encS)))) (hN : X.N[i]? = some x := by rfl) (hv : Vis X.env.scope x := by first | exact Or.inl rfl | exact Or.inr (Or.inl rfl) | exact Or.inr (Or.inr rfl))
    (hd : (x == ("__debug__" : Str)) = false := by decide) (hcd : (x == ("__classdict__" : Str)) = false := by decide) (hs : swapsWithSole [.Subscript (.Name x nx) ke sp] (.Constant (.bool true) kk pc) pos.line X.env = pure false := by rfl) (hw : swappedStores [.Subscript (.Name x nx) ke sp] (.Constant (.bool true) kk pc) X.env = pure none := by rfl)
    (h1 : (assignEach [.Subscript (.Name x nx) ke sp] X.env).map (·.2) = [assign (.Subscript (.Name x nx) ke sp) X.env] := by rfl)
    (ha : ∀ v, assign (.Subscript (.Name x nx) ke sp) X.env v = (do
      let ov ← holding [v] (eval (.Name x nx) X.env)
      let iv ← holding [v, ov] (eval ke X.env)
      standAt sp
      holding [v, ov, iv] (setItem ov iv v)
      release [v, ov, iv] []) := by intro _; rfl) : SD X (.Assign [.Subscript (.Name x nx) ke sp] (.Constant (.bool true) kk pc) pos) t R := fun N sg F H Ds S q => by
  refine use_s (ps_asg pe_bl (pg_sub (pe_var hN hv hd hcd) (pe_of X ke) (set_seen hu) ha) hs hw h1) ?_
  obtain ⟨v0, g1, rfl, _⟩ := S.sl i _ ht
  refine ⟨_, g1, hk N sg F H _ S fun w F2 H2 r2 S2 s2 d2 hr2 => ?_⟩
  subst hr2
  obtain ⟨v1, j1, j2, j3, o, vs, j4, ⟨xs, e1, e2, e3, e4⟩, j5⟩ := S2.sl i _ ht
  subst e1 e2
  have lx : xs.length = sts.length := by have := congrArg List.length e3; rwa [List.length_map, List.length_map] at this
  refine ⟨F2, D, st, sts, xs, rfl, rfl, S2.fh, d2, j4, e3, j5, hn, by rw [lx]; exact hz, fun a ea => ?_⟩
  subst ea
  refine q.nx sg F2 _ _ (S2.mut (s' := .xt D (SeenR X.prog X.w D (sts ++ [st])) ((sts ++ [st]).map encS)) ht rfl rfl (Same.refl F2) (fun b o e => ?_) (fun b _ h => h) (fun b o z e => by rw [upd_ne z]; exact e) (by rw [upd_same]; intro z; cases z) fun v hv => ⟨hv.1, hv.2.1, _, (xs.map fun x => V.ref x.2.1) ++ [.ref a], upd_same, ⟨_, rfl, by rw [List.map_append]; rfl, by rw [List.map_append, List.map_append, e3]; rfl, e4⟩, by rw [List.map_append]; exact j5.app (.cons d2 .nil)⟩) k
  rw [upd_ne (fun z => by rw [z, j3] at e; cases e)]
  exact S2.fh b o e
end
end Fw

-- part FwHand
set_option Elab.async false
set_option maxRecDepth 100000
set_option maxHeartbeats 4000000
set_option linter.all false
namespace Fw
open PySem PySem.Spec PyProof.Rows L2
/-! ### defs that draw -/
/-- the hand at slot 0, as it may stand -/
def HandT (t : Ty) (h : Addr) : Prop := t[0]? = some (.hand h) ∨ ∃ hs, HandOk hs ∧ t[0]? = some (.lst h hs)
theorem cal_hand {P : Program} {w : World} {K : PySem.W.Frag} {mg : Str → Option Value} {base : Heap} {nm : Str} {st : Stmt} {n0 : Str} {N ps : List Str} {k n : Nat} {Pre : List Dt → Prop} {Phi : List Dt → Dt → Prop} (F : HasFn K mg nm st ps) (S : FnScope (n0 :: N) ps (defScope st)) (hn : ps.length = n + 1)
    (body : ∀ (f : Addr) (cdv : Value) (A : Around) (outer : List Env) (s : Shared) (H : Hp) (E : XK), Room k (A.deeper (envOfC nm (defScope st) s.heap.objs.size f cdv)) → ∀ rs h, rs.length = n → Pre rs →
      SDs (bx P w K mg base (n0 :: N) nm st f cdv A outer s H E) (defBody st) (.hand h :: startT N rs) ⟨fun t => HandT t h ∧ Phi rs (.d .none), fun r t' => HandT t' h ∧ Phi rs r, fun _ => False, fun _ => False⟩) : Cal P w K mg base nm (k + 1) ps (spH (n + 1) Pre Phi) := by
  obtain ⟨f, fd, h1, h2, h3⟩ := F
  refine ⟨f, fd, h1.ok S (fun vs H Q E h => by rw [hn]; exact h.1) fun cdv A outer s H vs Q E hr h => ?_, h2, h1.kp, h3⟩
  obtain ⟨hl, F0, a, vs', rs, ws, hs, rfl, fh, fa, ha, dw, hok, da, pre, q⟩ := h
  have hlen := da.len
  have hN : rs.length ≤ N.length := by
    have e1 := congrArg List.length S.pre
    rw [List.length_take, List.length_cons] at e1
    rw [List.length_cons] at hl
    omega
  have eS : L2.start (n0 :: N) (.ref a :: vs') = some (.ref a) :: L2.start N vs' := by
    unfold L2.start
    rw [List.map_cons, List.length_cons, List.length_cons, Nat.add_sub_add_right]
    rfl
  have S0 := start_sto (N := N) fh da hN
  have no : ows (startT N rs) = [] := no_ows fun s hs => by
    unfold startT at hs
    rcases List.mem_append.mp hs with z | z
    · obtain ⟨r, _, e⟩ := List.mem_map.mp z
      subst e; rfl
    · rw [(List.mem_replicate.mp z).2]; rfl
  have ew : ows (.hand a :: startT N rs) = [a] := by
    show List.filterMap Sl.ad (.hand a :: startT N rs) = _
    rw [List.filterMap_cons]
    show a :: ows (startT N rs) = [a]
    rw [no]
  have S1 : StO ⟨F0, H, fun x => x = a⟩ F0 H (L2.start (n0 :: N) (.ref a :: vs')) (.hand a :: startT N rs) := by
    rw [eS]
    refine ⟨by rw [List.length_cons, List.length_cons, S0.ln], fh, Same.refl _, fun a _ z => z, fun a o z _ => z, fun a z => z, fun i u hi => ?_, fun x hx => ?_, by rw [ew]; simp⟩
    · cases i with
      | zero =>
        have z : Sl.hand a = u := by simpa using hi
        subst z
        exact ⟨_, rfl, rfl, fa, ws, hs, ha, dw, hok⟩
      | succ i =>
        obtain ⟨v, h1, h2⟩ := S0.sl i u (by simpa using hi)
        exact ⟨v, by simpa using h1, h2⟩
    · rw [ew] at hx
      exact .inr (List.mem_singleton.mp hx)
  have fin : ∀ {F1 H1 : Hp} {sg : St} {t : Ty}, StO ⟨F0, H, fun x => x = a⟩ F1 H1 sg t → HandT t a → ∃ ws' hs', H1 a = some (.lst ws') ∧ DqA F1 ws' hs' ∧ HandOk hs' := fun {F1 H1 sg t} S2 e => by
    rcases e with e | ⟨hs', e1, e⟩
    · obtain ⟨v, _, _, _, ws', hs', g3, g4, g5⟩ := S2.sl 0 _ e
      exact ⟨ws', hs', g3, g4, g5⟩
    · obtain ⟨v, _, _, _, ws', g3, g4⟩ := S2.sl 0 _ e
      exact ⟨ws', hs', g3, g4, e1⟩
  refine ⟨tbOf _ _, pb_of _ _, body f cdv A outer s H E hr rs a (by rw [List.length_cons] at hl; omega) pre _ _ F0 H _ S1 ⟨fun sg F1 H1 t S2 e => ?_, fun v F1 H1 sg t r S2 dv e => ?_, fun _ _ _ _ _ z => z.elim, fun _ _ _ _ _ z => z.elim⟩⟩
  · obtain ⟨ws', hs', g3, g4, g5⟩ := fin S2 e.1
    exact q .non F1 H1 (.d .none) ws' hs' S2.f0 S2.fh S2.nf (fun x o hx ho => S2.un x o ho hx) g3 g4 g5 e.2 Dq.non
  · obtain ⟨ws', hs', g3, g4, g5⟩ := fin S2 e.1
    exact q v F1 H1 r ws' hs' S2.f0 S2.fh S2.nf (fun x o hx ho => S2.un x o ho hx) g3 g4 g5 e.2 dv
section
variable {X : Cx} {e : Expr} {es : List Expr} {t : Ty} {R : Po} {pos p pp nx : Pos} {x nm : Str} {sts : List Stmt} {h : Addr}
/-- the hand is opened -/
theorem sds_open (ht : t[0]? = some (.hand h)) (k : ∀ hs, HandOk hs → SDs X sts (t.set 0 (.lst h hs)) R) : SDs X sts t R := fun N sg F H D S q => by
  obtain ⟨v, g1, g2, g3, ws, hs, g4, g5, g6⟩ := S.sl 0 _ ht
  refine k hs g6 N sg F H D (S.mut (s' := .lst h hs) ht rfl rfl (Same.refl F) S.fh (fun _ _ z => z) (fun _ _ _ z => z) (by rw [g4]; intro z; cases z) fun v' hv' => ⟨hv'.1, hv'.2.1, ws, g4, g5⟩) q
/-- a call of a def that draws -/
theorem pm_calH {k n : Nat} {ps : List Str} {Pre : List Dt → Prop} {Phi : List Dt → Dt → Prop} {P : List Dt → Prop} {R' : Dt → Prop} (i : Nat) (C : Cal X.prog X.w X.K X.mg X.base nm k ps (spH n Pre Phi)) (hr : Room k X.A) (ht : t[i]? = some (.hand h)) (ha : PMA X es t P) (hh : ∀ rs, P rs → rs.length + 1 = n ∧ Pre rs ∧ ∀ r, Phi rs r → R' r) (hN : X.N[i]? = some x := by rfl) (hv : Vis X.env.scope x := by first | exact Or.inl rfl | exact Or.inr (Or.inl rfl) | exact Or.inr (Or.inr rfl)) (hg : Gl X nm := by rfl)
    (hd : (x == ("__debug__" : Str)) = false := by decide) (hcd : (x == ("__classdict__" : Str)) = false := by decide) (hdb : (nm == ("__debug__" : Str)) = false := by decide) (he : starEach (.Name x nx :: es) X.env = (false, eval (.Name x nx) X.env) :: starEach es X.env := by rfl) (hpl : (backTo pos (starEach es X.env)).any (·.1) = false := by rfl) :
    PM X (.Call (.Name nm p) (.Name x nx :: es) [] pos) t R' := by
  obtain ⟨f, fd, g1, g2, g3, g4⟩ := C
  exact pm_callH i g1 hr hg g2 g3 g4 hN hv ht ha hh hd hcd hdb he hpl
end
end Fw

-- part FwOwn
set_option Elab.async false
set_option maxRecDepth 100000
set_option maxHeartbeats 4000000
set_option linter.all false
namespace Fw
open PySem PySem.Spec PyProof.Rows L2
/-! ### comprehensions over a list of one's own -/
structure WkT (J : It) (F1 : Hp) (t : Ty) (ds : List PyData) : Prop where
  go : ∀ i H F N sg, i < ds.length → StO N F H sg t → Same F1 F → J.go i H
  stop : ∀ H F N sg, StO N F H sg t → Same F1 F → J.stop ds.length H
  yld : ∀ i H x H' F N sg, i < ds.length → StO N F H sg t → Same F1 F → J.yld i H x H' → ∃ F' d, Gr F H F' H' ∧ ds[i]? = some d ∧ Dq F' x d
theorem lc_readO {A : Type} {t : Ty} {ds : List A} {enc : A → PyData} {wi : TI} {g : TG} {tt : TT} {te : TE} {ws : List Nat} {bs : A → List (Nat × PyData)} {c : A → Bool} {E : A → PyData → Prop}
    (hw : ∀ (N : En) (sg : St) (F H : Hp) (R : It → Hp → Prop), StO N F H sg t → (∀ J F1 H1, StO N F1 H1 sg t → Same F F1 → WkT J F1 t (ds.map enc) → R J H1) → wi sg H R)
    (ht : ∀ d ∈ ds, TgS g (enc d) (bs d)) (hb : ∀ d ∈ ds, ∀ p ∈ bs d, p.1 ∈ ws) (hno : ∀ j ∈ ws, t[j]? = some .no)
    (htt : ∀ d ∈ ds, ∀ (N : En) (sg : St) (F H : Hp) (Q : Bool → Hp → Prop), StO N F H sg (setsT t (bs d)) → (∀ b F' H', StO N F' H' sg (setsT t (bs d)) → Same F F' → b = c d → Q b H') → tt sg H Q)
    (hte : ∀ d ∈ ds, c d = true → ∀ (N : En) (sg : St) (F H : Hp) (Q : VK), StO N F H sg (setsT t (bs d)) → (∀ v F' H' r, StO N F' H' sg (setsT t (bs d)) → Same F F' → DtR F' v r → (∃ x, r = .d x ∧ E d x) → Q v H') → te sg H Q)
    (hz : ds.length < sizeLine) {N : En} {sg : St} {F H : Hp} {Q : VK} (S : StO N F H sg t)
    (k : ∀ v F' H' xs, StO N F' H' sg t → Same F F' → Dq F' v (.list xs) → PdR E (ds.filter c) xs → Q v H') : tLc wi g tt te ws sg H Q := by
  refine hw N sg F H _ S fun J F1 H1 S1 s1 W D hD => ?_
  have nD : N.H D = none := by
    cases e : N.H D with
    | none => rfl
    | some o => exact absurd hD (S1.th D (by rw [e]; intro z; cases z))
  have oD : D ∉ ows t := fun z => by
    obtain ⟨s, hs, es⟩ := List.mem_filterMap.mp z
    obtain ⟨i, hi⟩ := List.getElem?_of_mem hs
    obtain ⟨v, _, q⟩ := S1.sl i s hi
    cases s with
    | no => cases es
    | v r => cases es
    | lst a xs => cases es; obtain ⟨_, _, vs, g3, _⟩ := q; rw [hD] at g3; cases g3
    | dct a xs => cases es; obtain ⟨_, _, vs, g3, _⟩ := q; rw [hD] at g3; cases g3
    | hand a => cases es; obtain ⟨_, _, vs, hs, g3, _⟩ := q; rw [hD] at g3; cases g3
    | rf a => cases es
    | ins a C dx fs => cases es; obtain ⟨_, _, vs, g3, _⟩ := q; rw [hD] at g3; cases g3
    | obj a C dx vs => cases es; obtain ⟨_, _, g3⟩ := q; rw [hD] at g3; cases g3
    | gd a ks => cases es; obtain ⟨_, vs, g3, _⟩ := q; rw [hD] at g3; cases g3
    | xt a S ks => cases es; obtain ⟨_, _, o, vs, g3, _⟩ := q; rw [hD] at g3; cases g3
  have fD : F1 D = none := S1.fh.free hD
  refine ⟨fun i m H' => m = ds.length - i ∧ i ≤ ds.length ∧ ∃ F2 acc xs, StO N F2 H' sg t ∧ Same F1 F2 ∧ F2 D = none ∧ H' D = some (.lst acc) ∧ DqA F2 acc xs ∧ PdR E ((ds.take i).filter c) xs,
    ⟨_, rfl, Nat.zero_le _, F1, [], [], S1.updAt nD fD oD, Same.refl F1, fD, upd_same, .nil, .nil⟩, ?_⟩
  rintro i m H2 ⟨rfl, hil, F2, acc, xs, S2, s2, f2, h2, d2, p2⟩
  by_cases hlt : i < ds.length
  · refine .inr ⟨W.go i H2 F2 N sg (by rw [List.length_map]; exact hlt) S2 s2, fun H' => i + 1 ≤ ds.length ∧ ∃ F' acc' xs', StO N F' H' sg t ∧ Same F1 F' ∧ F' D = none ∧ H' D = some (.lst acc') ∧ DqA F' acc' xs' ∧ PdR E ((ds.take (i + 1)).filter c) xs', fun H' p' => ⟨ds.length - (i + 1), by omega, rfl, p'.1, p'.2⟩, fun x H3 y => ?_⟩
    obtain ⟨F3, d0, g3, hd0, dq3⟩ := W.yld i H2 x H3 F2 N sg (by rw [List.length_map]; exact hlt) S2 s2 y
    obtain ⟨d, hd3, ed3⟩ : ∃ d, ds[i]? = some d ∧ enc d = d0 := by
      rw [List.getElem?_map] at hd0
      cases q : ds[i]? with
      | none => rw [q] at hd0; cases hd0
      | some d => rw [q] at hd0; exact ⟨d, rfl, Option.some.inj hd0⟩
    subst ed3
    have hm := List.mem_of_getElem? hd3
    have S3 := S2.grow g3
    have f3 : F3 D = none := g3.nf D (by rw [h2]; intro z; cases z) f2
    have h3 : H3 D = some (.lst acc) := g3.hh _ _ h2
    have S3w := S3.wipe hno
    refine ht d hm F3 H3 x _ _ S3w.fh dq3 fun qs hq => ?_
    have hqs : ∀ q ∈ qs, q.1 ∈ ws := by
      intro q hq'
      have gg : ∀ {qs : List (Nat × V)} {ps : List (Nat × PyData)}, Bnd F3 qs ps → ∀ q ∈ qs, ∃ p ∈ ps, q.1 = p.1 := by
        intro qs ps h
        induction h with
        | nil => intro q hq; cases hq
        | cons h1 h2 ih =>
          intro q hq
          rcases List.mem_cons.mp hq with e | e
          · subst e; exact ⟨_, List.mem_cons_self, h1.1⟩
          · obtain ⟨p, hp, e2⟩ := ih q e; exact ⟨p, List.mem_cons_of_mem _ hp, e2⟩
      obtain ⟨p, hp, e⟩ := gg hq q hq'
      rw [e]
      exact hb d hm p hp
    refine ⟨by rw [wipe_sets qs _ hqs, wipe_wipe], ?_⟩
    have S4 := S3w.sets hq
    have B4 := S4.base
    -- back from a state within the turn
    have fin : ∀ {F' H' : Hp}, StO (here F3 H3 (setsT t (bs d))) F' H' (setsV (L2.wipe sg ws) qs) (setsT t (bs d)) → D ∉ ows (setsT t (bs d)) → StO N F' H' sg t ∧ Same F3 F' ∧ F' D = none ∧ H' D = some (.lst acc) := fun {F' H'} S5 oo => by
      have a1 : H' D = some (.lst acc) := S5.un D _ h3 oo
      have a2 : F' D = none := S5.nf D (by show H3 D ≠ none; rw [h3]; intro z; cases z) f3
      have S6 := S4.back S5
      refine ⟨StO.unwipe (ws := ws) ⟨by rw [wipe_length]; exact S.ln, S6.fh, S6.f0, S6.nf, S6.un, S6.th, fun j s hj => ?_, S.ow, S.ap⟩ hno, S5.f0, a2, a1⟩
      -- the slots that are not the block's own
      have other : ∀ (ps : List (Nat × PyData)) (u : Ty), j ∉ ps.map (·.1) → (setsT u ps)[j]? = u[j]? := by
        intro ps
        induction ps with
        | nil => intro u _; rfl
        | cons p ps ih =>
          intro u hn
          have h1 : p.1 ≠ j := fun z => hn (by rw [List.map_cons]; exact List.mem_cons.mpr (.inl z.symm))
          show (setsT (u.set p.1 (.v (.d p.2))) ps)[j]? = _
          rw [ih _ (fun z => hn (by rw [List.map_cons]; exact List.mem_cons_of_mem _ z)), List.getElem?_set_ne h1]
      have otherV : ∀ (ps : List (Nat × V)) (u : St), j ∉ ps.map (·.1) → (setsV u ps)[j]? = u[j]? := by
        intro ps
        induction ps with
        | nil => intro u _; rfl
        | cons p ps ih =>
          intro u hn
          have h1 : p.1 ≠ j := fun z => hn (by rw [List.map_cons]; exact List.mem_cons.mpr (.inl z.symm))
          show (setsV (u.set p.1 (some p.2)) ps)[j]? = _
          rw [ih _ (fun z => hn (by rw [List.map_cons]; exact List.mem_cons_of_mem _ z)), List.getElem?_set_ne h1]
      by_cases hj' : j ∈ ws
      · rw [hno j hj'] at hj
        cases hj
        have hl : j < (L2.wipe sg ws).length := by
          rw [wipe_length, S.ln]
          exact (List.getElem?_eq_some_iff.mp (hno j hj')).1
        exact ⟨(L2.wipe sg ws)[j]'hl, List.getElem?_eq_getElem hl, trivial⟩
      · have n1 : j ∉ (bs d).map (·.1) := fun z => by
          obtain ⟨p, hp, e⟩ := List.mem_map.mp z
          exact hj' (e ▸ hb d hm p hp)
        have n2 : j ∉ qs.map (·.1) := fun z => by
          obtain ⟨p, hp, e⟩ := List.mem_map.mp z
          exact hj' (e ▸ hqs p hp)
        obtain ⟨v, g1, g2⟩ := S6.sl j s (by rw [other _ _ n1]; exact hj)
        rw [otherV _ _ n2] at g1
        exact ⟨v, g1, g2⟩
    have oo : D ∉ ows (setsT t (bs d)) := by
      have sub : ∀ (ps : List (Nat × PyData)) (u : Ty), D ∉ ows u → D ∉ ows (setsT u ps) := by
        intro ps
        induction ps with
        | nil => intro u h; exact h
        | cons p ps ih => intro u h; exact ih _ fun z => h (ows_set_sub rfl z)
      exact sub _ _ oD
    refine htt d hm _ _ F3 H3 _ B4 fun b F5 H5 S5 s5 hb5 => ?_
    subst hb5
    cases hcd : c d with
    | false =>
      rw [if_neg Bool.false_ne_true]
      obtain ⟨q1, q2, q3, q4⟩ := fin S5 oo
      refine ⟨hlt, F5, acc, xs, q1, (s2.trans g3.ff).trans q2, q3, q4, d2.up (g3.ff.trans q2), ?_⟩
      rw [take_succ hd3, List.filter_append, show List.filter c [d] = [] from by simp [hcd], List.append_nil]
      exact p2
    | true =>
      rw [if_pos rfl]
      refine hte d hm hcd _ _ F5 H5 _ S5 fun v F6 H6 r S6 s6 dr ⟨x6, er, e6⟩ => ?_
      subst er
      obtain ⟨q1, q2, q3, q4⟩ := fin S6 oo
      refine ⟨acc, q4, ?_, hlt, F6, acc ++ [v], xs ++ [x6], q1.updAt nD q3 oD, (s2.trans g3.ff).trans q2, q3, upd_same, (d2.up (g3.ff.trans q2)).app (.cons dr .nil), ?_⟩
      · have e1 := d2.len
        have e2 := Pd.len p2
        have e3 := List.length_filter_le c (ds.take i)
        have e4 : (ds.take i).length ≤ ds.length := by rw [List.length_take]; omega
        omega
      · rw [take_succ hd3, List.filter_append, show List.filter c [d] = [d] from by simp [hcd]]
        exact Pd.snoc p2 e6
  · have ei : i = ds.length := by omega
    subst ei
    refine .inl ⟨by have q := W.stop H2 F2 N sg S2 s2; rw [List.length_map] at q; exact q, ?_⟩
    rw [List.take_length] at p2
    exact k (.ref D) (upd F2 D (.lst acc)) H2 xs (S2.frz nD f2 oD h2) ((s1.trans s2).trans (same_new f2)) (.lst upd_same (d2.up (same_new f2))) p2
/-- readings that serve in every block of the comprehension -/
theorem wk_own {K : PySem.W.Frag} {a : Addr} {F1 : Hp} {t : Ty} {ds : List PyData} (i : Nat) (ht : t[i]? = some (.lst a ds)) : WkT (Itl K a) F1 t ds where
  go := fun j H F N sg hj S _ => by
    obtain ⟨_, _, _, _, vs, h3, h4⟩ := S.sl i _ ht
    obtain ⟨v, hv, _⟩ := h4.get (i := j) (List.getElem?_eq_getElem hj)
    exact ⟨vs, v, SqL.of h3, hv⟩
  stop := fun H F N sg S _ => by
    obtain ⟨_, _, _, _, vs, h3, h4⟩ := S.sl i _ ht
    exact ⟨vs, SqL.of h3, by rw [h4.len]; exact Nat.le_refl _⟩
  yld := fun j H x H' F N sg hj S _ y => by
    obtain ⟨_, _, _, _, vs, h3, h4⟩ := S.sl i _ ht
    obtain ⟨e, y⟩ := y
    subst e
    obtain ⟨d, hd, dq⟩ := h4.getV (y vs (SqL.of h3))
    exact ⟨F, d, Gr.refl S.fh, hd, dq⟩
section
variable {A : Type} {X : Cx} {elt tg : Expr} {scope : Scope} {own : List (Str × Nat)} {pos nx : Pos} {t : Ty} {ds : List A} {enc : A → PyData} {g : TG} {bs : A → List (Nat × PyData)} {x : Str} {a : Addr}
/-- [elt for tg in x], x a list of one's own -/
theorem pd_lcO {f : A → PyData} (i : Nat) (ht0 : t[i]? = some (.lst a (ds.map enc))) (hc : X.calm = true) (hN : X.N.Nodup) (ok : BlkOk X.N X.env.scope scope own) (hg : PGB X scope tg g) (ht : ∀ d ∈ ds, TgS g (enc d) (bs d)) (hb : ∀ d ∈ ds, ∀ p ∈ bs d, p.1 ∈ own.map (·.2)) (hno : ∀ j ∈ own.map (·.2), t[j]? = some .no)
    (he : ∀ d ∈ ds, PMB X scope elt (setsT t (bs d)) (fun r => r = .d (f d))) (hz : ds.length < sizeLine) (hx : X.N[i]? = some x := by rfl) (hv : Vis X.env.scope x := by first | exact Or.inl rfl | exact Or.inr (Or.inl rfl) | exact Or.inr (Or.inr rfl))
    (hd : (x == ("__debug__" : Str)) = false := by decide) (hcd : (x == ("__classdict__" : Str)) = false := by decide) (hs : ∀ y, foldedSetIterable (.Name x nx) X.env y = pure y := by intro _; rfl) : PD X (.ListComp elt [⟨tg, .Name x nx, [], 0⟩] scope pos) t (.list (ds.map f)) := fun N sg F H Q S q => by
  refine use_e (pe_lc (tt := tYes) (te := teB X scope elt) hc hN (pi_list (pe_var hx hv hd hcd)) ok hg (fun _ _ _ _ _ => pts_nil) (fun s H0 C cl fp => ⟨fun pins s' sg H Q I h => (by first | exact te_at (h s H0 C cl fp) pins s' I | exact tt_at (h s H0 C cl fp) pins s' I)⟩) hs) ?_
  refine lc_readO (t := t) (enc := enc) (c := fun _ => true) (E := fun d y => y = f d) (fun N sg F H R S k => ?_) ht hb hno (fun d hd N sg F H Q S q => q true F H S (Same.refl F) rfl) (fun d hd _ N sg F H Q S q s H0 C cl fp => (PM.mono (he d hd s H0 C cl fp) fun r hr => ⟨_, hr, rfl⟩) N sg F H Q S q) hz S fun v F' H' xs S' s' dv px => ?_
  · obtain ⟨v0, g1, rfl, g2, vs, g3, g4⟩ := S.sl i _ ht0
    exact ⟨_, g1, a, rfl, ⟨vs, SqL.of g3⟩, k (Itl X.K a) F H S (Same.refl F) (wk_own i ht0)⟩
  · rw [filter_true] at px
    have e := Pd.map px
    rw [e] at dv
    exact q v F' H' (.d (.list (ds.map f))) S' s' dv rfl
end
end Fw

-- part FwRev
set_option Elab.async false
set_option maxRecDepth 100000
set_option maxHeartbeats 4000000
set_option linter.all false
namespace HT
open PySem PySem.Spec PyProof.Rows
section
variable {prog : Program} {w : World} {A : Around} {E : Value → Shared → Prop} {s : Shared}
theorem adjust_rev (n : Nat) : Builtin.Slice.sliceAdjust none none (-1) (n : Int) = ((n : Int) - 1, -1) := by
  unfold Builtin.Slice.sliceAdjust
  simp
theorem places_rev (n : Nat) : Builtin.Slice.slicePlaces ((n : Int) - 1) (-1) (-1) = n := by
  unfold Builtin.Slice.slicePlaces
  simp
  omega
theorem sliceApplied_rev {sl : Addr} {vl vu vs : Value} {n : Nat} {Q : Int × Int × Nat → Shared → Prop} (hs : s.heap.IsSliceOf sl vl vu vs) (pl : IsPart vl none) (pu : IsPart vu none) (ps : IsPart vs (some (-1)))
    (h : Q ((n : Int) - 1, -1, n) s) : wpAny (model prog w) A (Builtin.Slice.sliceApplied (.ref sl) (pure (n : Int))) Q E s := by
  obtain ⟨os, hos, hcs, hds⟩ := id hs
  unfold Builtin.Slice.sliceApplied Builtin.Slice.sliceFields
  refine wpAny_bind (wpAny_bind (wpAny_field hos hds (x := vl) rfl (wpAny_bind (wpAny_field hos hds (x := vu) rfl (wpAny_bind (wpAny_field hos hds (x := vs) rfl (wpAny_pure ?_)))))))
  refine wpAny_bind (slicePart_ ps ?_)
  show wpAny _ _ (if ((-1 : Int) == 0) = true then _ else _) _ _ s
  rw [if_neg (by decide)]
  refine wpAny_bind (slicePart_ pl (wpAny_bind (slicePart_ pu (wpAny_bind (wpAny_pure ?_)))))
  show wpAny _ _ (match Builtin.Slice.sliceAdjust none none (-1) (n : Int) with | (lo, hi) => pure (lo, (-1 : Int), Builtin.Slice.slicePlaces lo hi (-1))) _ _ s
  rw [adjust_rev n]
  show wpAny _ _ (pure ((n : Int) - 1, (-1 : Int), Builtin.Slice.slicePlaces ((n : Int) - 1) (-1) (-1))) _ _ s
  rw [places_rev]
  exact wpAny_pure h
theorem fm_congr {α β : Type} {f g : α → Option β} : ∀ {l : List α}, (∀ a ∈ l, f a = g a) → l.filterMap f = l.filterMap g
  | [], _ => rfl
  | a :: l, h => by rw [List.filterMap_cons, List.filterMap_cons, h a List.mem_cons_self, fm_congr fun b hb => h b (List.mem_cons_of_mem _ hb)]
theorem pick_rev (xs : Array Value) : ((List.range xs.size).filterMap fun (m : Nat) => xs[(((xs.size : Int) - 1) + (m : Int) * -1).toNat]?).toArray = xs.toList.reverse.toArray := by
  congr 1
  have e : (List.range xs.size).filterMap (fun (m : Nat) => xs[(((xs.size : Int) - 1) + (m : Int) * -1).toNat]?) = (List.range xs.size).filterMap (fun m => xs.toList.reverse[m]?) := by
    apply fm_congr
    intro m hm
    have hm := List.mem_range.mp hm
    have e1 : (((xs.size : Int) - 1) + (m : Int) * -1).toNat = xs.size - 1 - m := by omega
    rw [e1, List.getElem?_reverse (by rw [Array.length_toList]; exact hm), Array.length_toList, Array.getElem?_toList]
  rw [e]
  have k := pick_gen xs.toList.reverse.toArray 0 xs.size
  have k2 := congrArg Array.toList k
  simp only [List.drop_zero] at k2
  have e3 : (fun (m : Nat) => xs.toList.reverse.toArray[(((0 : Nat) : Int) + (m : Int) * 1).toNat]?) = fun m => xs.toList.reverse[m]? := by
    funext m
    have : (((0 : Nat) : Int) + (m : Int) * 1).toNat = m := by omega
    rw [this]
    simp
  rw [e3] at k2
  rw [k2]
  exact List.take_of_length_le (by simp)
theorem getItem_tuple_rev {t sl : Addr} {items : Array Value} {vl vu vs : Value} {Q : Value → Shared → Prop} (ht : IsTup s.heap t items) (hs : s.heap.IsSliceOf sl vl vu vs) (pl : IsPart vl none) (pu : IsPart vu none) (ps : IsPart vs (some (-1))) (hsz : items.size ≤ sizeLine)
    (h : Q (.ref s.heap.objs.size) { s with heap := s.heap.push { cls := .type "tuple", data := .seq items.toList.reverse.toArray } }) : wpAny (model prog w) A (getItem (.ref t) (.ref sl)) Q E s := by
  have htake : sizeOk (.seq items.toList.reverse.toArray) := by show items.toList.reverse.toArray.size ≤ sizeLine; simpa using hsz
  obtain ⟨os, hos, hcs, hds⟩ := id hs
  have hTs : s.TypeIs (.ref sl) "slice" := ⟨os, hos, hcs⟩
  unfold getItem
  try with_reducible refine wpAny_holding ?_
  first | refine wpAny_bind (wpAny_pure ?_) | skip
  refine wpAny_bind (wpAny_sequenceKey ht.typeIs (by decide) ?_)
  refine wpAny_bind (wpAny_callSpecial?_slot (name := Str.ofString "__getitem__") ht.typeIs PyProof.Rows.slot_tuple_getitem
    (wpAny_call_entry PyProof.Rows.slot_tuple_getitem ht.typeIs entry_tuple_getitem ?_ (args_tuple_getitem _ _)))
  show wpAny _ _ (Builtin.Tuple.tupleItemsOf (.ref t) >>= _) _ _ s
  refine wpAny_bind (tupleItemsOf_ ht ?_)
  refine wpAny_bind (wpAny_typeOf hTs ?_)
  rw [if_pos (by decide)]
  refine wpAny_bind (sliceApplied_rev hs pl pu ps ?_)
  have hno : ¬ ((((items.size : Int) - 1) == 0 && (-1 : Int) == 1 && items.size == items.size) = true) := by
    intro q
    rw [Bool.and_eq_true, Bool.and_eq_true] at q
    exact absurd q.1.2 (by decide)
  show wpAny _ _ (if (((items.size : Int) - 1) == 0 && (-1 : Int) == 1 && items.size == items.size) = true then _ else _) _ _ s
  rw [if_neg hno, pick_rev]
  first
    | exact wpAny_bind (m := Builtin.Tuple.tupleExact _) (wpAny_newObj_type (wpAny_pure ⟨_, rfl, wpAny_pure h⟩) htake)
    | exact wpAny_bind (m := Builtin.Tuple.tupleExact _) (wpAny_newObj_type (wpAny_bind (wpAny_pure (wpAny_pure ⟨_, rfl, wpAny_pure h⟩))) htake)
    | exact wpAny_bind (wpAny_bind (m := Builtin.Tuple.tupleExact _) (wpAny_newObj_type (wpAny_pure (wpAny_pure ⟨_, rfl, wpAny_pure h⟩)) htake))
    | exact wpAny_bind (wpAny_bind (m := Builtin.Tuple.tupleExact _) (wpAny_newObj_type (wpAny_pure ⟨_, rfl, wpAny_pure h⟩) htake))
end
end HT
namespace Fw
open PySem PySem.Spec PyProof.Rows L2
section
variable {X : Cx} {e : Expr} {t : Ty} {pos : Pos} {ds : List PyData}
theorem pe_revTA {te : TE} {kk : Nat} {p1 q2 p3 : Pos} (he : PE X e te) : PE X (.Subscript e (.Slice none none (some (.UnaryOp .USub (.Constant (.int 1) kk p1) q2)) p3) pos) (fun σ H Q => te σ H fun x H1 => ∃ a xs, x = .ref a ∧ SqT X.K H1 a xs ∧ ∀ p, H1 p = none → Q (.ref p) (upd H1 p (.tup xs.reverse))) := by
  refine ⟨fun pins s σ H Q I h => ?_⟩
  refine Subscript_ (thn (he.run pins s σ H _ I h) fun v s1 ⟨x, H1, I1, r1, q1⟩ => ?_)
  obtain ⟨a, xs, ex, hx, q⟩ := q1
  subst ex
  cases r1
  have hst : PO X (some (.UnaryOp .USub (.Constant (.int 1) kk p1) q2)) (tPart (tUn (rU fun i => .int (-i)) (tC (.int 1)))) := po_some (pe_un un_neg pe_int)
  refine wpAny_Slice (thn (po_none.run pins s1 σ H1 (fun o H2 => o = none ∧ H2 = H1) I1 ⟨rfl, rfl⟩) fun vl s2 ⟨l, H2, I2, pl, el, e2⟩ => ?_)
  subst el e2
  refine thn (po_none.run pins s2 σ H2 (fun o H3 => o = none ∧ H3 = H2) I2 ⟨rfl, rfl⟩) fun vu s3 ⟨u, H3, I3, pu, eu, e3⟩ => ?_
  subst eu e3
  refine thn (hst.run pins s3 σ H3 (fun o H4 => o = some (-1) ∧ H4 = H3) I3 ⟨1, rfl, -1, rfl, rfl, rfl⟩) fun vs s4 ⟨o, H4, I4, ps, eo, e4⟩ => ?_
  subst eo e4
  have I5 : Inv X pins σ H4 { s4 with heap := s4.heap.push { cls := .type "slice", data := .fields #[vl, vu, vs] } } := I4.kept (t' := s4.toks) fun b ob q => Heap.get?_push_of_some _ q
  obtain ⟨its, r, ht, hz⟩ := I5.tuple hx
  have hlen := r.length
  refine tail_any (ops := [.ref a, .ref s4.heap.objs.size]) ht.typeIs (PyProof.Rows.slot_tuple_getitem.lookup) ?_ (by with_unfolding_all rfl)
  refine HT.getItem_tuple_rev ht (Heap.IsSliceOf.new _ vl vu vs) pl pu ps (by rw [List.size_toArray]; omega) ?_
  refine ⟨.ref _, _, I5.laid (t' := s4.toks) (o := .tup xs.reverse) (fun b ob q => Heap.get?_push_of_some _ q) (Nat.le_refl _) ?_, rfl, q _ (I5.hok.fresh (Nat.le_refl _))⟩
  exact ⟨by rw [List.length_reverse]; exact hz, _, r.reverse, IsTup.new _ _⟩
theorem pd_rev {kk : Nat} {p1 q2 p3 : Pos} (he : PD X e t (.tuple ds)) : PD X (.Subscript e (.Slice none none (some (.UnaryOp .USub (.Constant (.int 1) kk p1) q2)) p3) pos) t (.tuple ds.reverse) := fun N sg F H Q S q =>
  use_e (pe_revTA (pe_of X e)) (he N sg F H _ S fun v F1 H1 r1 S1 s1 dv hr1 => by
    subst hr1
    cases dv with
    | tup g h => exact ⟨_, _, rfl, SqT.of (S1.fh _ _ g), fun p hp => q _ _ _ (.d _) (S1.grow (Gr.new S1.fh hp)) (s1.trans (same_new (S1.fh.free hp))) (.tup upd_same ((DqA.rev h).up (same_new (S1.fh.free hp)))) rfl⟩)
end
end Fw

-- part T7
set_option Elab.async false
set_option maxRecDepth 100000
set_option maxHeartbeats 4000000
set_option linter.all false
namespace Fw
open PySem PySem.Spec PyProof.Rows L2
section
variable {X : Cx} {e : Expr} {es : List Expr} {t : Ty} {R : Po} {pos p p2 : Pos} {x : Str} {d : PyData} {ds : List PyData}
/-- x.extend(e), x a list of one's own -/
theorem sd_ext {ap cp : Pos} {nx : Pos} {a : Addr} {xs ys : List PyData} (i : Nat) (hN : X.N[i]? = some x) (hv : Vis X.env.scope x) (ht : t[i]? = some (.lst a xs)) (he : PD X e t (.list ys)) (hz : xs.length + ys.length ≤ sizeLine) (k : R.nx (t.set i (.lst a (xs ++ ys))))
    (hd : (x == ("__debug__" : Str)) = false := by decide) (hcd : (x == ("__classdict__" : Str)) = false := by decide) (hbase : attributeBase (.Name x nx) "extend" X.env (eval (.Name x nx) X.env) = eval (.Name x nx) X.env := by rfl)
    (hfew : ((backTo cp (starEach (e :: []) X.env)).all (fun x => !x.1) && (backToKw cp (keywordEach [] X.env)).all (fun x => x.1.isSome) && decide ((e :: []).length + ([] : List Keyword).length + (if ([] : List Keyword).isEmpty then 0 else 1) < 30)) = true := by rfl)
    (hline : (ap.endLine == cp.line) = true := by rfl) (hs : starEach (e :: []) X.env = (false, eval e X.env) :: starEach [] X.env := by rfl) (hplain : (backTo cp (starEach [] X.env)).any (·.1) = false := by rfl) (hsw : swapsWith (.Call (.Attribute (.Name x nx) "extend" ap) [e] [] cp) none pos.line X.env = pure false := by rfl) :
    SD X (.Expr (.Call (.Attribute (.Name x nx) "extend" ap) [e] [] cp) pos) t R := fun N sg F H D S q => by
  refine use_s (ps_expr (pe_bm PySem.F.plainAttrs_list PySem.F.slot_list_extend PySem.F.type_list_extend mt_extend (pe_var hN hv hd hcd) (pa_cons (pe_of X e) pa_nil hs) hbase hfew hline hs hplain) hsw) ?_
  obtain ⟨v0, g1, rfl, g2, vs, g3, g4⟩ := S.sl i _ ht
  refine ⟨_, g1, .inl ⟨rfl, _, SqL.of g3⟩, he N sg F H _ S fun v F1 H1 r1 S1 s1 d1 hr1 => ?_⟩
  subst hr1
  cases d1 with
  | @lst b zs _ gb ab =>
    obtain ⟨v1, j1, j2, j3, ws, j4, j5⟩ := S1.sl i _ ht
    refine ⟨a, b, ws, zs, rfl, rfl, j4, S1.fh _ _ gb, by rw [j5.len, ab.len]; exact hz, ?_⟩
    refine q.nx sg F1 _ _ (S1.mut (s' := .lst a (xs ++ ys)) ht rfl rfl (Same.refl F1) (fun b o e => ?_) (fun b _ h => h) (fun b o z e => by rw [upd_ne z]; exact e) (by rw [upd_same]; intro z; cases z) fun v hv => ⟨hv.1, hv.2.1, _, upd_same, j5.app ab⟩) k
    rw [upd_ne (fun z => by rw [z, j3] at e; cases e)]
    exact S1.fh b o e
end
end Fw
namespace K33
open PySem PySem.Spec PyProof.Rows L2 Fw
section
variable {P : Program} {w : World} {K : PySem.W.Frag} {mg : Str → Option Value} {base : Heap}
/-! ### check_doubt -/
abbrev s_check_doubt : Stmt := top 29
abbrev n_check_doubt : List Str := ["standing", "lot", "first", "need", "waits"]
theorem sc_check_doubt : FnScope n_check_doubt ["standing", "lot"] (defScope s_check_doubt) := ⟨rfl, rfl, rfl, by decide +kernel, rfl, by decide +kernel, by decide +kernel⟩
def ph_check_doubt (C : Addr) (rs : List Dt) (r : Dt) : Prop := ∃ c h ds l, rs = [stD C c h ds, .d (lotD l)] ∧ ds.length ≤ 200 ∧ LotOk l ds.length ∧ r = .d .none
theorem mapFalse {α : Type} (xs : List α) : PyData.list (xs.map fun _ => .bool false) = .list ((xs.map fun _ => false).map PyData.bool) := by rw [List.map_map]; rfl
theorem any_no {α : Type} (xs : List α) : (xs.map fun _ => false).any id = false := by
  induction xs with
  | nil => rfl
  | cons x xs ih => exact ih
theorem c_check_doubt {C : Addr} (F : HasFn K mg "check_doubt" s_check_doubt ["standing", "lot"]) (B : Bt mg) (T : StC K mg C) (C1 : Cal P w K mg base "is_lot" 3 ["thing", "many"] (spP 2 ph_is_lot)) : Cal P w K mg base "check_doubt" 4 ["standing", "lot"] (spP 2 (ph_check_doubt C)) := by
  refine cal_pure F sc_check_doubt rfl fun f cdv A outer s H E hr rs r hl ⟨c, h, ds, l, e1, hds, lo, e2⟩ => ?_
  subst e1 e2
  refine sd_cons (sd_if (PD.tst (pd_callB (x := "any") rfl B.any (by decide +kernel) (ac ((pd_lc0 (A := Deed) (ds := ds) (enc := encD) (own := [("first", 2), ("need", 3), ("waits", 4)]) (bs := fun d => [(2, encF d.1), (3, .int d.2), (4, .tuple [])]) (f := fun _ => .bool false) rfl sc_check_doubt.nd (it_tup (fldD T (vr 0 rfl))) (blkOk_by (N := n_check_doubt) (sc := defScope s_check_doubt) (by decide +kernel))
    (fun _ _ _ _ _ => pg_tup (n := 3) rfl (pgs_cons (pg_name (i := 2) sc_check_doubt.nd rfl (.inl rfl)) (pgs_cons (pg_name (i := 3) sc_check_doubt.nd rfl (.inl rfl)) (pgs_cons (pg_name (i := 4) sc_check_doubt.nd rfl (.inl rfl)) pgs_nil)))) (fun d _ => tg_tup (tgs_cons tg_name (tgs_cons tg_name (tgs_cons tg_name tgs_nil))) rfl) ow3 (no3 rfl rfl rfl) (fun d _ _ _ _ _ _ => cp (lenT B.len (vr 4 rfl)) pd_int (cd_gt _ _)) (Nat.lt_of_le_of_lt hds (by decide))).as (mapFalse ds)) pma_nil) (ll_any rfl _))) (fun q => by rw [any_no] at q; cases q) fun _ => sd_nil ?_)
  refine sd_one (sd_if (pdt_not (PD.tst (pd_cal C1 hr (ac (vr 1 rfl) (ac ((lenT B.len (fldD T (vr 0 rfl))).as (by rw [List.length_map])) pma_nil)) rfl ⟨l, (ds.length : Nat), rfl, lo, rfl⟩))) (fun q => by cases q) fun _ => sd_nil ?_)
  rfl
/-! ### doubt_sum -/
def fstAt (ds : List Deed) (i : Int) : Option Int := (ds[i.toNat]?).bind (·.1)
def needAt (ds : List Deed) (i : Int) : Int := ((ds[i.toNat]?).map (·.2)).getD 0
def heldL (ds : List Deed) (l : List Int) : List Int := l.filter fun i => (fstAt ds i).isSome
def idxL (n : Nat) : List Int := (List.range n).map fun i : Nat => (i : Int)
def othersL (ds : List Deed) (l : List Int) : List Int := (idxL ds.length).filter fun i => !decide (i ∈ l)
def sumN (ds : List Deed) (is : List Int) : Int := (is.map (needAt ds)).sum
def frontS (h : Int) (ds : List Deed) (l : List Int) (i : Int) : Int := match fstAt ds i with
  | none => needAt ds i
  | some f => h - f + sumN ds ((othersL ds l).filter fun j => decide (j ≤ i))
def behindS (ds : List Deed) (l : List Int) (i : Int) : Bool := match (heldL ds l).head? with
  | none => false
  | some k => decide (k < i)
def doubtS (h : Int) (ds : List Deed) (l : List Int) (i : Int) : Option Int :=
  if (heldL ds l).head? = some i then some (h - (fstAt ds i).getD 0 + sumN ds (othersL ds l)) else if i ∈ l ∨ behindS ds l i = true then none else some (frontS h ds l i)
theorem deed_at {ds : List Deed} {i : Int} (h0 : 0 ≤ i) (h1 : i < ds.length) : ∃ d, ds[i.toNat]? = some d ∧ fstAt ds i = d.1 ∧ needAt ds i = d.2 ∧ atI (ds.map encD) i = some (encD d) := by
  have hi : i.toNat < ds.length := by omega
  refine ⟨ds[i.toNat], List.getElem?_eq_getElem hi, ?_, ?_, at_nat h0 (by rw [List.getElem?_map, List.getElem?_eq_getElem hi]; rfl)⟩
  · unfold fstAt; rw [List.getElem?_eq_getElem hi]; rfl
  · unfold needAt; rw [List.getElem?_eq_getElem hi]; rfl
theorem others_in {ds : List Deed} {l : List Int} {i : Int} (h : i ∈ othersL ds l) : 0 ≤ i ∧ i < ds.length ∧ i ∉ l := by
  have h1 := List.mem_filter.mp h
  obtain ⟨j, hj, e⟩ := List.mem_map.mp h1.1
  have := List.mem_range.mp hj
  have h2 := h1.2
  simp at h2
  exact ⟨by omega, by omega, h2⟩
theorem isN_F (o : Option Int) : (!isNoneD (encF o)) = o.isSome := by cases o <;> rfl
theorem inc_len {n : Int} : ∀ (l : List Int) (lo : Int), l.Pairwise (· < ·) → (∀ x ∈ l, lo ≤ x ∧ x < n) → (l.length : Int) ≤ max 0 (n - lo)
  | [], lo, _, _ => by simp; omega
  | x :: l, lo, hp, hb => by
    have h1 := hb x List.mem_cons_self
    have hp' := List.pairwise_cons.mp hp
    have ih := inc_len l (x + 1) hp'.2 fun y hy => ⟨by have := hp'.1 y hy; omega, (hb y (List.mem_cons_of_mem _ hy)).2⟩
    rw [List.length_cons]
    omega
theorem lot_len {l : List Int} {n : Nat} (h : LotOk l n) : l.length ≤ n := by
  have := inc_len l 0 h.1 h.2
  omega
abbrev s_doubt_sum : Stmt := top 30
abbrev n_doubt_sum : List Str := ["standing", "lot", "deed", "first", "need", "waits", "held", "others", "one"]
theorem sc_doubt_sum : FnScope n_doubt_sum ["standing", "lot", "deed"] (defScope s_doubt_sum) := ⟨rfl, rfl, rfl, by decide +kernel, rfl, by decide +kernel, by decide +kernel⟩
def ph_doubt_sum (C : Addr) (rs : List Dt) (r : Dt) : Prop := ∃ c h ds l i, rs = [stD C c h ds, .d (lotD l), .d (.int i)] ∧ ds.length ≤ 200 ∧ LotOk l ds.length ∧ 0 ≤ i ∧ i < ds.length ∧ r = .d (encF (doubtS h ds l i))
end
end K33

-- part T8
set_option Elab.async false
set_option maxRecDepth 100000
set_option maxHeartbeats 4000000
set_option linter.all false
namespace K33
open PySem PySem.Spec PyProof.Rows L2 Fw
section
variable {P : Program} {w : World} {K : PySem.W.Frag} {mg : Str → Option Value} {base : Heap}
theorem idxL_rng (n : Nat) : rngD n = (idxL n).map PyData.int := by
  unfold rngD idxL
  rw [List.map_map]; rfl
theorem idxL_len (n : Nat) : (idxL n).length = n := by rw [idxL, List.length_map, List.length_range]
theorem idxL_in {n : Nat} {i : Int} (h : i ∈ idxL n) : 0 ≤ i ∧ i < n := by
  obtain ⟨j, hj, e⟩ := List.mem_map.mp h
  have := List.mem_range.mp hj
  omega
theorem pdr_int {l : List Int} {xs : List PyData} (h : PdR (fun (d : Int) x => x = PyData.int d) l xs) : xs = l.map PyData.int := Pd.map h
/-- the summing comprehension's answer -/
theorem sum_as (ds : List Deed) (is : List Int) : PyData.list (is.map fun i => .int (needAt ds i)) = .list ((is.map (needAt ds)).map PyData.int) := by rw [List.map_map]; rfl
theorem c_doubt_sum {C : Addr} (F : HasFn K mg "doubt_sum" s_doubt_sum ["standing", "lot", "deed"]) (B : Bt mg) (T : StC K mg C) : Cal P w K mg base "doubt_sum" 1 ["standing", "lot", "deed"] (spP 3 (ph_doubt_sum C)) := by
  refine cal_pure F sc_doubt_sum rfl fun f cdv A outer s H E hr rs r hl ⟨c, h, ds, l, i, e1, hds, lo, i0, i1, e2⟩ => ?_
  subst e1 e2
  have h64 : ∀ {xs : List Int}, xs.length ≤ 200 → xs.length < sizeLine := fun q => Nat.lt_of_le_of_lt q (by decide)
  have ol : (othersL ds l).length ≤ 200 := Nat.le_trans (List.length_filter_le _ _) (by rw [idxL_len]; exact hds)
  have ll : l.length ≤ 200 := Nat.le_trans (lot_len lo) hds
  obtain ⟨d, hd, ef, en, ea⟩ := deed_at i0 i1
  -- first, need, waits = standing.deeds[deed]
  refine sd_cons (sd_asgT (g := gTup K 3 _) (bs := [(3, encF d.1), (4, .int d.2), (5, .tuple [])]) (ix (fldD T (vr 0 rfl)) (vr 2 rfl) (id_tup (d := encD d) ea)) (pg_tup (n := 3) rfl (pgs_cons (pg_name (i := 3) sc_doubt_sum.nd rfl (.inl rfl)) (pgs_cons (pg_name (i := 4) sc_doubt_sum.nd rfl (.inl rfl)) (pgs_cons (pg_name (i := 5) sc_doubt_sum.nd rfl (.inl rfl)) pgs_nil)))) (tg_tup (tgs_cons tg_name (tgs_cons tg_name (tgs_cons tg_name tgs_nil))) rfl) ?_)
  -- held = [..]
  refine sd_cons (sd_lc1 (A := Int) (ds := l) (enc := PyData.int) (own := [("one", 8)]) (bs := fun d => [(8, .int d)]) (c := fun i => (fstAt ds i).isSome) (E := fun d x => x = .int d) 6 rfl sc_doubt_sum.nd rfl rfl rfl (it_tup (vr 1 rfl)) (blkOk_by (N := n_doubt_sum) (sc := defScope s_doubt_sum) (by decide +kernel))
    (fun _ _ _ _ _ => pg_name (i := 8) sc_doubt_sum.nd rfl (.inl rfl)) (fun _ _ => tg_name) ow1 (no1 rfl) (fun j hj _ _ _ _ _ => ?_) (fun j _ _ _ _ _ _ _ => (vr (r := .d (.int j)) 8 rfl).mono fun r hr => ⟨_, hr, rfl⟩) (h64 ll) fun xs hx => ?_)
  · obtain ⟨d', _, ef', _, ea'⟩ := deed_at (lo.2 j hj).1 (lo.2 j hj).2
    rw [ef', ← isN_F]
    exact ct (ix (ix (fldD T (vr 0 rfl)) (vr 8 rfl) (id_tup (d := encD d') ea')) pd_int (id_tup (d := encF d'.1) rfl)) pd_non cd_notN
  obtain rfl := pdr_int hx
  -- others = [..]
  refine sd_cons (sd_lc1 (A := Int) (ds := idxL ds.length) (enc := PyData.int) (own := [("one", 8)]) (bs := fun d => [(8, .int d)]) (c := fun i => !decide (i ∈ l)) (E := fun d x => x = .int d) 7 rfl sc_doubt_sum.nd rfl rfl rfl (by rw [← idxL_rng]; exact it_rng (n := (ds.length : Nat)) rfl B.range ((lenT B.len (fldD T (vr 0 rfl))).as (by rw [List.length_map])) (by omega) (by omega)) (blkOk_by (N := n_doubt_sum) (sc := defScope s_doubt_sum) (by decide +kernel))
    (fun _ _ _ _ _ => pg_name (i := 8) sc_doubt_sum.nd rfl (.inl rfl)) (fun _ _ => tg_name) ow1 (no1 rfl) (fun j hj _ _ _ _ _ => ct (vr 8 rfl) (vr 1 rfl) (cd_ninT j l)) (fun j _ _ _ _ _ _ _ => (vr (r := .d (.int j)) 8 rfl).mono fun r hr => ⟨_, hr, rfl⟩) (h64 (by rw [idxL_len]; exact hds)) fun xs hx => ?_)
  obtain rfl := pdr_int hx
  have hne : ∀ {k : Int}, (heldL ds l).head? = some k → 0 < (heldL ds l).length ∧ atI ((heldL ds l).map PyData.int) 0 = some (.int k) := fun {k} hk => by
    cases q : heldL ds l with
    | nil => rw [q] at hk; cases hk
    | cons a as =>
      rw [q] at hk
      cases hk
      exact ⟨Nat.succ_pos _, at_0 _ _⟩
  have nin : (heldL ds l).head? = none → (heldL ds l).length = 0 := fun hk => by
    cases q : heldL ds l with
    | nil => rfl
    | cons a as => rw [q] at hk; cases hk
  -- if len(held) > 0 and deed == held[0]
  refine sd_cons (sd_if (P := fun b => b = decide ((heldL ds l).head? = some i)) (PWD.tst ?_) (fun q => ?_) fun q => sd_nil ?_)
  · cases hk : (heldL ds l).head? with
    | some k =>
      refine pwd_and (P := fun b => b = true) (PMT.mono (ct (lenL B.len (vr 6 rfl)) pd_int (cd_gt _ _)) fun b hb => ?_) (fun z => by cases z) fun _ => pwd_and1 (PMT.mono (ct (vr 2 rfl) (ix (vr 6 rfl) pd_int (id_lst (hne hk).2)) (cd_eqI i k)) fun b hb => ?_)
      · rw [hb]; apply decide_eq_true; rw [List.length_map]; have := (hne hk).1; show (0 : Int) < ((heldL ds l).length : Nat); omega
      · rw [hb]; by_cases z : i = k
        · rw [decide_eq_true z, z]; simp
        · rw [decide_eq_false z]; symm; apply decide_eq_false; intro y; exact z (Option.some.inj y).symm
    | none =>
      refine pwd_and (P := fun b => b = false) (PMT.mono (ct (lenL B.len (vr 6 rfl)) pd_int (cd_gt _ _)) fun b hb => ?_) (fun _ => rfl) fun z => by cases z
      rw [hb]; apply decide_eq_false; rw [List.length_map]; have := nin hk; show ¬ (0 : Int) < ((heldL ds l).length : Nat); omega
  · have hk : (heldL ds l).head? = some i := of_decide_eq_true q.symm
    have hs : (fstAt ds i).isSome = true := (List.mem_filter.mp (List.mem_of_mem_head? hk)).2
    obtain ⟨fi, hf⟩ := Option.isSome_iff_exists.mp hs
    have hd1 : d.1 = some fi := ef ▸ hf
    refine sd_one (sd_ret (bn (x := .int (h - fi)) (y := .int (sumN ds (othersL ds l))) (bn (fldH T (vr 0 rfl)) (PD.as (d := encF d.1) (vr 3 rfl) (by rw [hd1]; rfl)) (bd_sub h fi)) (pd_callB (x := "sum") rfl B.sum (by decide +kernel) (ac ((pd_lc0 (A := Int) (ds := othersL ds l) (enc := PyData.int) (own := [("one", 8)]) (bs := fun d => [(8, .int d)]) (f := fun i => .int (needAt ds i)) rfl sc_doubt_sum.nd (it_lst (vr 7 rfl)) (blkOk_by (N := n_doubt_sum) (sc := defScope s_doubt_sum) (by decide +kernel))
      (fun _ _ _ _ _ => pg_name (i := 8) sc_doubt_sum.nd rfl (.inl rfl)) (fun _ _ => tg_name) ow1 (no1 rfl) (fun j hj _ _ _ _ _ => ?_) (h64 ol)).as (sum_as ds _)) pma_nil) (ll_sum rfl _)) (bd_add _ _)) ?_)
    · obtain ⟨d', _, _, en', ea'⟩ := deed_at (others_in hj).1 (others_in hj).2.1
      rw [en']
      exact ix (ix (fldD T (vr 0 rfl)) (vr 8 rfl) (id_tup (d := encD d') ea')) pd_int (id_tup (d := .int d'.2) rfl)
    rintro r rfl
    unfold doubtS
    rw [if_pos hk, hf]
    rfl
  have hn : ¬ (heldL ds l).head? = some i := of_decide_eq_false q.symm
  -- if deed in lot or (len(held) > 0 and deed > held[0])
  refine sd_cons (sd_if (P := fun b => b = (decide (i ∈ l) || behindS ds l i)) (PWD.tst (pdw_or (ct (vr 2 rfl) (vr 1 rfl) (cd_inT i l)) fun _ => pwd_or1 (PWD.tst ?_))) (fun q => ?_) fun q => sd_nil ?_)
  · unfold behindS
    cases hk : (heldL ds l).head? with
    | some k =>
      refine pwd_and (P := fun b => b = true) (PMT.mono (ct (lenL B.len (vr 6 rfl)) pd_int (cd_gt _ _)) fun b hb => ?_) (fun z => by cases z) fun _ => pwd_and1 (ct (vr 2 rfl) (ix (vr 6 rfl) pd_int (id_lst (hne hk).2)) (cd_gt i k))
      rw [hb]; apply decide_eq_true; rw [List.length_map]; have := (hne hk).1; show (0 : Int) < ((heldL ds l).length : Nat); omega
    | none =>
      refine pwd_and (P := fun b => b = false) (PMT.mono (ct (lenL B.len (vr 6 rfl)) pd_int (cd_gt _ _)) fun b hb => ?_) (fun _ => rfl) fun z => by cases z
      rw [hb]; apply decide_eq_false; rw [List.length_map]; have := nin hk; show ¬ (0 : Int) < ((heldL ds l).length : Nat); omega
  · refine sd_one (sd_ret pd_non ?_)
    rintro r rfl
    unfold doubtS
    rw [if_neg hn, if_pos (by simpa using q.symm)]
    rfl
  have fin : doubtS h ds l i = some (frontS h ds l i) := by
    unfold doubtS
    rw [if_neg hn, if_neg (by have q := q.symm; simpa using q)]
  rw [fin]
  -- if first is None: return need
  refine sd_cons (sd_if (ct (vr 3 rfl) pd_non cd_isN) (fun q => ?_) fun q => sd_nil ?_)
  · have hf : d.1 = none := by
      cases z : d.1 with
      | none => rfl
      | some x => rw [z] at q; cases q
    refine sd_one (sd_ret (vr 4 rfl) ?_)
    rintro r rfl
    unfold frontS
    rw [ef, hf, en]
    rfl
  obtain ⟨fi, hf⟩ : ∃ fi, d.1 = some fi := by
    cases z : d.1 with
    | none => rw [z] at q; cases q
    | some x => exact ⟨x, rfl⟩
  refine sd_one (sd_ret (bn (x := .int (h - fi)) (y := .int (sumN ds ((othersL ds l).filter fun j => decide (j ≤ i)))) (bn (fldH T (vr 0 rfl)) (PD.as (d := encF d.1) (vr 3 rfl) (by rw [hf]; rfl)) (bd_sub h fi)) (pd_callB (x := "sum") rfl B.sum (by decide +kernel) (ac ((pd_lc1 (A := Int) (ds := othersL ds l) (enc := PyData.int) (own := [("one", 8)]) (bs := fun d => [(8, .int d)]) (c := fun j => decide (j ≤ i)) (f := fun i => .int (needAt ds i)) rfl sc_doubt_sum.nd (it_lst (vr 7 rfl)) (blkOk_by (N := n_doubt_sum) (sc := defScope s_doubt_sum) (by decide +kernel))
    (fun _ _ _ _ _ => pg_name (i := 8) sc_doubt_sum.nd rfl (.inl rfl)) (fun _ _ => tg_name) ow1 (no1 rfl) (fun j hj _ _ _ _ _ => ct (vr 8 rfl) (vr 2 rfl) (cd_le j i)) (fun j hj _ _ _ _ _ _ => ?_) (h64 ol)).as (sum_as ds _)) pma_nil) (ll_sum rfl _)) (bd_add _ _)) ?_)
  · obtain ⟨d', _, _, en', ea'⟩ := deed_at (others_in hj).1 (others_in hj).2.1
    rw [en']
    exact ix (ix (fldD T (vr 0 rfl)) (vr 8 rfl) (id_tup (d := encD d') ea')) pd_int (id_tup (d := .int d'.2) rfl)
  rintro r rfl
  unfold frontS
  rw [ef, hf]
  rfl
end
end K33

-- part T9
set_option Elab.async false
set_option maxRecDepth 100000
set_option maxHeartbeats 4000000
set_option linter.all false
namespace K33
open PySem PySem.Spec PyProof.Rows L2 Fw
section
variable {P : Program} {w : World} {K : PySem.W.Frag} {mg : Str → Option Value} {base : Heap}
/-! ### doubtful -/
def wrD (j n : Int) : PyData := .tuple [.str "write", .int j, .int n]
def goD (j : Int) : PyData := .tuple [.str "go", .int j]
def exD (j n : Int) : PyData := .tuple [.str "excess", .int j, .int n]
def coD (ss : List PyData) : PyData := .tuple [.str "course", .tuple ss]
def stepsAt (l : List Int) (d : Deed) (j : Int) : List PyData := if j ∈ l then [] else (if 0 < d.2 then [wrD j d.2] else []) ++ [goD j]
def dfl (c h : Int) (ds : List Deed) (l : List Int) : List (Deed × Nat) → List PyData → PyData
  | [], acc => coD acc
  | (d, j) :: r, acc => match doubtS h ds l j with
    | some f => if c < f then exD j f else dfl c h ds l r (acc ++ stepsAt l d j)
    | none => dfl c h ds l r (acc ++ stepsAt l d j)
def doubtfulD (c h : Int) (ds : List Deed) (l : List Int) : PyData := dfl c h ds l ds.zipIdx []
abbrev s_doubtful : Stmt := top 31
abbrev n_doubtful : List Str := ["standing", "lot", "steps", "deed", "first", "need", "waits", "found"]
theorem sc_doubtful : FnScope n_doubtful ["standing", "lot"] (defScope s_doubtful) := ⟨rfl, rfl, rfl, by decide +kernel, rfl, by decide +kernel, by decide +kernel⟩
def ph_doubtful (C : Addr) (rs : List Dt) (r : Dt) : Prop := ∃ c h ds l, rs = [stD C c h ds, .d (lotD l)] ∧ ds.length ≤ 200 ∧ (∀ d ∈ ds, 0 ≤ d.2) ∧ LotOk l ds.length ∧ r = .d (doubtfulD c h ds l)
theorem stepsAt_len (l : List Int) (d : Deed) (j : Int) : (stepsAt l d j).length ≤ 2 := by
  unfold stepsAt
  by_cases h : j ∈ l
  · rw [if_pos h]; simp
  · rw [if_neg h]
    by_cases h2 : 0 < d.2
    · rw [if_pos h2]; simp
    · rw [if_neg h2]; simp
theorem rep_min {n : Int} (h : 0 ≤ n) (x : PyData) : (List.replicate (if 1 < n then (1 : Int) else n).toNat [x]).flatten = if 0 < n then [x] else [] := by
  by_cases q : 0 < n
  · have e : (if 1 < n then (1 : Int) else n).toNat = 1 := by split <;> omega
    rw [e, if_pos q]; rfl
  · have e : (if 1 < n then (1 : Int) else n).toNat = 0 := by split <;> omega
    rw [e, if_neg q]; rfl
theorem c_doubtful {C : Addr} (F : HasFn K mg "doubtful" s_doubtful ["standing", "lot"]) (B : Bt mg) (T : StC K mg C) (C1 : Cal P w K mg base "check_doubt" 4 ["standing", "lot"] (spP 2 (ph_check_doubt C))) (C2 : Cal P w K mg base "doubt_sum" 1 ["standing", "lot", "deed"] (spP 3 (ph_doubt_sum C))) : Cal P w K mg base "doubtful" 5 ["standing", "lot"] (spP 2 (ph_doubtful C)) := by
  refine cal_pure F sc_doubtful rfl fun f cdv A outer s H E hr rs r hl ⟨c, h, ds, l, e1, hds, hn, lo, e2⟩ => ?_
  subst e1 e2
  refine sd_cons (sd_drop (pm_cal C1 hr (ac (vr 0 rfl) (ac (vr 1 rfl) pma_nil)) (fun rs e => by subst e; exact ⟨rfl, _, ⟨c, h, ds, l, rfl, hds, lo, rfl⟩, trivial⟩) (R := fun _ => True)) ?_)
  refine sd_cons (sd_newL 2 sc_doubtful.nd rfl (.inl rfl) ?_)
  intro D oD
  refine sd_cons (sd_for (A := Deed × Nat) (ds := ds.zipIdx) (enc := fun p => .tuple [.int (p.2 : Nat), encD p.1]) (bs := fun p => [(3, .int (p.2 : Nat)), (4, encF p.1.1), (5, .int p.1.2), (6, .tuple [])])
    (fun i t => ∃ acc u3 u4 u5 u6 u7, t = [.v (stD C c h ds), .v (.d (lotD l)), .lst D acc, u3, u4, u5, u6, u7] ∧ acc.length ≤ 2 * i ∧ dfl c h ds l (ds.zipIdx.drop i) acc = doubtfulD c h ds l)
    PassesOwn.never rfl (it_enumT rfl B.enumerate (fldD T (vr 0 rfl)))
    (pg_tup (n := 2) rfl (pgs_cons (pg_name (i := 3) sc_doubtful.nd rfl (.inl rfl)) (pgs_cons (pg_tup (n := 3) rfl (pgs_cons (pg_name (i := 4) sc_doubtful.nd rfl (.inl rfl)) (pgs_cons (pg_name (i := 5) sc_doubtful.nd rfl (.inl rfl)) (pgs_cons (pg_name (i := 6) sc_doubtful.nd rfl (.inl rfl)) pgs_nil)))) pgs_nil)))
    (fun p _ => tg_tup (tgs_cons tg_name (tgs_cons (tg_tup (tgs_cons tg_name (tgs_cons tg_name (tgs_cons tg_name tgs_nil))) rfl) tgs_nil)) rfl)
    ⟨[], .no, .no, .no, .no, .no, rfl, Nat.le_refl _, rfl⟩ ?_ ?_)
  · rintro i ⟨d, j⟩ u hi ⟨acc, u3, u4, u5, u6, u7, rfl, hacc, heq⟩
    obtain ⟨ej, hi'⟩ := zip_at hi
    have ej : j = i := ej
    subst ej
    have hj : j < ds.length := (List.getElem?_eq_some_iff.mp hi').1
    have hj200 : j < 200 := Nat.lt_of_lt_of_le hj hds
    have hd0 : 0 ≤ d.2 := hn d (List.mem_of_getElem? hi')
    rw [drop_cons hi] at heq
    have heq : (match doubtS h ds l j with
      | some f => if c < f then exD j f else dfl c h ds l (ds.zipIdx.drop (j + 1)) (acc ++ stepsAt l d j)
      | none => dfl c h ds l (ds.zipIdx.drop (j + 1)) (acc ++ stepsAt l d j)) = doubtfulD c h ds l := heq
    refine sd_cons (sd_asg 7 sc_doubtful.nd rfl (.inl rfl) (pd_cal C2 (hr.mono (by decide)) (ac (vr 0 rfl) (ac (vr 1 rfl) (ac (vr 3 rfl) pma_nil))) rfl ⟨c, h, ds, l, (j : Nat), rfl, hds, lo, Int.natCast_nonneg _, Int.ofNat_lt.mpr hj, rfl⟩) ?_)
    rintro r rfl
    -- the course goes on
    have go : dfl c h ds l (ds.zipIdx.drop (j + 1)) (acc ++ stepsAt l d j) = doubtfulD c h ds l → ∀ {st : Stmt}, True := fun _ _ => trivial
    refine sd_cons (sd_if (P := fun b => b = (match doubtS h ds l j with | some f => decide (c < f) | none => false)) (PWD.tst ?_) (fun q => ?_) fun q => sd_nil ?_)
    · cases z : doubtS h ds l j with
      | none => exact pwd_and (P := fun b => b = false) (ct (vr 7 rfl) pd_non cd_notN) (fun _ => rfl) fun q => by cases q
      | some g => exact pwd_and (P := fun b => b = true) (ct (vr 7 rfl) pd_non cd_notN) (fun q => by cases q) fun _ => pwd_and1 (ct (vr 7 rfl) (fldC T (vr 0 rfl)) (cd_gt g c))
    · cases z : doubtS h ds l j with
      | none => rw [z] at q; cases q
      | some g =>
        rw [z] at heq q
        have q : c < g := of_decide_eq_true q.symm
        refine sd_one (sd_ret (pd_tup (ds := [.str "excess", .int (j : Nat), .int g]) (ac pd_str (ac (vr 3 rfl) (ac (vr 7 rfl) pma_nil))) (by show 3 ≤ sizeLine; decide)) ?_)
        rintro r rfl
        have heq : (if c < g then exD j g else _) = doubtfulD c h ds l := heq
        rw [if_pos q] at heq
        rw [← heq]
        rfl
    have heq : dfl c h ds l (ds.zipIdx.drop (j + 1)) (acc ++ stepsAt l d j) = doubtfulD c h ds l := by
      cases z : doubtS h ds l j with
      | none => rw [z] at heq; exact heq
      | some g =>
        rw [z] at heq q
        have q : ¬ c < g := of_decide_eq_false q.symm
        have heq : (if c < g then exD j g else dfl c h ds l (ds.zipIdx.drop (j + 1)) (acc ++ stepsAt l d j)) = doubtfulD c h ds l := heq
        rwa [if_neg q] at heq
    refine sd_one (sd_if (ct (vr 3 rfl) (vr 1 rfl) (cd_ninT (j : Nat) l)) (fun q => ?_) fun q => sd_nil ?_)
    · have q : (j : Int) ∉ l := by have q := q.symm; simpa using q
      refine sd_one (sd_ext 2 rfl (.inl rfl) rfl (ys := stepsAt l d j) (PD.as (bn (x := .list (if 0 < d.2 then [wrD j d.2] else [])) (y := .list [goD j]) (z := .list ((if 0 < d.2 then [wrD j d.2] else []) ++ [goD j])) (PD.as (bn (x := .list [wrD j d.2]) (y := .int (if 1 < d.2 then 1 else d.2)) (z := .list (List.replicate (if 1 < d.2 then (1 : Int) else d.2).toNat [wrD j d.2]).flatten) (pd_lst (ds := [wrD j d.2]) (ac (pd_tup (ds := [.str "write", .int (j : Nat), .int d.2]) (ac pd_str (ac (vr 3 rfl) (ac (vr 5 rfl) pma_nil))) (by show 3 ≤ sizeLine; decide)) pma_nil) (by show 1 ≤ sizeLine; decide)) (pd_callB (x := "min") rfl B.min (by decide +kernel) (ac (vr 5 rfl) (ac pd_int pma_nil)) (ll_min2 rfl d.2 1)) (bd_repL _ _ (by split <;> omega) (by split <;> omega) ?_)) (by rw [rep_min hd0])) (pd_lst (ds := [goD j]) (ac (pd_tup (ds := [.str "go", .int (j : Nat)]) (ac pd_str (ac (vr 3 rfl) pma_nil)) (by show 2 ≤ sizeLine; decide)) pma_nil) (by show 1 ≤ sizeLine; decide)) (bd_catL _ _ ?_)) (by unfold stepsAt; rw [if_neg q])) ?_ ?_)
      · refine Nat.le_trans (Nat.mul_le_mul_left _ (?_ : _ ≤ 1)) (by show 1 * 1 ≤ sizeLine; decide)
        split <;> omega
      · split
        · show 2 ≤ sizeLine; decide
        · show 1 ≤ sizeLine; decide
      · refine Nat.le_trans (Nat.add_le_add hacc (?_ : _ ≤ 2)) (Nat.le_trans (show 2 * j + 2 ≤ 402 by omega) (by decide))
        exact stepsAt_len l d j
      · refine ⟨acc ++ stepsAt l d j, _, _, _, _, _, rfl, ?_, heq⟩
        rw [List.length_append]
        have := stepsAt_len l d j
        omega
    · have q : (j : Int) ∈ l := by have q := q.symm; simpa using q
      refine ⟨acc, _, _, _, _, _, rfl, by omega, ?_⟩
      have e : stepsAt l d j = [] := if_pos q
      rw [e, List.append_nil] at heq
      exact heq
  · rintro u ⟨acc, u3, u4, u5, u6, u7, rfl, hacc, heq⟩
    refine sd_one (sd_ret (pd_tup (ds := [.str "course", .tuple acc]) (ac pd_str (ac (tupO 2 rfl B.tuple) pma_nil)) (by show 2 ≤ sizeLine; decide)) ?_)
    rintro r rfl
    rw [List.drop_length] at heq
    rw [← heq]
    rfl
end
end K33

-- part T10
set_option Elab.async false
set_option maxRecDepth 100000
set_option maxHeartbeats 4000000
set_option linter.all false
namespace K33
open PySem PySem.Spec PyProof.Rows L2 Fw
/-! ### dicts from numbers to numbers -/
def getI (l : List (Int × Int)) (k : Int) : Option Int := (l.find? fun p => decide (p.1 = k)).map (·.2)
def putI (l : List (Int × Int)) (k v : Int) : List (Int × Int) := if l.any (fun p => decide (p.1 = k)) then l.map (fun p => if p.1 = k then (p.1, v) else p) else l ++ [(k, v)]
def dropI (l : List (Int × Int)) (k : Int) : List (Int × Int) := l.filter fun p => decide (p.1 ≠ k)
theorem inl_eq {a b : Int} : (Sum.inl a : Key) = Sum.inl b ↔ a = b := ⟨fun h => Sum.inl.inj h, fun h => by rw [h]⟩
theorem valP_kd (l : List (Int × Int)) (k : Int) : valP (kdI l) (.inl k) = (getI l k).map PyData.int := by
  induction l with
  | nil => rfl
  | cons p r ih =>
    by_cases q : p.1 = k
    · simp [valP, kdI, getI, List.find?_cons, q, inl_eq]
    · have e1 : valP (kdI (p :: r)) (.inl k) = valP (kdI r) (.inl k) := by simp [valP, kdI, List.find?_cons, q, inl_eq]
      have e2 : getI (p :: r) k = getI r k := by simp [getI, List.find?_cons, q]
      rw [e1, e2, ih]
theorem any_kd (l : List (Int × Int)) (k : Int) : (kdI l).any (fun kv => decide (kv.1 = (Sum.inl k : Key))) = l.any fun p => decide (p.1 = k) := by
  unfold kdI
  rw [List.any_map]
  congr 1
  funext p
  show decide ((Sum.inl p.1 : Key) = Sum.inl k) = decide (p.1 = k)
  by_cases q : p.1 = k <;> simp [q, inl_eq]
theorem put_kd (l : List (Int × Int)) (k v : Int) : putP (kdI l) (.inl k) (.int v) = kdI (putI l k v) := by
  unfold putP putI
  rw [any_kd]
  split
  · unfold kdI
    rw [List.map_map, List.map_map]
    apply List.map_congr_left
    intro p _
    show (if (Sum.inl p.1 : Key) = Sum.inl k then ((Sum.inl p.1 : Key), PyData.int v) else (Sum.inl p.1, .int p.2)) = _
    by_cases q : p.1 = k
    · rw [if_pos (by rw [q])]; show _ = ((Sum.inl (if p.1 = k then (p.1, v) else p).1 : Key), PyData.int (if p.1 = k then (p.1, v) else p).2); rw [if_pos q]
    · rw [if_neg (fun z => q (inl_eq.mp z))]; show _ = ((Sum.inl (if p.1 = k then (p.1, v) else p).1 : Key), PyData.int (if p.1 = k then (p.1, v) else p).2); rw [if_neg q]
  · unfold kdI; rw [List.map_append]; rfl
theorem drop_kd (l : List (Int × Int)) (k : Int) : dropP (kdI l) (.inl k) = kdI (dropI l k) := by
  unfold dropP dropI kdI
  rw [List.filter_map]
  congr 1
  apply List.filter_congr
  intro p _
  show decide ((Sum.inl p.1 : Key) ≠ Sum.inl k) = decide (p.1 ≠ k)
  by_cases q : p.1 = k <;> simp [q, inl_eq]
theorem kd_len (l : List (Int × Int)) : (kdI l).length = l.length := List.length_map _
theorem kd_snd (l : List (Int × Int)) : (kdI l).map (·.2) = (l.map (·.2)).map PyData.int := by unfold kdI; rw [List.map_map, List.map_map]; rfl
/-! ### the leader's doings, in plain words -/
def fitsB (L : Led) : Bool := decide ((L.firsts.length : Int) = 0) || decide (L.h - minL (L.firsts.map (·.2)) ≤ L.c)
def goL (L : Led) (k : Int) : Led := ⟨L.c, L.h, dropI L.rest k, dropI L.firsts k⟩
def wrL (L : Led) (k v n : Int) : Led := ⟨L.c, L.h + n, putI L.rest k (v - n), if (getI L.firsts k).isSome then L.firsts else putI L.firsts k L.h⟩
def sGo : Str := "go"
def sWrite : Str := "write"
def pairB (L : Led) : PyData → PyData → Bool × Led
  | .str s, .int k => if s == sGo then match getI L.rest k with
    | some v => (decide (v = 0), goL L k)
    | none => (false, L) else (false, L)
  | _, _ => (false, L)
def tripB (L : Led) : PyData → PyData → PyData → Bool × Led
  | .str s, .int k, .int n => if s == sWrite then match getI L.rest k with
    | some v => if 1 ≤ n ∧ n ≤ v then (fitsB (wrL L k v n), wrL L k v n) else (false, L)
    | none => (false, L) else (false, L)
  | _, _, _ => (false, L)
def stepB (L : Led) : PyData → Bool × Led
  | .tuple [a, y] => pairB L a y
  | .tuple [a, y, z] => tripB L a y z
  | _ => (false, L)
def StepOk (x : PyData) : Prop := ∀ a r, x = .tuple (a :: r) → ∃ s, a = .str s
structure DbC (K : PySem.W.Frag) (C : Addr) : Prop where
  cl : Cls K C
  nC : NoAttr K C "cells"
  nH : NoAttr K C "head"
  nR : NoAttr K C "rest"
  nF : NoAttr K C "firsts"
theorem lf_c {L : Led} {r g : Addr} : (ledF L r g).lookup ("cells" : Str) = some (.int L.c) := rfl
theorem lf_h {L : Led} {r g : Addr} : (ledF L r g).lookup ("head" : Str) = some (.int L.h) := rfl
theorem lf_r {L : Led} {r g : Addr} : (ledF L r g).lookup ("rest" : Str) = some (.ref r) := rfl
theorem lf_f {L : Led} {r g : Addr} : (ledF L r g).lookup ("firsts" : Str) = some (.ref g) := rfl
section
variable {P : Program} {w : World} {K : PySem.W.Frag} {mg : Str → Option Value} {base : Heap}
abbrev s_fits : Stmt := inClass (top 32) 2
theorem sc_fits : FnScope ["self", "?r", "?g"] ["self"] (defScope s_fits) := ⟨rfl, rfl, rfl, by decide +kernel, rfl, by decide +kernel, by decide +kernel⟩
def ph_fits (L : Led) (rs : List Dt) (b : Bool) (L' : Led) : Prop := rs = [] ∧ b = fitsB L ∧ L' = L
theorem m_fits {C : Addr} (HM : HasMth K "fits" "Doubt.fits" C s_fits ["self"]) (B : Bt mg) (T : DbC K C) : Mth P w K mg base "fits" C 1 ["self"] (spL C 0 ph_fits) := by
  refine mth_led 1 2 (by decide) (by decide) (by decide) HM sc_fits rfl fun f cdv A outer s H E hr rs a dx r g L b L' hl ⟨e1, e2, e3⟩ => ?_
  subst e1 e2 e3
  refine sd_one (sd_ret (pd_or (cp (PD.as (lenR false 2 (rf_fld 0 rfl T.cl T.nF lf_f) rfl B.len) (by rw [kd_len])) pd_int (cd_eqI _ _)) fun h => pd_one (cp (bn (fo_int 0 rfl T.cl T.nH lf_h) (minR (ns := L'.firsts.map (·.2)) false 2 rfl (rf_fld 0 rfl T.cl T.nF lf_f) rfl B.min (kd_snd _) ?_) (bd_sub _ _)) (fo_int 0 rfl T.cl T.nC lf_c) (cd_le _ _))) ?_)
  · intro z
    have h := of_decide_eq_false h
    have z := congrArg List.length z
    rw [List.length_map] at z
    exact h (by rw [z]; rfl)
  · rintro r rfl
    exact ⟨rfl, rfl, rfl, rfl⟩
abbrev s_go : Stmt := inClass (top 32) 3
theorem sc_go : FnScope ["self", "deed", "?r", "?g"] ["self", "deed"] (defScope s_go) := ⟨rfl, rfl, rfl, by decide +kernel, rfl, by decide +kernel, by decide +kernel⟩
def ph_go (L : Led) (rs : List Dt) (b : Bool) (L' : Led) : Prop := ∃ k v, rs = [.d (.int k)] ∧ getI L.rest k = some v ∧ b = decide (v = 0) ∧ L' = goL L k
theorem m_go {C : Addr} (HM : HasMth K "go" "Doubt.go" C s_go ["self", "deed"]) (B : Bt mg) (T : DbC K C) : Mth P w K mg base "go" C 1 ["self", "deed"] (spL C 1 ph_go) := by
  refine mth_led 2 3 (by decide) (by decide) (by decide) HM sc_go rfl fun f cdv A outer s H E hr rs a dx r g L b L' hl ⟨k, v, e1, hv, e2, e3⟩ => ?_
  subst e1 e2 e3
  refine sd_cons (sd_pop2 (ks := kdI L.firsts) (d := .none) false 3 (rf_fld 0 rfl T.cl T.nF lf_f) rfl (vr 1 rfl) pd_non ?_)
  refine sd_one (sd_retS (pms_cmp (popR (ks := kdI L.rest) (d := .int v) false 2 (rf_fld (vs := ledF L r g) 0 rfl T.cl T.nR lf_r) rfl (vr 1 rfl) (by rw [valP_kd, hv]; rfl)) pd_int (cd_eqI v 0)) ?_)
  rintro r t' ⟨rfl, rfl⟩
  refine ⟨rfl, rfl, ?_, ?_⟩
  · show some (Sl.gd _ (dropP (kdI L.rest) (.inl k))) = some (Sl.gd _ (kdI (dropI L.rest k)))
    rw [drop_kd]
  · show some (Sl.gd _ (dropP (kdI L.firsts) (.inl k))) = some (Sl.gd _ (kdI (dropI L.firsts k)))
    rw [drop_kd]
end
end K33

-- part T11
set_option Elab.async false
set_option maxRecDepth 100000
set_option maxHeartbeats 4000000
set_option linter.all false
namespace Fw
open PySem PySem.Spec PyProof.Rows L2
theorem cd_eqS {X : Cx} (i j : Str) : CmpD X .Eq (.str i) (.str j) (i == j) := fun F H v u Q e h1 h2 k => by
  cases h1; cases h2
  refine use_o op_eq ⟨rfl, ?_⟩
  rw [show (decide (V.str i = V.str j)) = (i == j) from by by_cases q : i = j <;> simp [q]]
  exact k F H (Gr.refl e)
theorem pm_by {X : Cx} {e : Expr} {t : Ty} {R : Dt → Prop} {d : PyData} (h : PD X e t d) (k : R (.d d)) : PM X e t R := h.mono fun r hr => by rw [hr]; exact k
end Fw
namespace K33
open PySem PySem.Spec PyProof.Rows L2 Fw
def pc1 (L : Led) : PyData → PyData → Bool
  | .str u, .int k => (u == sGo) && (getI L.rest k).isSome
  | _, _ => false
def pc2 (L : Led) : PyData → PyData → Bool
  | .str u, .int k => (u == sWrite) && (getI L.rest k).isSome
  | _, _ => false
def c1 (L : Led) : PyData → Bool
  | .tuple [a, y] => pc1 L a y
  | _ => false
def c2 (L : Led) : PyData → Bool
  | .tuple [a, y, z] => !pc2 L a y
  | _ => true
theorem step_cls {x : PyData} (h : StepOk x) : (∃ s y, x = .tuple [.str s, y]) ∨ (∃ s y z, x = .tuple [.str s, y, z]) ∨ (tupLen x 2 = false ∧ tupLen x 3 = false ∧ (∀ L, stepB L x = (false, L)) ∧ ∀ L, c1 L x = false ∧ c2 L x = true) := by
  match x, h with
  | .tuple [a, y], h =>
    obtain ⟨s, e⟩ := h a [y] rfl
    exact .inl ⟨s, y, by rw [e]⟩
  | .tuple [a, y, z], h =>
    obtain ⟨s, e⟩ := h a [y, z] rfl
    exact .inr (.inl ⟨s, y, z, by rw [e]⟩)
  | .tuple [], _ => exact .inr (.inr ⟨rfl, rfl, fun _ => rfl, fun _ => ⟨rfl, rfl⟩⟩)
  | .tuple [a], _ => exact .inr (.inr ⟨rfl, rfl, fun _ => rfl, fun _ => ⟨rfl, rfl⟩⟩)
  | .tuple (a :: b :: c :: d :: r), _ => exact .inr (.inr ⟨by show decide ((a :: b :: c :: d :: r).length = 2) = false; simp, by show decide ((a :: b :: c :: d :: r).length = 3) = false; simp, fun _ => rfl, fun _ => ⟨rfl, rfl⟩⟩)
  | .none, _ => exact .inr (.inr ⟨rfl, rfl, fun _ => rfl, fun _ => ⟨rfl, rfl⟩⟩)
  | .bool _, _ => exact .inr (.inr ⟨rfl, rfl, fun _ => rfl, fun _ => ⟨rfl, rfl⟩⟩)
  | .int _, _ => exact .inr (.inr ⟨rfl, rfl, fun _ => rfl, fun _ => ⟨rfl, rfl⟩⟩)
  | .str _, _ => exact .inr (.inr ⟨rfl, rfl, fun _ => rfl, fun _ => ⟨rfl, rfl⟩⟩)
  | .list _, _ => exact .inr (.inr ⟨rfl, rfl, fun _ => rfl, fun _ => ⟨rfl, rfl⟩⟩)
  | .dict _, _ => exact .inr (.inr ⟨rfl, rfl, fun _ => rfl, fun _ => ⟨rfl, rfl⟩⟩)
theorem int_cls (y : PyData) : (∃ k, y = .int k) ∨ (fInteger y = false ∧ ∀ k, y ≠ .int k) := by
  cases y with
  | int k => exact .inl ⟨k, rfl⟩
  | _ => exact .inr ⟨rfl, fun _ h => nomatch h⟩
theorem pc1_no {L : Led} {u : Str} {y : PyData} (h : ∀ k, y ≠ .int k) : pc1 L (.str u) y = false := by
  cases y with
  | int k => exact absurd rfl (h k)
  | _ => rfl
theorem pc2_no {L : Led} {u : Str} {y : PyData} (h : ∀ k, y ≠ .int k) : pc2 L (.str u) y = false := by
  cases y with
  | int k => exact absurd rfl (h k)
  | _ => rfl
theorem c1_true {L : Led} {x : PyData} (h : c1 L x = true) : ∃ u k v, x = .tuple [.str u, .int k] ∧ getI L.rest k = some v ∧ stepB L x = (decide (v = 0), goL L k) := by
  match x, h with
  | .tuple [a, y], h =>
    match a, y, h with
    | .str u, .int k, h =>
      have h : ((u == sGo) && (getI L.rest k).isSome) = true := h
      rw [Bool.and_eq_true] at h
      obtain ⟨v, hv⟩ := Option.isSome_iff_exists.mp h.2
      refine ⟨u, k, v, rfl, hv, ?_⟩
      show (if u == sGo then match getI L.rest k with
        | some v => (decide (v = 0), goL L k)
        | none => (false, L) else (false, L)) = _
      rw [if_pos h.1, hv]
theorem c2_true {L : Led} {x : PyData} (h : StepOk x) (h1 : c1 L x = false) (h2 : c2 L x = true) : stepB L x = (false, L) := by
  rcases step_cls h with ⟨u, y, rfl⟩ | ⟨u, y, z, rfl⟩ | ⟨_, _, no, _⟩
  · rcases int_cls y with ⟨k, rfl⟩ | ⟨_, hy⟩
    · have h1 : ((u == sGo) && (getI L.rest k).isSome) = false := h1
      show (if u == sGo then match getI L.rest k with
        | some v => (decide (v = 0), goL L k)
        | none => (false, L) else (false, L)) = _
      cases e : (u == sGo) with
      | false => rfl
      | true =>
        rw [e, Bool.true_and] at h1
        cases e2 : getI L.rest k with
        | none => rfl
        | some v => rw [e2] at h1; cases h1
    · show pairB L (.str u) y = _
      cases y with
      | int k => exact absurd rfl (hy k)
      | _ => rfl
  · rcases int_cls y with ⟨k, rfl⟩ | ⟨_, hy⟩
    · have h2 : (!((u == sWrite) && (getI L.rest k).isSome)) = true := h2
      show tripB L (.str u) (.int k) z = _
      cases e : (u == sWrite) with
      | false =>
        cases z with
        | int n => show (if u == sWrite then _ else _) = _; rw [e]; rfl
        | _ => rfl
      | true =>
        rw [e, Bool.true_and] at h2
        cases e2 : getI L.rest k with
        | none =>
          cases z with
          | int n => show (if u == sWrite then match getI L.rest k with | some v => _ | none => _ else _) = _; rw [e, e2]; rfl
          | _ => rfl
        | some v => rw [e2] at h2; cases h2
    · show tripB L (.str u) y z = _
      cases y with
      | int k => exact absurd rfl (hy k)
      | _ => rfl
  · exact no L
theorem c2_false {L : Led} {x : PyData} (h2 : c2 L x = false) : ∃ u k z v, x = .tuple [.str u, .int k, z] ∧ getI L.rest k = some v ∧ stepB L x = (if fWithin z 1 v then match z with | .int n => (fitsB (wrL L k v n), wrL L k v n) | _ => (false, L) else (false, L)) := by
  match x, h2 with
  | .tuple [a, y, z], h =>
    match a, y, h with
    | .str u, .int k, h =>
      have h : (!((u == sWrite) && (getI L.rest k).isSome)) = false := h
      have hb : ((u == sWrite) && (getI L.rest k).isSome) = true := by simpa using h
      rw [Bool.and_eq_true] at hb
      obtain ⟨v, hv⟩ := Option.isSome_iff_exists.mp hb.2
      refine ⟨u, k, z, v, rfl, hv, ?_⟩
      show tripB L (.str u) (.int k) z = _
      cases z with
      | int n =>
        show (if u == sWrite then match getI L.rest k with
          | some v => if 1 ≤ n ∧ n ≤ v then (fitsB (wrL L k v n), wrL L k v n) else (false, L)
          | none => (false, L) else (false, L)) = (if (decide (1 ≤ n) && decide (n ≤ v)) = true then _ else _)
        rw [if_pos hb.1, hv]
        show (if 1 ≤ n ∧ n ≤ v then _ else _) = _
        by_cases q : 1 ≤ n ∧ n ≤ v
        · rw [if_pos q, if_pos (by simp [q.1, q.2])]
        · rw [if_neg q, if_neg (by intro z; simp at z; exact q z)]
      | _ => rfl
theorem within_false {z : PyData} {v : Int} (h : ∀ n, z ≠ .int n) : fWithin z 1 v = false := by
  cases z with
  | int k => exact absurd rfl (h k)
  | _ => rfl
theorem setd_kd (l : List (Int × Int)) (k h : Int) : (if (valP (kdI l) (.inl k)).isSome then kdI l else putP (kdI l) (.inl k) (.int h)) = kdI (if (getI l k).isSome then l else putI l k h) := by
  rw [valP_kd, put_kd]
  cases getI l k <;> rfl
section
variable {P : Program} {w : World} {K : PySem.W.Frag} {mg : Str → Option Value} {base : Heap}
abbrev s_step : Stmt := inClass (top 32) 1
theorem sc_step : FnScope ["self", "thing", "?r", "?g"] ["self", "thing"] (defScope s_step) := ⟨rfl, rfl, rfl, by decide +kernel, rfl, by decide +kernel, by decide +kernel⟩
def ph_step (L : Led) (rs : List Dt) (b : Bool) (L' : Led) : Prop := ∃ x, rs = [.d x] ∧ StepOk x ∧ L.rest.length < sizeLine ∧ L.firsts.length < sizeLine ∧ b = (stepB L x).1 ∧ L' = (stepB L x).2
theorem m_step {C : Addr} (HM : HasMth K "step" "Doubt.step" C s_step ["self", "thing"]) (B : Bt mg) (T : DbC K C) (C1 : Cal P w K mg base "is_pair" 1 ["thing"] (spP 1 ph_is_pair)) (C2 : Cal P w K mg base "is_triple" 1 ["thing"] (spP 1 ph_is_triple)) (C3 : Cal P w K mg base "is_integer" 1 ["thing"] (spP 1 ph_is_integer))
    (C4 : Cal P w K mg base "is_within" 2 ["thing", "least", "most"] (spP 3 ph_is_within)) (M1 : Mth P w K mg base "go" C 1 ["self", "deed"] (spL C 1 ph_go)) (M2 : Mth P w K mg base "fits" C 1 ["self"] (spL C 0 ph_fits)) : Mth P w K mg base "step" C 3 ["self", "thing"] (spL C 1 ph_step) := by
  refine mth_led 2 3 (by decide) (by decide) (by decide) HM sc_step rfl fun f cdv A outer s H E hr rs a dx r g L b L' hl ⟨x, e1, hx, hz1, hz2, e2, e3⟩ => ?_
  subst e1
  have hu : (A.deeper (envOfC "Doubt.step" (defScope s_step) s.heap.objs.size f cdv)).units + 1 < cLine := hu_of hr
  have hr1 : Room 1 (A.deeper (envOfC "Doubt.step" (defScope s_step) s.heap.objs.size f cdv)) := hr.mono (by decide)
  have hret : stepB L x = (false, L) → ∀ z, z = Dt.d (.bool false) → z = .d (.bool b) ∧ LedS (ledT (.obj a C dx (ledF L r g) :: startT ["thing", "?r", "?g"] [.d x]) 0 2 3 a C dx r g L) 0 2 3 a C dx r g L' := by
    intro he z hz
    rw [he] at e2 e3
    subst e2 e3 hz
    exact ⟨rfl, rfl, rfl, rfl⟩
  -- the first test
  refine sd_cons (sd_if (P := fun b1 => b1 = c1 L x) ?_ (fun q => ?_) fun q => sd_nil ?_)
  · rcases step_cls hx with ⟨u, y, rfl⟩ | ⟨u, y, z, rfl⟩ | ⟨n2, n3, no, nc⟩
    · rcases int_cls y with ⟨k, rfl⟩ | ⟨ny, hy⟩
      · refine PMT.mono (PWD.tst (pdw_and (PD.tst (pd_cal C1 hr1 (ac (vr 1 rfl) pma_nil) rfl ⟨_, rfl, rfl⟩)) fun _ => pdw_and (ct (ix (vr 1 rfl) pd_int (id_tup (d := .str u) rfl)) pd_str (cd_eqS u _)) fun _ => pdw_and (PD.tst (pd_cal C3 hr1 (ac (ix (vr 1 rfl) pd_int (id_tup (d := .int k) rfl)) pma_nil) rfl ⟨_, rfl, rfl⟩)) fun _ => pwd_and1 (inRT (ks := kdI L.rest) false 2 hu (rf_fld 0 rfl T.cl T.nR lf_r) rfl (ix (vr 1 rfl) pd_int (id_tup (d := .int k) rfl))))) fun b hb => ?_
        rw [hb, valP_kd, Option.isSome_map]
        rfl
      · refine PMT.mono (PWD.tst (pdw_and (PD.tst (pd_cal C1 hr1 (ac (vr 1 rfl) pma_nil) rfl ⟨_, rfl, rfl⟩)) fun _ => pdw_and (k' := false) (ct (ix (vr 1 rfl) pd_int (id_tup (d := .str u) rfl)) pd_str (cd_eqS u _)) fun _ => pwd_and (PD.tst (pd_cal C3 hr1 (ac (ix (vr 1 rfl) pd_int (id_tup (d := y) rfl)) pma_nil) rfl ⟨_, rfl, rfl⟩)) (fun _ => rfl) fun h => by rw [ny] at h; cases h)) fun b hb => ?_
        rw [hb]
        show (true && (_ && false)) = pc1 L (.str u) y
        rw [pc1_no hy, Bool.and_false]
        rfl
    · refine PWD.tst (pwd_and (P' := fun b => b = false) (PD.tst (pd_cal C1 hr1 (ac (vr 1 rfl) pma_nil) rfl ⟨_, rfl, rfl⟩)) (fun _ => rfl) fun h => ?_)
      have t2 : tupLen (.tuple [.str u, y, z]) 2 = false := rfl
      rw [t2] at h; cases h
    · rw [(nc L).1]
      refine PWD.tst (pwd_and (P' := fun b => b = false) (PD.tst (pd_cal C1 hr1 (ac (vr 1 rfl) pma_nil) rfl ⟨_, rfl, rfl⟩)) (fun _ => rfl) fun h => ?_)
      rw [n2] at h; cases h
  · obtain ⟨u, k, v, rfl, hv, hs⟩ := c1_true q.symm
    rw [hs] at e2 e3
    subst e2 e3
    refine sd_one (sd_retS (pms_meth (L' := goL L k) 0 2 3 (by decide) M1 hr1 T.cl ⟨rfl, rfl, rfl⟩ (ac (ix (vr 1 rfl) pd_int (id_tup (d := .int k) rfl)) pma_nil) rfl ⟨k, v, rfl, hv, rfl, rfl⟩) ?_)
    rintro r t' ⟨rfl, rfl⟩
    exact ⟨rfl, rfl, rfl, rfl⟩
  -- the second
  have q1 : c1 L x = false := q.symm
  refine sd_cons (sd_if (P := fun b1 => b1 = c2 L x) ?_ (fun q => ?_) fun q => sd_nil ?_)
  · rcases step_cls hx with ⟨u, y, rfl⟩ | ⟨u, y, z, rfl⟩ | ⟨n2, n3, no, nc⟩
    · refine PWD.tst (pwd_or (P' := fun b => b = true) (pdt_not (PD.tst (pd_cal C2 hr1 (ac (vr 1 rfl) pma_nil) rfl ⟨_, rfl, rfl⟩))) (fun _ => rfl) fun h => ?_)
      have t3 : tupLen (.tuple [.str u, y]) 3 = false := rfl
      rw [t3] at h; cases h
    · rcases int_cls y with ⟨k, rfl⟩ | ⟨ny, hy⟩
      · refine PMT.mono (PWD.tst (pdw_or (pdt_not (PD.tst (pd_cal C2 hr1 (ac (vr 1 rfl) pma_nil) rfl ⟨_, rfl, rfl⟩))) fun _ => pdw_or (ct (ix (vr 1 rfl) pd_int (id_tup (d := .str u) rfl)) pd_str (cd_neS u _)) fun _ => pdw_or (pdt_not (PD.tst (pd_cal C3 hr1 (ac (ix (vr 1 rfl) pd_int (id_tup (d := .int k) rfl)) pma_nil) rfl ⟨_, rfl, rfl⟩))) fun _ => pwd_or1 (ninRT (ks := kdI L.rest) false 2 hu (rf_fld 0 rfl T.cl T.nR lf_r) rfl (ix (vr 1 rfl) pd_int (id_tup (d := .int k) rfl))))) fun b hb => ?_
        rw [hb, valP_kd, Option.isSome_map]
        show (false || (!(u == sWrite) || (false || !(getI L.rest k).isSome))) = !((u == sWrite) && (getI L.rest k).isSome)
        cases (u == sWrite) <;> cases (getI L.rest k).isSome <;> rfl
      · refine PMT.mono (PWD.tst (pdw_or (pdt_not (PD.tst (pd_cal C2 hr1 (ac (vr 1 rfl) pma_nil) rfl ⟨_, rfl, rfl⟩))) fun _ => pdw_or (k' := true) (ct (ix (vr 1 rfl) pd_int (id_tup (d := .str u) rfl)) pd_str (cd_neS u _)) fun _ => pwd_or (pdt_not (PD.tst (pd_cal C3 hr1 (ac (ix (vr 1 rfl) pd_int (id_tup (d := y) rfl)) pma_nil) rfl ⟨_, rfl, rfl⟩))) (fun _ => rfl) fun h => by rw [ny] at h; cases h)) fun b hb => ?_
        rw [hb]
        show (_ || (_ || true)) = !pc2 L (.str u) y
        rw [pc2_no hy, Bool.or_true, Bool.or_true]
        rfl
    · rw [(nc L).2]
      refine PWD.tst (pwd_or (P' := fun b => b = true) (pdt_not (PD.tst (pd_cal C2 hr1 (ac (vr 1 rfl) pma_nil) rfl ⟨_, rfl, rfl⟩))) (fun _ => rfl) fun h => ?_)
      rw [n3] at h; cases h
  · exact sd_one (sd_ret pd_bl (hret (c2_true hx q1 q.symm)))
  obtain ⟨u, k, z, v, rfl, hv, hs⟩ := c2_false q.symm
  -- the third
  refine sd_cons (sd_if (pdt_not (PD.tst (pd_cal C4 hr (ac (ix (vr 1 rfl) pd_int (id_tup (d := z) rfl)) (ac pd_int (ac (getR (ks := kdI L.rest) (d := .int v) false 2 hu (rf_fld 0 rfl T.cl T.nR lf_r) rfl (ix (vr 1 rfl) pd_int (id_tup (d := .int k) rfl)) (by rw [valP_kd, hv]; rfl)) pma_nil))) rfl ⟨z, 1, v, rfl, rfl⟩))) (fun q => ?_) fun q => sd_nil ?_)
  · have q : fWithin z 1 v = false := by have q := q.symm; simpa using q
    exact sd_one (sd_ret pd_bl (hret (by rw [hs, q]; rfl)))
  have q : fWithin z 1 v = true := by have q := q.symm; simpa using q
  obtain ⟨n, rfl⟩ : ∃ n, z = .int n := by
    rcases int_cls z with h | ⟨_, hz⟩
    · exact h
    · rw [within_false hz] at q; cases q
  rw [hs, if_pos q] at e2 e3
  have e2 : b = fitsB (wrL L k v n) := e2
  have e3 : L' = wrL L k v n := e3
  subst e2 e3
  refine sd_cons (sd_setd (ks := kdI L.firsts) (d := .int L.h) false 3 (rf_fld 0 rfl T.cl T.nF lf_f) rfl (ix (vr 1 rfl) pd_int (id_tup (d := .int k) rfl)) (fo_int 0 rfl T.cl T.nH lf_h) (by rw [kd_len]; exact hz2) ?_)
  rw [setd_kd]
  refine sd_cons (daugR (ks := kdI L.rest) (m := v) (n := n) false 2 hu (rf_fld (vs := ledF L r g) 0 rfl T.cl T.nR lf_r) rfl (ix (vr 1 rfl) pd_int (id_tup (d := .int k) rfl)) (by rw [valP_kd, hv]; rfl) (ix (vr 1 rfl) pd_int (id_tup (d := .int n) rfl)) (by rw [kd_len]; exact hz1) ?_)
  rw [put_kd]
  refine sd_cons (ao_int (vs := ledF L r g) 0 rfl T.cl T.nH lf_h (ix (vr 1 rfl) pd_int (id_tup (d := .int n) rfl)) (by show 4 < 1000; decide) ?_)
  refine sd_one (sd_retS (pms_meth0 (L := wrL L k v n) (L' := wrL L k v n) 0 2 3 (by decide) M2 hr1 T.cl ⟨rfl, rfl, rfl⟩ ⟨rfl, rfl, rfl⟩) ?_)
  rintro r t' ⟨rfl, rfl⟩
  exact ⟨rfl, rfl, rfl, rfl⟩
end
end K33

-- part T12
set_option Elab.async false
set_option maxRecDepth 100000
set_option maxHeartbeats 4000000
set_option linter.all false
namespace Fw
open PySem PySem.Spec PyProof.Rows L2
section
variable {X : Cx}
theorem ll_all (hc : X.calm = true) (ns : List Bool) : CallD X (.builtin "all") [.d (.list (ns.map PyData.bool))] (.bool (ns.all id)) := fun F H vs Q e h k => by
  cases h with
  | cons h1 h2 =>
    cases h2
    cases h1 with
    | lst g a =>
      rw [a.bls] at g
      exact use_c (cr_all hc) ⟨_, ns, rfl, SqL.of (e _ _ g), k _ F H (Gr.refl e) (.bl _)⟩
variable {e : Expr} {t : Ty} {pos p : Pos} {d z : PyData} {T : Ty → Prop}
theorem pms_callB1 {x : Str} {id : String} (hg : Gl X x) (hm : X.mg x = none) (hv : bootBuiltins x = some (.builtin id)) (he : PMS X e t (fun r t' => r = .d d ∧ T t')) (h : CallD X (.builtin id) [.d d] z) (hn : x ≠ "__name__" := by decide) (hdb : (x == ("__debug__" : Str)) = false := by decide)
    (hst : starEach [e] X.env = (false, eval e X.env) :: starEach [] X.env := by rfl) (hpl : (backTo pos (starEach [] X.env)).any (·.1) = false := by rfl) : PMS X (.Call (.Name x p) [e] [] pos) t (fun r t' => r = .d z ∧ T t') := fun N sg F H Q S q =>
  use_e (pe_callB (c_of X _) hg hm hv (pa_cons (pe_of X e) pa_nil hst) hn hdb hst hpl) (he N sg F H _ S fun v F1 H1 r1 t1 S1 s1 d1 hr1 => by
    obtain ⟨e1, hT⟩ := hr1
    subst e1
    exact h F1 H1 [v] Q S1.fh (.cons d1 .nil) fun w F2 H2 g dz => q w F2 H2 (.d z) t1 (S1.grow g) (s1.trans g.ff) dz ⟨rfl, hT⟩)
theorem cd_eqNI (j : Int) : CmpD X .Eq .none (.int j) false := fun F H v u Q e h1 h2 k => by
  cases h1; cases h2
  refine use_o op_eq ⟨rfl, ?_⟩
  exact k F H (Gr.refl e)
end
end Fw
namespace K33
open PySem PySem.Spec PyProof.Rows L2 Fw
/-! ### a new leader's beginning -/
def rest0 (ds : List Deed) (l : List Int) : List (Int × Int) := (ds.zipIdx.filter fun p => !decide ((p.2 : Int) ∈ l)).map fun p => ((p.2 : Int), p.1.2)
def firsts0 (ds : List Deed) : List (Int × Int) := (ds.zipIdx.filter fun p => p.1.1.isSome).map fun p => ((p.2 : Int), p.1.1.getD 0)
def led0 (c h : Int) (ds : List Deed) (l : List Int) : Led := ⟨c, h, rest0 ds l, firsts0 ds⟩
theorem zip_nodup (ds : List Deed) (c : Deed × Nat → Bool) : ((ds.zipIdx.filter c).map fun p => (p.2 : Int)).Nodup := by
  have h : (ds.zipIdx.map fun p => (p.2 : Int)).Nodup := by
    have e : (ds.zipIdx.map fun p => (p.2 : Int)) = (ds.zipIdx.map Prod.snd).map fun i : Nat => (i : Int) := by rw [List.map_map]; rfl
    rw [e, List.zipIdx_map_snd]
    exact List.Pairwise.map _ (fun a b h z => h (Int.ofNat.inj z)) (List.nodup_range' (step := 1))
  exact h.sublist (List.filter_sublist.map _)
theorem rest0_len (ds : List Deed) (l : List Int) : (rest0 ds l).length ≤ ds.length := by
  unfold rest0; rw [List.length_map]; exact Nat.le_trans (List.length_filter_le _ _) (by rw [List.length_zipIdx]; exact Nat.le_refl _)
theorem firsts0_len (ds : List Deed) : (firsts0 ds).length ≤ ds.length := by
  unfold firsts0; rw [List.length_map]; exact Nat.le_trans (List.length_filter_le _ _) (by rw [List.length_zipIdx]; exact Nat.le_refl _)
section
variable {P : Program} {w : World} {K : PySem.W.Frag} {mg : Str → Option Value} {base : Heap}
abbrev s_doubt : Stmt := inClass (top 32) 0
abbrev n_doubt : List Str := ["self", "standing", "lot", "deed", "item", "?r", "?g"]
theorem sc_doubt : FnScope n_doubt ["self", "standing", "lot"] (defScope s_doubt) := ⟨rfl, rfl, rfl, by decide +kernel, rfl, by decide +kernel, by decide +kernel⟩
def ph_doubt (Cs : Addr) (rs : List Dt) (L : Led) : Prop := ∃ c h ds l, rs = [stD Cs c h ds, .d (lotD l)] ∧ ds.length ≤ 200 ∧ L = led0 c h ds l
theorem c_doubt {C Cs : Addr} (HC : HasCls K mg "Doubt" "Doubt.__init__" C s_doubt ["self", "standing", "lot"]) (B : Bt mg) (T : DbC K C) (Ts : StC K mg Cs) : MakC P w K mg base "Doubt" C 1 ["self", "standing", "lot"] (spD C 2 (ph_doubt Cs)) := by
  refine mak_led 5 6 (by decide) HC sc_doubt rfl fun f cdv A outer s H E hr rs L p dx hl ⟨c, h, ds, l, e1, hds, e2⟩ => ?_
  subst e1 e2
  have hz : ds.zipIdx.length < sizeLine := by rw [List.length_zipIdx]; exact Nat.lt_of_le_of_lt hds (by decide)
  refine sd_cons (so_int 0 rfl T.cl T.nC (fldC Ts (vr 1 rfl)) (by show 0 < 1000; decide) ?_)
  refine sd_cons (so_int 0 rfl T.cl T.nH (fldH Ts (vr 1 rfl)) (by exact (show 1 < 1000 by decide)) ?_)
  refine sd_cons (sd_fldDc (A := Deed × Nat) (ds := ds.zipIdx) (enc := fun p => .tuple [.int (p.2 : Nat), encD p.1]) (own := [("deed", 3), ("item", 4)]) (bs := fun p => [(3, .int (p.2 : Nat)), (4, encD p.1)]) (c := fun p => !decide ((p.2 : Int) ∈ l)) (key := fun p => (p.2 : Int)) (val := fun p => .int p.1.2) 0 5 (by decide) rfl sc_doubt.nd rfl (.inl rfl) rfl rfl T.cl T.nR (by exact (show 2 < 1000 by decide))
    (it_enumT (xs := ds) (enc := encD) rfl B.enumerate (fldD Ts (vr 1 rfl))) (blkOk_by (N := n_doubt) (sc := defScope s_doubt) (by decide +kernel)) (fun _ _ _ _ _ => pg_tup (n := 2) rfl (pgs_cons (pg_name (i := 3) sc_doubt.nd rfl (.inl rfl)) (pgs_cons (pg_name (i := 4) sc_doubt.nd rfl (.inl rfl)) pgs_nil))) (fun d _ => tg_tup (tgs_cons tg_name (tgs_cons tg_name tgs_nil)) rfl) ow2 (no2 rfl rfl)
    (fun p _ _ _ _ _ _ => ct (vr 3 rfl) (vr 2 rfl) (cd_ninT (p.2 : Nat) l)) (fun p _ _ _ _ _ _ _ => vr 3 rfl) (fun p _ _ _ _ _ _ _ => ix (vr 4 rfl) pd_int (id_tup (d := .int p.1.2) rfl)) (zip_nodup ds _) hz ?_)
  intro D1 o1
  refine sd_one (sd_fldDc (A := Deed × Nat) (ds := ds.zipIdx) (enc := fun p => .tuple [.int (p.2 : Nat), encD p.1]) (own := [("deed", 3), ("item", 4)]) (bs := fun p => [(3, .int (p.2 : Nat)), (4, encD p.1)]) (c := fun p => p.1.1.isSome) (key := fun p => (p.2 : Int)) (val := fun p => .int (p.1.1.getD 0)) 0 6 (by decide) rfl sc_doubt.nd rfl (.inl rfl) rfl rfl T.cl T.nF (by exact (show 3 < 1000 by decide))
    (it_enumT (xs := ds) (enc := encD) rfl B.enumerate (fldD Ts (vr 1 rfl))) (blkOk_by (N := n_doubt) (sc := defScope s_doubt) (by decide +kernel)) (fun _ _ _ _ _ => pg_tup (n := 2) rfl (pgs_cons (pg_name (i := 3) sc_doubt.nd rfl (.inl rfl)) (pgs_cons (pg_name (i := 4) sc_doubt.nd rfl (.inl rfl)) pgs_nil))) (fun d _ => tg_tup (tgs_cons tg_name (tgs_cons tg_name tgs_nil)) rfl) ow2 (no2 rfl rfl)
    (fun p _ _ _ _ _ _ => PMT.mono (ct (ix (vr 4 rfl) pd_int (id_tup (d := encF p.1.1) rfl)) pd_non cd_notN) fun b hb => by rw [hb, isN_F]) (fun p _ _ _ _ _ _ _ => vr 3 rfl) (fun p _ hp _ _ _ _ _ => PD.as (d := encF p.1.1) (ix (vr 4 rfl) pd_int (id_tup (d := encF p.1.1) rfl)) (by
      obtain ⟨x, hx⟩ := Option.isSome_iff_exists.mp hp
      rw [hx]; rfl)) (zip_nodup ds _) hz ?_)
  intro D2 o2
  refine ⟨D1, D2, rfl, ?_, ?_⟩
  · show some (Sl.gd D1 _) = some (Sl.gd D1 (kdI (rest0 ds l)))
    unfold kdI rest0
    rw [List.map_map]
    rfl
  · show some (Sl.gd D2 _) = some (Sl.gd D2 (kdI (firsts0 ds)))
    unfold kdI firsts0
    rw [List.map_map]
    rfl
end
end K33

-- part T13
set_option Elab.async false
set_option maxRecDepth 100000
set_option maxHeartbeats 4000000
set_option linter.all false
namespace K33
open PySem PySem.Spec PyProof.Rows L2 Fw
/-! ### a course, judged -/
def stL (L : Led) (ss : List PyData) (i : Nat) : Led := (ss.take i).foldl (fun L x => (stepB L x).2) L
theorem stL_succ {L : Led} {ss : List PyData} {i : Nat} {x : PyData} (h : ss[i]? = some x) : stL L ss (i + 1) = (stepB (stL L ss i) x).2 := by
  unfold stL
  rw [take_succ h, List.foldl_append]
  rfl
theorem putI_len {l : List (Int × Int)} {k v w : Int} (h : getI l k = some w) : (putI l k v).length = l.length := by
  have e : l.any (fun p => decide (p.1 = k)) = true := by
    unfold getI at h
    cases q : l.find? (fun p => decide (p.1 = k)) with
    | none => rw [q] at h; cases h
    | some p =>
      exact List.any_eq_true.mpr ⟨p, List.mem_of_find?_eq_some q, by simpa using List.find?_some q⟩
  unfold putI
  rw [if_pos e, List.length_map]
theorem putI_le (l : List (Int × Int)) (k v : Int) : (putI l k v).length ≤ l.length + 1 := by
  unfold putI
  split
  · rw [List.length_map]; exact Nat.le_succ _
  · rw [List.length_append]; exact Nat.le_refl _
theorem step_sz (L : Led) (x : PyData) : (stepB L x).2.rest.length ≤ L.rest.length ∧ (stepB L x).2.firsts.length ≤ L.firsts.length + 1 := by
  have hid : L.rest.length ≤ L.rest.length ∧ L.firsts.length ≤ L.firsts.length + 1 := ⟨Nat.le_refl _, Nat.le_succ _⟩
  have pair : ∀ a y, (pairB L a y).2.rest.length ≤ L.rest.length ∧ (pairB L a y).2.firsts.length ≤ L.firsts.length + 1 := by
    intro a y
    unfold pairB
    split
    · split
      · split
        · exact ⟨List.length_filter_le _ _, Nat.le_succ_of_le (List.length_filter_le _ _)⟩
        · exact hid
      · exact hid
    · exact hid
  have trip : ∀ a y z, (tripB L a y z).2.rest.length ≤ L.rest.length ∧ (tripB L a y z).2.firsts.length ≤ L.firsts.length + 1 := by
    intro a y z
    unfold tripB
    split
    · split
      · split
        · rename_i v hv
          split
          · refine ⟨Nat.le_of_eq (putI_len hv), ?_⟩
            show (if _ then L.firsts else putI L.firsts _ _).length ≤ _
            split
            · exact Nat.le_succ _
            · exact putI_le _ _ _
          · exact hid
        · exact hid
      · exact hid
    · exact hid
  match x with
  | .tuple [a, y] => exact pair a y
  | .tuple [a, y, z] => exact trip a y z
  | .tuple [] => exact hid
  | .tuple [_] => exact hid
  | .tuple (_ :: _ :: _ :: _ :: _) => exact hid
  | .none => exact hid
  | .bool _ => exact hid
  | .int _ => exact hid
  | .str _ => exact hid
  | .list _ => exact hid
  | .dict _ => exact hid
theorem stL_sz (L : Led) (ss : List PyData) : ∀ i, i ≤ ss.length → (stL L ss i).rest.length ≤ L.rest.length ∧ (stL L ss i).firsts.length ≤ L.firsts.length + i
  | 0, _ => ⟨Nat.le_refl _, Nat.le_refl _⟩
  | i + 1, h => by
    have ih := stL_sz L ss i (Nat.le_of_succ_le h)
    have hi : ss[i]? = some ss[i] := List.getElem?_eq_getElem h
    rw [stL_succ hi]
    have q := step_sz (stL L ss i) ss[i]
    omega
def allB (L : Led) (ss : List PyData) : Bool := (ss.zipIdx.map fun p => (stepB (stL L ss p.2) p.1).1).all id
def courseP (c h : Int) (ds : List Deed) (l : List Int) : PyData → Bool
  | .tuple ss => fitsB (led0 c h ds l) && (allB (led0 c h ds l) ss && decide (((stL (led0 c h ds l) ss ss.length).rest.length : Int) = 0))
  | _ => false
def CoOk (y : PyData) : Prop := ∀ ss, y = .tuple ss → (∀ s ∈ ss, StepOk s) ∧ ss.length < 2 ^ 20
theorem course_no {c h : Int} {ds : List Deed} {l : List Int} {y : PyData} (e : isTup y = false) : courseP c h ds l y = false := by
  cases y with
  | tuple ss => cases e
  | _ => rfl
section
variable {P : Program} {w : World} {K : PySem.W.Frag} {mg : Str → Option Value} {base : Heap}
abbrev s_course : Stmt := top 33
abbrev n_course : List Str := ["standing", "lot", "thing", "led", "step", "?r", "?g"]
theorem sc_course : FnScope n_course ["standing", "lot", "thing"] (defScope s_course) := ⟨rfl, rfl, rfl, by decide +kernel, rfl, by decide +kernel, by decide +kernel⟩
def ph_course (Cs : Addr) (rs : List Dt) (r : Dt) : Prop := ∃ c h ds l y, rs = [stD Cs c h ds, .d (lotD l), .d y] ∧ ds.length ≤ 200 ∧ CoOk y ∧ r = .d (.bool (courseP c h ds l y))
theorem c_course {C Cs : Addr} (F : HasFn K mg "is_course_beside" s_course ["standing", "lot", "thing"]) (B : Bt mg) (T : DbC K C) (M : MakC P w K mg base "Doubt" C 1 ["self", "standing", "lot"] (spD C 2 (ph_doubt Cs))) (M1 : Mth P w K mg base "step" C 3 ["self", "thing"] (spL C 1 ph_step)) (M2 : Mth P w K mg base "fits" C 1 ["self"] (spL C 0 ph_fits)) :
    Cal P w K mg base "is_course_beside" 4 ["standing", "lot", "thing"] (spP 3 (ph_course Cs)) := by
  refine cal_pure F sc_course rfl fun f cdv A outer s H E hr rs r hl ⟨c, h, ds, l, y, e1, hds, hy, e2⟩ => ?_
  subst e1 e2
  refine sd_cons (sd_if (pdt_not (PD.tst (isT B.isinstance B.tuple (vr 2 rfl)))) (fun q => ?_) fun q => sd_nil ?_)
  · have q : isTup y = false := by have q := q.symm; simpa using q
    refine sd_one (sd_ret pd_bl ?_)
    rintro r rfl
    rw [course_no q]
  obtain ⟨ss, rfl⟩ : ∃ ss, y = .tuple ss := by
    rcases isTup_cases y with h | ⟨h, _⟩
    · exact h
    · rw [h] at q; cases q
  obtain ⟨hs, hz⟩ := hy ss rfl
  have hsz : (2 : Nat) ^ 20 + 200 < sizeLine := by decide
  refine sd_cons (sd_mkL (L := led0 c h ds l) 3 5 6 (by decide) (by decide) (by decide) (by exact (show 5 < 7 by decide)) (by exact (show 6 < 7 by decide)) M (hr.mono (by decide)) sc_course.nd rfl (.inr rfl) (ac (vr 0 rfl) (ac (vr 1 rfl) pma_nil)) rfl ⟨c, h, ds, l, rfl, hds, rfl⟩ ?_)
  intro a dx rr gg
  have key : ∀ i : Nat, True := fun _ => trivial
  let T0 : Ty := [.v (stD Cs c h ds), .v (.d (lotD l)), .v (.d (.tuple ss)), .no, .no, .no, .no]
  let Ti : Nat → Ty := fun i => ledT T0 3 5 6 a C dx rr gg (stL (led0 c h ds l) ss i)
  have hS : ∀ i, LedS (Ti i) 3 5 6 a C dx rr gg (stL (led0 c h ds l) ss i) := fun i => ⟨rfl, rfl, rfl⟩
  refine sd_one (sd_retS (pms_and (k' := allB (led0 c h ds l) ss && decide (((stL (led0 c h ds l) ss ss.length).rest.length : Int) = 0)) (T := fun t' => t' = Ti 0) (R' := fun _ => True) (PMS.mono (pms_meth0 (L := led0 c h ds l) (L' := led0 c h ds l) 3 5 6 (by decide) M2 (hr.mono (by decide)) T.cl ⟨rfl, rfl, rfl⟩ ⟨rfl, rfl, rfl⟩) fun r t' hr => ⟨hr.1, hr.2⟩) (fun _ _ _ => trivial) fun _ t' ht' => ?_) ?_)
  · subst ht'
    refine pms_and (k' := decide (((stL (led0 c h ds l) ss ss.length).rest.length : Int) = 0)) (T := fun t' => t' = Ti ss.length) (R' := fun _ => True) (k := allB (led0 c h ds l) ss) (pms_callB1 (x := "all") (id := "all") (d := .list (ss.zipIdx.map fun p => .bool (stepB (stL (led0 c h ds l) ss p.2) p.1).1)) rfl B.all (by decide +kernel) (pms_lc0 (A := PyData) (T := Ti) (ds := ss) (enc := fun x => x) (own := [("step", 4)]) (bs := fun x => [(4, x)]) (val := fun i x => .bool (stepB (stL (led0 c h ds l) ss i) x).1) rfl sc_course.nd ?_ (blkOk_by (N := n_course) (sc := defScope s_course) (by decide +kernel))
      (fun _ _ _ _ _ => pg_name (i := 4) sc_course.nd rfl (.inl rfl)) (fun i => rfl) (fun _ _ => tg_name) ow1 (fun i => no1 rfl) (fun i x hx s' H0 C' cl fp => ?_) (Nat.lt_trans hz (by decide))) ?_) (fun _ _ _ => trivial) fun _ t' ht' => ?_
    · rw [List.map_id']
      exact it_tup (vr 2 rfl)
    · have hi : i ≤ ss.length := Nat.le_of_lt (List.getElem?_eq_some_iff.mp hx).1
      have z := stL_sz (led0 c h ds l) ss i hi
      have z1 : (led0 c h ds l).rest.length ≤ 200 := Nat.le_trans (rest0_len ds l) hds
      have z2 : (led0 c h ds l).firsts.length ≤ 200 := Nat.le_trans (firsts0_len ds) hds
      have e := stL_succ (L := led0 c h ds l) hx
      refine PMS.mono (pms_meth (L := stL (led0 c h ds l) ss i) (L' := stL (led0 c h ds l) ss (i + 1)) (b := (stepB (stL (led0 c h ds l) ss i) x).1) 3 5 6 (by decide) M1 hr T.cl ⟨rfl, rfl, rfl⟩ (ac (vr 4 rfl) pma_nil) rfl ⟨x, rfl, hs x (List.mem_of_getElem? hx), by omega, by omega, rfl, e⟩) fun r t' hr => ⟨hr.1, hr.2⟩
    · rw [show (PyData.list (ss.zipIdx.map fun p => .bool (stepB (stL (led0 c h ds l) ss p.2) p.1).1)) = .list ((ss.zipIdx.map fun p => (stepB (stL (led0 c h ds l) ss p.2) p.1).1).map PyData.bool) from by rw [List.map_map]; rfl]
      exact ll_all rfl _
    · subst ht'
      exact pms_one (PMS.mono (pms_of (cp (PD.as (lenR (ks := kdI (stL (led0 c h ds l) ss ss.length).rest) false 5 (rf_fld (vs := ledF (stL (led0 c h ds l) ss ss.length) rr gg) 3 rfl T.cl T.nR lf_r) rfl B.len) (by rw [kd_len])) pd_int (cd_eqI _ _))) fun r t' hr => ⟨hr.1, trivial⟩)
  · rintro r t' ⟨rfl, _⟩
    rfl
end
end K33

-- part T14
set_option Elab.async false
set_option maxRecDepth 100000
set_option maxHeartbeats 4000000
set_option linter.all false
namespace K33
open PySem PySem.Spec PyProof.Rows L2 Fw
def sCourse : Str := "course"
def sExcess : Str := "excess"
def exP (c h : Int) (ds : List Deed) (l : List Int) : PyData → PyData → Bool
  | y, .int n => match y with
    | .int j => (decide (0 ≤ j) && decide (j ≤ (ds.length : Int) - 1)) && (decide (doubtS h ds l j = some n) && decide (c < n))
    | _ => false
  | _, _ => false
def judgeR (c h : Int) (ds : List Deed) (l : List Int) (s : Str) : List PyData → Bool
  | [y] => (s == sCourse) && courseP c h ds l y
  | [y, z] => !(s == sCourse) && ((s == sExcess) && exP c h ds l y z)
  | _ => false
def judgeP (c h : Int) (ds : List Deed) (l : List Int) : PyData → Bool
  | .tuple (.str s :: r) => judgeR c h ds l s r
  | _ => false
def ThOk (x : PyData) : Prop := ∀ a y r, x = .tuple (a :: y :: r) → CoOk y
def headStr : List PyData → Bool
  | a :: _ => isStr a
  | [] => false
theorem th_cls (x : PyData) : (isTup x = false ∧ ∀ c h ds l, judgeP c h ds l x = false) ∨ (x = .tuple []) ∨ (∃ a r, x = .tuple (a :: r) ∧ isStr a = false ∧ ∀ c h ds l, judgeP c h ds l x = false) ∨ ∃ s r, x = .tuple (.str s :: r) := by
  match x with
  | .tuple [] => exact .inr (.inl rfl)
  | .tuple (.str s :: r) => exact .inr (.inr (.inr ⟨s, r, rfl⟩))
  | .tuple (.none :: r) => exact .inr (.inr (.inl ⟨_, r, rfl, rfl, fun _ _ _ _ => rfl⟩))
  | .tuple (.bool _ :: r) => exact .inr (.inr (.inl ⟨_, r, rfl, rfl, fun _ _ _ _ => rfl⟩))
  | .tuple (.int _ :: r) => exact .inr (.inr (.inl ⟨_, r, rfl, rfl, fun _ _ _ _ => rfl⟩))
  | .tuple (.list _ :: r) => exact .inr (.inr (.inl ⟨_, r, rfl, rfl, fun _ _ _ _ => rfl⟩))
  | .tuple (.tuple _ :: r) => exact .inr (.inr (.inl ⟨_, r, rfl, rfl, fun _ _ _ _ => rfl⟩))
  | .tuple (.dict _ :: r) => exact .inr (.inr (.inl ⟨_, r, rfl, rfl, fun _ _ _ _ => rfl⟩))
  | .none => exact .inl ⟨rfl, fun _ _ _ _ => rfl⟩
  | .bool _ => exact .inl ⟨rfl, fun _ _ _ _ => rfl⟩
  | .int _ => exact .inl ⟨rfl, fun _ _ _ _ => rfl⟩
  | .str _ => exact .inl ⟨rfl, fun _ _ _ _ => rfl⟩
  | .list _ => exact .inl ⟨rfl, fun _ _ _ _ => rfl⟩
  | .dict _ => exact .inl ⟨rfl, fun _ _ _ _ => rfl⟩
theorem exP_noz {c h : Int} {ds : List Deed} {l : List Int} {y z : PyData} (hz : ∀ n, z ≠ .int n) : exP c h ds l y z = false := by
  cases z with
  | int n => exact absurd rfl (hz n)
  | _ => rfl
theorem exP_noy {c h : Int} {ds : List Deed} {l : List Int} {y z : PyData} (hy : fWithin y 0 ((ds.length : Int) - 1) = false) : exP c h ds l y z = false := by
  cases z with
  | int n =>
    cases y with
    | int j =>
      have hy : (decide (0 ≤ j) && decide (j ≤ (ds.length : Int) - 1)) = false := hy
      show ((decide (0 ≤ j) && decide (j ≤ (ds.length : Int) - 1)) && _) = false
      rw [hy]; rfl
    | _ => rfl
  | _ => rfl
theorem with_int {y : PyData} {a b : Int} (h : fWithin y a b = true) : ∃ j, y = .int j ∧ a ≤ j ∧ j ≤ b := by
  cases y with
  | int j =>
    have h : (decide (a ≤ j) && decide (j ≤ b)) = true := h
    rw [Bool.and_eq_true] at h
    exact ⟨j, rfl, of_decide_eq_true h.1, of_decide_eq_true h.2⟩
  | _ => cases h
section
variable {P : Program} {w : World} {K : PySem.W.Frag} {mg : Str → Option Value} {base : Heap}
abbrev s_is_doubtful : Stmt := top 34
abbrev n_is_doubtful : List Str := ["standing", "lot", "thing", "found"]
theorem sc_is_doubtful : FnScope n_is_doubtful ["standing", "lot", "thing"] (defScope s_is_doubtful) := ⟨rfl, rfl, rfl, by decide +kernel, rfl, by decide +kernel, by decide +kernel⟩
def ph_is_doubtful (Cs : Addr) (rs : List Dt) (r : Dt) : Prop := ∃ c h ds l x, rs = [stD Cs c h ds, .d (lotD l), .d x] ∧ ds.length ≤ 200 ∧ LotOk l ds.length ∧ ThOk x ∧ r = .d (.bool (judgeP c h ds l x))
theorem c_is_doubtful {Cs : Addr} (F : HasFn K mg "is_doubtful" s_is_doubtful ["standing", "lot", "thing"]) (B : Bt mg) (T : StC K mg Cs) (C1 : Cal P w K mg base "check_doubt" 4 ["standing", "lot"] (spP 2 (ph_check_doubt Cs))) (C2 : Cal P w K mg base "doubt_sum" 1 ["standing", "lot", "deed"] (spP 3 (ph_doubt_sum Cs)))
    (C3 : Cal P w K mg base "is_course_beside" 4 ["standing", "lot", "thing"] (spP 3 (ph_course Cs))) (C4 : Cal P w K mg base "is_within" 2 ["thing", "least", "most"] (spP 3 ph_is_within)) (C5 : Cal P w K mg base "is_integer" 1 ["thing"] (spP 1 ph_is_integer)) : Cal P w K mg base "is_doubtful" 5 ["standing", "lot", "thing"] (spP 3 (ph_is_doubtful Cs)) := by
  refine cal_pure F sc_is_doubtful rfl fun f cdv A outer s H E hr rs r hl ⟨c, h, ds, l, x, e1, hds, lo, hx, e2⟩ => ?_
  subst e1 e2
  refine sd_cons (sd_drop (pm_cal C1 hr (ac (vr 0 rfl) (ac (vr 1 rfl) pma_nil)) (fun rs e => by subst e; exact ⟨rfl, _, ⟨c, h, ds, l, rfl, hds, lo, rfl⟩, trivial⟩) (R := fun _ => True)) ?_)
  rcases th_cls x with ⟨ht, hj⟩ | rfl | ⟨a, r, rfl, ha, hj⟩ | ⟨u, r, rfl⟩
  · rw [hj]
    refine sd_cons (sd_if (PWD.tst (pwd_or (P' := fun b => b = true) (pdt_not (PD.tst (isT B.isinstance B.tuple (vr 2 rfl)))) (fun _ => rfl) fun q => by rw [ht] at q; cases q)) (fun _ => sd_one (sd_ret pd_bl fun r hr => hr)) fun q => by cases q)
  · refine sd_cons (sd_if (PWD.tst (pwd_or (P' := fun b => b = true) (pdt_not (PD.tst (isT B.isinstance B.tuple (vr 2 rfl)))) (fun _ => rfl) fun _ => pwd_or (P' := fun b => b = true) (ct (lenT B.len (vr 2 rfl)) pd_int (cd_eqI _ _)) (fun _ => rfl) fun q => by cases q)) (fun _ => sd_one (sd_ret pd_bl fun r hr => hr)) fun q => by cases q)
  · rw [hj]
    refine sd_cons (sd_if (PWD.tst (pwd_or (P' := fun b => b = true) (pdt_not (PD.tst (isT B.isinstance B.tuple (vr 2 rfl)))) (fun _ => rfl) fun _ => pwd_or (P' := fun b => b = true) (ct (lenT B.len (vr 2 rfl)) pd_int (cd_eqI _ _)) (fun _ => rfl) fun _ => pwd_or1 (PMT.mono (pdt_not (PD.tst (isS B.isinstance B.str (ix (vr 2 rfl) pd_int (id_tup (d := a) (at_0 _ _)))))) fun b hb => by rw [hb, ha]; rfl))) (fun _ => sd_one (sd_ret pd_bl fun r hr => hr)) fun q => by cases q)
  have hlen : decide (((PyData.str u :: r).length : Int) = 0) = false := decide_eq_false (by rw [List.length_cons]; omega)
  refine sd_cons (sd_if (P := fun b => b = false) (PMT.mono (PWD.tst (pdw_or (pdt_not (PD.tst (isT B.isinstance B.tuple (vr 2 rfl)))) fun _ => pdw_or (ct (lenT B.len (vr 2 rfl)) pd_int (cd_eqI _ _)) fun _ => pwd_or1 (pdt_not (PD.tst (isS B.isinstance B.str (ix (vr 2 rfl) pd_int (id_tup (d := .str u) (at_0 _ _)))))))) fun b hb => by
    rw [hb, hlen]; rfl) (fun q => by cases q) fun _ => sd_nil ?_)
  -- the course
  refine sd_cons (sd_if (ct (ix (vr 2 rfl) pd_int (id_tup (d := .str u) (at_0 _ _))) pd_str (cd_eqS u _)) (fun q => ?_) fun q => sd_nil ?_)
  · have q : (u == sCourse) = true := q.symm
    match r, hx with
    | [y], hx =>
      refine sd_one (sd_ret (pd_and (cp (lenT B.len (vr 2 rfl)) pd_int (cd_eqI _ _)) fun _ => pd_one (pd_cal C3 hr (ac (vr 0 rfl) (ac (vr 1 rfl) (ac (ix (vr 2 rfl) pd_int (id_tup (d := y) rfl)) pma_nil))) rfl ⟨c, h, ds, l, y, rfl, hds, hx _ _ _ rfl, rfl⟩)) ?_)
      rintro r rfl
      show Dt.d (.bool (true && courseP c h ds l y)) = .d (.bool ((u == sCourse) && courseP c h ds l y))
      rw [q]
    | [], _ =>
      refine sd_one (sd_ret (pd_and (k' := false) (cp (lenT B.len (vr 2 rfl)) pd_int (cd_eqI _ _)) fun q => by cases q) ?_)
      rintro r rfl; rfl
    | y :: z :: r', _ =>
      have hl2 : decide (((PyData.str u :: y :: z :: r').length : Int) = 2) = false := decide_eq_false (by rw [List.length_cons, List.length_cons, List.length_cons]; omega)
      refine sd_one (sd_ret (pd_and (k' := false) (cp (lenT B.len (vr 2 rfl)) pd_int (cd_eqI _ _)) fun q => by rw [hl2] at q; cases q) ?_)
      rintro r rfl
      rw [Bool.and_false]
      cases r' with
      | nil => show _ = Dt.d (.bool (!(u == sCourse) && _)); rw [q]; rfl
      | cons _ _ => rfl
  have q1 : (u == sCourse) = false := q.symm
  -- neither
  have not1 : ∀ y, r = [y] → judgeP c h ds l (.tuple (.str u :: r)) = false := by
    rintro y rfl
    show ((u == sCourse) && _) = false
    rw [q1]; rfl
  by_cases he : (u == sExcess) = true
  · by_cases hr2 : ∃ y z, r = [y, z]
    · obtain ⟨y, z, rfl⟩ := hr2
      have ej : judgeP c h ds l (.tuple [.str u, y, z]) = exP c h ds l y z := by
        show (!(u == sCourse) && ((u == sExcess) && exP c h ds l y z)) = _
        rw [q1, he]; rfl
      rw [ej]
      refine sd_cons (sd_if (P := fun b => b = !fWithin y 0 ((ds.length : Int) - 1)) (PWD.tst (pwd_or (P := fun b => b = false) (PMT.mono (ct (ix (vr 2 rfl) pd_int (id_tup (d := .str u) (at_0 _ _))) pd_str (cd_neS u _)) fun b hb => by rw [hb]; show (!(u == sExcess)) = false; rw [he]; rfl) (fun q => by cases q) fun _ => pwd_or (P := fun b => b = false) (ct (lenT B.len (vr 2 rfl)) pd_int (cd_neI _ _)) (fun q => by cases q) fun _ => pwd_or1 (pdt_not (PD.tst (pd_cal C4 (hr.mono (by decide)) (ac (ix (vr 2 rfl) pd_int (id_tup (d := y) rfl)) (ac pd_int (ac (bn (PD.as (lenT B.len (fldD T (vr 0 rfl))) (by rw [List.length_map])) pd_int (bd_sub _ _)) pma_nil))) rfl ⟨y, 0, _, rfl, rfl⟩))))) (fun q => ?_) fun q => sd_nil ?_)
      · have q : fWithin y 0 ((ds.length : Int) - 1) = false := by have q := q.symm; simpa using q
        rw [exP_noy q]
        exact sd_one (sd_ret pd_bl fun r hr => hr)
      have q : fWithin y 0 ((ds.length : Int) - 1) = true := by have q := q.symm; simpa using q
      obtain ⟨j, rfl, j0, j1⟩ := with_int q
      refine sd_cons (sd_asg 3 sc_is_doubtful.nd rfl (.inl rfl) (pd_cal C2 (hr.mono (by decide)) (ac (vr 0 rfl) (ac (vr 1 rfl) (ac (ix (vr 2 rfl) pd_int (id_tup (d := .int j) rfl)) pma_nil))) rfl ⟨c, h, ds, l, j, rfl, hds, lo, j0, by omega, rfl⟩) ?_)
      rintro r rfl
      rcases int_cls z with ⟨n, rfl⟩ | ⟨nz, hz⟩
      · have ex : exP c h ds l (.int j) (.int n) = (decide (doubtS h ds l j = some n) && decide (c < n)) := by
          show ((decide (0 ≤ j) && decide (j ≤ (ds.length : Int) - 1)) && _) = _
          rw [decide_eq_true j0, decide_eq_true j1]; rfl
        rw [ex]
        cases hd : doubtS h ds l j with
        | none =>
          refine sd_one (sd_ret (pd_and (pd_cal C5 (hr.mono (by decide)) (ac (ix (vr 2 rfl) pd_int (id_tup (d := .int n) rfl)) pma_nil) rfl ⟨_, rfl, rfl⟩) fun _ => pd_and (k' := false) (cp (vr 3 rfl) (ix (vr 2 rfl) pd_int (id_tup (d := .int n) rfl)) (cd_eqNI n)) fun q => by cases q) ?_)
          rintro r rfl
          rfl
        | some m =>
          refine sd_one (sd_ret (pd_and (pd_cal C5 (hr.mono (by decide)) (ac (ix (vr 2 rfl) pd_int (id_tup (d := .int n) rfl)) pma_nil) rfl ⟨_, rfl, rfl⟩) fun _ => pd_and (cp (vr (r := .d (.int m)) 3 rfl) (ix (vr 2 rfl) pd_int (id_tup (d := .int n) rfl)) (cd_eqI m n)) fun _ => pd_one (cp (vr (r := .d (.int m)) 3 rfl) (fldC T (vr 0 rfl)) (cd_gt m c))) ?_)
          rintro r rfl
          show Dt.d (.bool (true && (decide (m = n) && decide (c < m)))) = .d (.bool (decide (some m = some n) && decide (c < n)))
          by_cases e : m = n
          · subst e; simp
          · simp [e]
      · rw [exP_noz hz]
        refine sd_one (sd_ret (pd_and (k' := false) (pd_cal C5 (hr.mono (by decide)) (ac (ix (vr 2 rfl) pd_int (id_tup (d := z) rfl)) pma_nil) rfl ⟨_, rfl, rfl⟩) fun q => by rw [nz] at q; cases q) ?_)
        rintro r rfl
        rw [Bool.and_false]
    · have hl3 : (!decide (((PyData.str u :: r).length : Int) = 3)) = true := by
        match r, hr2 with
        | [], _ => rfl
        | [_], _ => rfl
        | [y, z], h => exact absurd ⟨y, z, rfl⟩ h
        | _ :: _ :: _ :: r', _ => rw [decide_eq_false (by simp only [List.length_cons]; omega)]; rfl
      have ej : judgeP c h ds l (.tuple (.str u :: r)) = false := by
        match r, hr2 with
        | [], _ => rfl
        | [y], _ => exact not1 y rfl
        | [y, z], h => exact absurd ⟨y, z, rfl⟩ h
        | _ :: _ :: _ :: r', _ => rfl
      rw [ej]
      exact sd_cons (sd_if (PWD.tst (pwd_or (P' := fun b => b = true) (ct (ix (vr 2 rfl) pd_int (id_tup (d := .str u) (at_0 _ _))) pd_str (cd_neS u _)) (fun _ => rfl) fun _ => pwd_or (P' := fun b => b = true) (ct (lenT B.len (vr 2 rfl)) pd_int (cd_neI _ _)) (fun _ => rfl) fun q => by rw [hl3] at q; cases q)) (fun _ => sd_one (sd_ret pd_bl fun r hr => hr)) fun q => by cases q)
  · have he : (u == sExcess) = false := by simpa using he
    have ej : judgeP c h ds l (.tuple (.str u :: r)) = false := by
      match r with
      | [] => rfl
      | [y] => exact not1 y rfl
      | [y, z] =>
        show (!(u == sCourse) && ((u == sExcess) && exP c h ds l y z)) = false
        rw [he, Bool.false_and, Bool.and_false]
      | _ :: _ :: _ :: r' => rfl
    rw [ej]
    exact sd_cons (sd_if (PWD.tst (pwd_or (P' := fun b => b = true) (ct (ix (vr 2 rfl) pd_int (id_tup (d := .str u) (at_0 _ _))) pd_str (cd_neS u _)) (fun _ => rfl) fun q => by
      have q : false = !(u == sExcess) := q
      rw [he] at q; cases q)) (fun _ => sd_one (sd_ret pd_bl fun r hr => hr)) fun q => by cases q)
end
end K33

-- part T15
set_option Elab.async false
set_option maxRecDepth 100000
set_option maxHeartbeats 4000000
set_option linter.all false
namespace K33
open PySem PySem.Spec PyProof.Rows L2 Fw
section
variable {P : Program} {w : World} {K : PySem.W.Frag} {mg : Str → Option Value} {base : Heap}
abbrev s_lint : Stmt := top 39
theorem sc_lint : FnScope ["_law_thing", "_law_least", "_law_most"] ["_law_thing", "_law_least", "_law_most"] (defScope s_lint) := ⟨rfl, rfl, rfl, by decide +kernel, rfl, by decide +kernel, by decide +kernel⟩
theorem c_lint (F : HasFn K mg "_law_is_int" s_lint ["_law_thing", "_law_least", "_law_most"]) (B : Bt mg) : Cal P w K mg base "_law_is_int" 1 ["_law_thing", "_law_least", "_law_most"] (spP 3 ph_is_within) := by
  refine cal_pure F sc_lint rfl fun f cdv A outer s H E hr rs r hl ⟨x, a, b, e1, e2⟩ => ?_
  subst e1 e2
  by_cases hx : ∃ i, x = .int i
  · obtain ⟨i, rfl⟩ := hx
    refine sd_one (sd_ret (pd_and (isI B.isinstance B.int (vr 0 rfl)) fun _ => pd_and (pd_not (isB B.isinstance B.bool (vr 0 rfl))) fun _ => pd_one (pd_chain (vr 1 rfl) (vr 0 rfl) (cd_le _ _) (fun _ => vr 2 rfl) (fun _ => cd_le _ _))) ?_)
    exact fun r hr => hr
  · have e : isInt x = false ∨ isBool x = true := by cases x <;> first | exact .inl rfl | exact .inr rfl | exact absurd ⟨_, rfl⟩ hx
    refine sd_one (sd_ret (pd_and (isI B.isinstance B.int (vr 0 rfl)) fun h => pd_and (k' := false) (pd_not (isB B.isinstance B.bool (vr 0 rfl))) fun h2 => ?_) fun r hr => ?_)
    · rcases e with e | e
      · rw [e] at h; cases h
      · rw [e] at h2; cases h2
    · rw [hr]
      show Dt.d (.bool (isInt x && (!isBool x && false))) = _
      rw [Bool.and_false, Bool.and_false]
      cases x <;> first | rfl | exact absurd ⟨_, rfl⟩ hx
abbrev s_lflag : Stmt := top 40
theorem sc_lflag : FnScope ["_law_told", "_law_due"] ["_law_told", "_law_due"] (defScope s_lflag) := ⟨rfl, rfl, rfl, by decide +kernel, rfl, by decide +kernel, by decide +kernel⟩
def ph_lflag (rs : List Dt) (r : Dt) : Prop := ∃ a b, rs = [.d (.bool a), .d (.bool b)] ∧ r = .d (.bool (a == b))
theorem c_lflag (F : HasFn K mg "_law_flag" s_lflag ["_law_told", "_law_due"]) (B : Bt mg) : Cal P w K mg base "_law_flag" 1 ["_law_told", "_law_due"] (spP 2 ph_lflag) := by
  refine cal_pure F sc_lflag rfl fun f cdv A outer s H E hr rs r hl ⟨a, b, e1, e2⟩ => ?_
  subst e1 e2
  refine sd_one (sd_ret (pd_and (isB B.isinstance B.bool (vr 0 rfl)) fun _ => pd_one (cp (vr 0 rfl) (vr 1 rfl) (cd_eqB a b))) ?_)
  exact fun r hr => hr
abbrev s_ldeep : Stmt := top 41
def deepD : Nat → PyData
  | 0 => .tuple []
  | n + 1 => .tuple [deepD n]
theorem sc_ldeep : FnScope ["_law_many", "_law_found", "_law_turn"] ["_law_many"] (defScope s_ldeep) := ⟨rfl, rfl, rfl, by decide +kernel, rfl, by decide +kernel, by decide +kernel⟩
def ph_ldeep (rs : List Dt) (r : Dt) : Prop := rs = [.d (.int 30)] ∧ r = .d (deepD 30)
theorem c_ldeep (F : HasFn K mg "_law_deep" s_ldeep ["_law_many"]) (B : Bt mg) : Cal P w K mg base "_law_deep" 1 ["_law_many"] (spP 1 ph_ldeep) := by
  refine cal_pure F sc_ldeep rfl fun f cdv A outer s H E hr rs r hl ⟨e1, e2⟩ => ?_
  subst e1 e2
  refine sd_cons (sd_asg 1 sc_ldeep.nd rfl (.inl rfl) (pd_tup (ds := []) pma_nil (Nat.zero_le _)) ?_)
  rintro r rfl
  refine sd_cons (sd_for (A := Int) (ds := idxL 30) (enc := PyData.int) (bs := fun d => [(2, .int d)]) (fun i t => ∃ u2, t = [.v (.d (.int 30)), .v (.d (deepD i)), u2]) PassesOwn.never rfl (by rw [← idxL_rng]; exact it_rng (n := 30) rfl B.range (vr 0 rfl) (by omega) (by omega)) (pg_name (i := 2) sc_ldeep.nd rfl (.inl rfl)) (fun _ _ => tg_name) ⟨.no, rfl⟩ ?_ ?_)
  · rintro i d u hi ⟨u2, rfl⟩
    refine sd_one (sd_asg 1 sc_ldeep.nd rfl (.inl rfl) (pd_tup (ds := [deepD i]) (ac (vr 1 rfl) pma_nil) (by show 1 ≤ sizeLine; decide)) ?_)
    rintro r rfl
    exact ⟨_, rfl⟩
  · rintro u ⟨u2, rfl⟩
    rw [idxL_len]
    exact sd_one (sd_ret (vr 1 rfl) fun r hr => hr)
/-! ### _law_sums -/
def partsD (c h : Int) (ds : List Deed) : PyData := .tuple [.int c, .int h, dsD ds]
def aheadS (ds : List Deed) (l : List Int) (i : Int) : Bool := match (heldL ds l).head? with
  | none => true
  | some k => decide (i < k)
def sumsA (h : Int) (ds : List Deed) (l : List Int) (is : List Int) : List (Int × Int) := (is.filter (aheadS ds l)).map fun i => (i, frontS h ds l i)
def sumsS (h : Int) (ds : List Deed) (l : List Int) : List (Int × Int) := sumsA h ds l (othersL ds l) ++ match (heldL ds l).head? with
  | none => []
  | some k => [(k, h - (fstAt ds k).getD 0 + sumN ds (othersL ds l))]
theorem putI_new {l : List (Int × Int)} {k v : Int} (h : k ∉ l.map (·.1)) : putI l k v = l ++ [(k, v)] := by
  unfold putI
  rw [if_neg]
  intro z
  obtain ⟨p, hp, e⟩ := List.any_eq_true.mp z
  exact h (List.mem_map.mpr ⟨p, hp, of_decide_eq_true e⟩)
theorem putI_snoc {l : List (Int × Int)} {k v w : Int} (h : k ∉ l.map (·.1)) : putI (l ++ [(k, v)]) k w = l ++ [(k, w)] := by
  unfold putI
  rw [if_pos (List.any_eq_true.mpr ⟨(k, v), List.mem_append.mpr (.inr List.mem_cons_self), decide_eq_true rfl⟩), List.map_append]
  congr 1
  · conv => rhs; rw [← List.map_id l]
    apply List.map_congr_left
    intro p hp
    rw [if_neg (fun e => h (List.mem_map.mpr ⟨p, hp, e⟩))]
    rfl
  · show [if k = k then (k, w) else (k, v)] = _
    rw [if_pos rfl]
theorem idxL_nodup (n : Nat) : (idxL n).Nodup := List.Pairwise.map _ (fun a b h z => h (Int.ofNat.inj z)) List.nodup_range
theorem others_nodup (ds : List Deed) (l : List Int) : (othersL ds l).Nodup := (idxL_nodup _).sublist List.filter_sublist
theorem others_len (ds : List Deed) (l : List Int) : (othersL ds l).length ≤ ds.length := Nat.le_trans (List.length_filter_le _ _) (by rw [idxL_len]; exact Nat.le_refl _)
theorem sumsA_keys {h : Int} {ds : List Deed} {l is : List Int} {k : Int} (hk : k ∉ is) : k ∉ (sumsA h ds l is).map (·.1) := fun z => by
  obtain ⟨p, hp, e⟩ := List.mem_map.mp z
  obtain ⟨i, hi, e2⟩ := List.mem_map.mp hp
  subst e2 e
  exact hk (List.mem_filter.mp hi).1
theorem sumsA_len {h : Int} {ds : List Deed} {l is : List Int} : (sumsA h ds l is).length ≤ is.length := by
  unfold sumsA; rw [List.length_map]; exact List.length_filter_le _ _
theorem sumsA_snoc (h : Int) (ds : List Deed) (l is : List Int) (i : Int) : sumsA h ds l (is ++ [i]) = if aheadS ds l i then sumsA h ds l is ++ [(i, frontS h ds l i)] else sumsA h ds l is := by
  unfold sumsA
  rw [List.filter_append]
  cases q : aheadS ds l i with
  | true => rw [List.filter_cons_of_pos q, List.map_append]; rfl
  | false => rw [List.filter_cons_of_neg (by rw [q]; exact Bool.false_ne_true), List.filter_nil, List.append_nil]; rfl
abbrev s_lsums : Stmt := top 43
abbrev n_lsums : List Str := ["_law_parts", "_law_lot", "_law_cells", "_law_head", "_law_deeds", "_law_held", "_law_others", "_law_found", "_law_deed", "_law_elders", "_law_one"]
theorem sc_lsums : FnScope n_lsums ["_law_parts", "_law_lot"] (defScope s_lsums) := ⟨rfl, rfl, rfl, by decide +kernel, rfl, by decide +kernel, by decide +kernel⟩
def ph_lsums (rs : List Dt) (r : Kd) : Prop := ∃ c h ds l, rs = [.d (partsD c h ds), .d (lotD l)] ∧ ds.length ≤ 200 ∧ LotOk l ds.length ∧ r = kdI (sumsS h ds l)
theorem c_lsums (F : HasFn K mg "_law_sums" s_lsums ["_law_parts", "_law_lot"]) (B : Bt mg) : Cal P w K mg base "_law_sums" 1 ["_law_parts", "_law_lot"] (spP 2 fun rs r => ∃ ks, r = .dk ks ∧ ph_lsums rs ks) := by
  refine cal_pureD 7 F sc_lsums rfl fun f cdv A outer s H E hr rs r hl ⟨c, h, ds, l, e1, hds, lo, e2⟩ => ?_
  subst e1 e2
  have hu : (A.deeper (envOfC "_law_sums" (defScope s_lsums) s.heap.objs.size f cdv)).units + 1 < cLine := hu_of hr
  have h64 : ∀ {n : Nat}, n ≤ 200 → n < sizeLine := fun q => Nat.lt_of_le_of_lt q (by decide)
  have ol : (othersL ds l).length ≤ 200 := Nat.le_trans (others_len ds l) hds
  have ll : l.length ≤ 200 := Nat.le_trans (lot_len lo) hds
  refine sd_cons (sd_asgT (bs := [(2, .int c), (3, .int h), (4, dsD ds)]) (vr 0 rfl) (pg_tup (n := 3) rfl (pgs_cons (pg_name (i := 2) sc_lsums.nd rfl (.inl rfl)) (pgs_cons (pg_name (i := 3) sc_lsums.nd rfl (.inl rfl)) (pgs_cons (pg_name (i := 4) sc_lsums.nd rfl (.inr rfl)) pgs_nil)))) (tg_tup (tgs_cons tg_name (tgs_cons tg_name (tgs_cons tg_name tgs_nil))) rfl) ?_)
  -- held
  refine sd_cons (sd_lc1 (A := Int) (ds := l) (enc := PyData.int) (own := [("_law_deed", 8)]) (bs := fun d => [(8, .int d)]) (c := fun i => (fstAt ds i).isSome) (E := fun d x => x = .int d) 5 rfl sc_lsums.nd rfl rfl rfl (it_tup (vr 1 rfl)) (blkOk_by (N := n_lsums) (sc := defScope s_lsums) (by decide +kernel))
    (fun _ _ _ _ _ => pg_name (i := 8) sc_lsums.nd rfl (.inl rfl)) (fun _ _ => tg_name) ow1 (no1 rfl) (fun j hj _ _ _ _ _ => ?_) (fun j _ _ _ _ _ _ _ => (vr (r := .d (.int j)) 8 rfl).mono fun r hr => ⟨_, hr, rfl⟩) (h64 ll) fun xs hx => ?_)
  · obtain ⟨d', _, ef', _, ea'⟩ := deed_at (lo.2 j hj).1 (lo.2 j hj).2
    rw [ef', ← isN_F]
    exact ct (ix (ix (vr 4 rfl) (vr 8 rfl) (id_tup (d := encD d') ea')) pd_int (id_tup (d := encF d'.1) rfl)) pd_non cd_notN
  obtain rfl := pdr_int hx
  -- others
  refine sd_cons (sd_lc1 (A := Int) (ds := idxL ds.length) (enc := PyData.int) (own := [("_law_deed", 8)]) (bs := fun d => [(8, .int d)]) (c := fun i => !decide (i ∈ l)) (E := fun d x => x = .int d) 6 rfl sc_lsums.nd rfl rfl rfl (by rw [← idxL_rng]; exact it_rng (n := (ds.length : Nat)) rfl B.range (PD.as (lenT B.len (vr 4 rfl)) (by rw [List.length_map])) (by omega) (by omega)) (blkOk_by (N := n_lsums) (sc := defScope s_lsums) (by decide +kernel))
    (fun _ _ _ _ _ => pg_name (i := 8) sc_lsums.nd rfl (.inl rfl)) (fun _ _ => tg_name) ow1 (no1 rfl) (fun j hj _ _ _ _ _ => ct (vr 8 rfl) (vr 1 rfl) (cd_ninT j l)) (fun j _ _ _ _ _ _ _ => (vr (r := .d (.int j)) 8 rfl).mono fun r hr => ⟨_, hr, rfl⟩) (h64 (by rw [idxL_len]; exact hds)) fun xs hx => ?_)
  obtain rfl := pdr_int hx
  have hne : ∀ {k : Int}, (heldL ds l).head? = some k → 0 < (heldL ds l).length ∧ atI ((heldL ds l).map PyData.int) 0 = some (.int k) := fun {k} hk => by
    cases q : heldL ds l with
    | nil => rw [q] at hk; cases hk
    | cons a as =>
      rw [q] at hk
      cases hk
      exact ⟨Nat.succ_pos _, at_0 _ _⟩
  have nin : (heldL ds l).head? = none → (heldL ds l).length = 0 := fun hk => by
    cases q : heldL ds l with
    | nil => rfl
    | cons a as => rw [q] at hk; cases hk
  refine sd_cons (sd_newD 7 sc_lsums.nd rfl (.inl rfl) ?_)
  intro D oD
  refine sd_cons (sd_for (A := Int) (ds := othersL ds l) (enc := PyData.int) (bs := fun d => [(8, .int d)])
    (fun i t => ∃ u8 u9, t = [.v (.d (partsD c h ds)), .v (.d (lotD l)), .v (.d (.int c)), .v (.d (.int h)), .v (.d (dsD ds)), .v (.d (.list ((heldL ds l).map PyData.int))), .v (.d (.list ((othersL ds l).map PyData.int))), .dct D (kdI (sumsA h ds l ((othersL ds l).take i))), u8, u9, .no])
    PassesOwn.never rfl (it_lst (vr 6 rfl)) (pg_name (i := 8) sc_lsums.nd rfl (.inr rfl)) (fun _ _ => tg_name) ⟨.no, .no, rfl⟩ ?_ ?_)
  · rintro i d u hi ⟨u8, u9, rfl⟩
    have hin := others_in (List.mem_of_getElem? hi)
    obtain ⟨dd, hd, ef, en, ea⟩ := deed_at hin.1 hin.2.1
    have hkey : d ∉ (sumsA h ds l ((othersL ds l).take i)).map (·.1) := sumsA_keys fun z => by
      obtain ⟨j, hj, e⟩ := List.getElem_of_mem z
      rw [List.length_take] at hj
      rw [List.getElem_take] at e
      obtain ⟨h1, h2⟩ := List.getElem?_eq_some_iff.mp hi
      exact List.pairwise_iff_getElem.mp (others_nodup ds l) j i (by omega) h1 (by omega) (e.trans h2.symm)
    have hsz : (kdI (sumsA h ds l ((othersL ds l).take i))).length < sizeLine := by
      rw [kd_len]
      exact h64 (Nat.le_trans sumsA_len (Nat.le_trans (List.length_take_le' _ _) ol))
    have hsz2 : (kdI (sumsA h ds l ((othersL ds l).take i) ++ [(d, dd.2)])).length < sizeLine := by
      rw [kd_len, List.length_append]
      have := Nat.le_trans (sumsA_len (h := h) (ds := ds) (l := l)) (Nat.le_trans (List.length_take_le' i _) ol)
      exact Nat.lt_of_le_of_lt (Nat.succ_le_succ this) (by decide)
    have esn := sumsA_snoc h ds l ((othersL ds l).take i) d
    rw [← take_succ hi] at esn
    refine sd_one (sd_if (P := fun b => b = aheadS ds l d) (PWD.tst ?_) (fun q => ?_) fun q => sd_nil ?_)
    · unfold aheadS
      cases hk : (heldL ds l).head? with
      | some k =>
        refine pwd_or (P := fun b => b = false) (PMT.mono (ct (lenL B.len (vr 5 rfl)) pd_int (cd_eqI _ _)) fun b hb => ?_) (fun z => by cases z) fun _ => pwd_or1 (ct (vr (r := .d (.int d)) 8 rfl) (ix (vr 5 rfl) pd_int (id_lst (hne hk).2)) (cd_lt d k))
        rw [hb]; apply decide_eq_false; rw [List.length_map]; have := (hne hk).1; show ¬ ((heldL ds l).length : Int) = 0; omega
      | none =>
        refine pwd_or (P := fun b => b = true) (PMT.mono (ct (lenL B.len (vr 5 rfl)) pd_int (cd_eqI _ _)) fun b hb => ?_) (fun _ => rfl) fun z => by cases z
        rw [hb]; apply decide_eq_true; rw [List.length_map]; have := nin hk; show ((heldL ds l).length : Int) = 0; omega
    · rw [← q, if_pos rfl] at esn
      refine sd_cons (putR (j := d) (d := .int dd.2) true 7 hu (rf_nm 7 rfl) rfl (ix (ix (vr 4 rfl) (vr (r := .d (.int d)) 8 rfl) (id_tup (d := encD dd) ea)) pd_int (id_tup (d := .int dd.2) rfl)) (vr 8 rfl) hsz ?_)
      rw [put_kd, putI_new hkey]
      refine sd_one (sd_if (ct (ix (ix (vr 4 rfl) (vr (r := .d (.int d)) 8 rfl) (id_tup (d := encD dd) ea)) pd_int (id_tup (d := encF dd.1) rfl)) pd_non cd_notN) (fun q2 => ?_) fun q2 => sd_nil ?_)
      · rw [isN_F] at q2
        obtain ⟨fi, hf⟩ := Option.isSome_iff_exists.mp q2.symm
        refine sd_cons (sd_lc1 (A := Int) (ds := othersL ds l) (enc := PyData.int) (own := [("_law_one", 10)]) (bs := fun d => [(10, .int d)]) (c := fun j => decide (j ≤ d)) (E := fun d x => x = .int d) 9 rfl sc_lsums.nd rfl rfl rfl (it_lst (vr 6 rfl)) (blkOk_by (N := n_lsums) (sc := defScope s_lsums) (by decide +kernel))
          (fun _ _ _ _ _ => pg_name (i := 10) sc_lsums.nd rfl (.inl rfl)) (fun _ _ => tg_name) ow1 (no1 rfl) (fun j hj _ _ _ _ _ => ct (vr 10 rfl) (vr (r := .d (.int d)) 8 rfl) (cd_le j d)) (fun j _ _ _ _ _ _ _ => (vr (r := .d (.int j)) 10 rfl).mono fun r hr => ⟨_, hr, rfl⟩) (h64 ol) fun xs hx => ?_)
        obtain rfl := pdr_int hx
        refine sd_one (putR (j := d) (d := .int (h - fi + sumN ds ((othersL ds l).filter fun j => decide (j ≤ d)))) true 7 hu (rf_nm 7 rfl) rfl (bn (x := .int (h - fi)) (y := .int (sumN ds ((othersL ds l).filter fun j => decide (j ≤ d)))) (bn (y := .int fi) (vr 3 rfl) (PD.as (d := encF dd.1) (ix (ix (vr 4 rfl) (vr (r := .d (.int d)) 8 rfl) (id_tup (d := encD dd) ea)) pd_int (id_tup (d := encF dd.1) rfl)) (by rw [hf]; rfl)) (bd_sub h fi)) (pd_callB (x := "sum") rfl B.sum (by decide +kernel) (ac ((pd_lc0 (A := Int) (ds := (othersL ds l).filter fun j => decide (j ≤ d)) (enc := PyData.int) (own := [("_law_one", 10)]) (bs := fun d => [(10, .int d)]) (f := fun i => .int (needAt ds i)) rfl sc_lsums.nd (it_lst (vr 9 rfl)) (blkOk_by (N := n_lsums) (sc := defScope s_lsums) (by decide +kernel))
          (fun _ _ _ _ _ => pg_name (i := 10) sc_lsums.nd rfl (.inl rfl)) (fun _ _ => tg_name) ow1 (no1 rfl) (fun j hj _ _ _ _ _ => ?_) (h64 (Nat.le_trans (List.length_filter_le _ _) ol))).as (sum_as ds _)) pma_nil) (ll_sum rfl _)) (bd_add _ _)) (vr 8 rfl) hsz2 ?_)
        · obtain ⟨d', _, _, en', ea'⟩ := deed_at (others_in (List.mem_filter.mp hj).1).1 (others_in (List.mem_filter.mp hj).1).2.1
          rw [en']
          exact ix (ix (vr 4 rfl) (vr 10 rfl) (id_tup (d := encD d') ea')) pd_int (id_tup (d := .int d'.2) rfl)
        rw [put_kd, putI_snoc hkey]
        refine ⟨.v (.d (.int d)), .v (.d (.list (((othersL ds l).filter fun j => decide (j ≤ d)).map PyData.int))), ?_⟩
        rw [esn]
        have e : frontS h ds l d = h - fi + sumN ds ((othersL ds l).filter fun j => decide (j ≤ d)) := by
          unfold frontS
          rw [ef, hf]
        rw [e]
        rfl
      · rw [isN_F] at q2
        have hf : dd.1 = none := by
          cases z : dd.1 with
          | none => rfl
          | some x => rw [z] at q2; cases q2
        refine ⟨.v (.d (.int d)), u9, ?_⟩
        rw [esn]
        have e : frontS h ds l d = dd.2 := by
          unfold frontS
          rw [ef, hf, en]
        rw [e]
        rfl
    · rw [← q, if_neg Bool.false_ne_true] at esn
      refine ⟨.v (.d (.int d)), u9, ?_⟩
      rw [esn]
      rfl
  · rintro u ⟨u8, u9, rfl⟩
    rw [List.take_length]
    refine sd_cons (sd_if (P := fun b => b = (heldL ds l).head?.isSome) (PMT.mono (ct (lenL B.len (vr 5 rfl)) pd_int (cd_gt _ _)) fun b hb => ?_) (fun q => ?_) fun q => sd_nil ?_)
    · rw [hb, List.length_map]
      cases hk : (heldL ds l).head? with
      | some k => exact decide_eq_true (by have := (hne hk).1; omega)
      | none => exact decide_eq_false (by have := nin hk; omega)
    · obtain ⟨k, hk⟩ := Option.isSome_iff_exists.mp q.symm
      have hkm := List.mem_of_mem_head? hk
      have hkl : k ∈ l := (List.mem_filter.mp hkm).1
      obtain ⟨dd, hd, ef, en, ea⟩ := deed_at (lo.2 k hkl).1 (lo.2 k hkl).2
      obtain ⟨fi, hf⟩ := Option.isSome_iff_exists.mp (List.mem_filter.mp hkm).2
      have hf1 : dd.1 = some fi := ef ▸ hf
      have hkey : k ∉ (sumsA h ds l (othersL ds l)).map (·.1) := sumsA_keys fun z => (others_in z).2.2 hkl
      refine sd_one (putR (j := k) (d := .int (h - fi + sumN ds (othersL ds l))) true 7 hu (rf_nm 7 rfl) rfl (bn (x := .int (h - fi)) (y := .int (sumN ds (othersL ds l))) (bn (y := .int fi) (vr 3 rfl) (PD.as (d := encF dd.1) (ix (ix (vr 4 rfl) (ix (vr 5 rfl) pd_int (id_lst (hne hk).2)) (id_tup (d := encD dd) ea)) pd_int (id_tup (d := encF dd.1) rfl)) (by rw [hf1]; rfl)) (bd_sub h fi)) (pd_callB (x := "sum") rfl B.sum (by decide +kernel) (ac ((pd_lc0 (A := Int) (ds := othersL ds l) (enc := PyData.int) (own := [("_law_one", 10)]) (bs := fun d => [(10, .int d)]) (f := fun i => .int (needAt ds i)) rfl sc_lsums.nd (it_lst (vr 6 rfl)) (blkOk_by (N := n_lsums) (sc := defScope s_lsums) (by decide +kernel))
        (fun _ _ _ _ _ => pg_name (i := 10) sc_lsums.nd rfl (.inl rfl)) (fun _ _ => tg_name) ow1 (no1 rfl) (fun j hj _ _ _ _ _ => ?_) (h64 ol)).as (sum_as ds _)) pma_nil) (ll_sum rfl _)) (bd_add _ _)) (ix (vr 5 rfl) pd_int (id_lst (hne hk).2)) (by rw [kd_len]; exact h64 (Nat.le_trans sumsA_len ol)) ?_)
      · obtain ⟨d', _, _, en', ea'⟩ := deed_at (others_in hj).1 (others_in hj).2.1
        rw [en']
        exact ix (ix (vr 4 rfl) (vr 10 rfl) (id_tup (d := encD d') ea')) pd_int (id_tup (d := .int d'.2) rfl)
      rw [put_kd, putI_new hkey]
      have e : sumsS h ds l = sumsA h ds l (othersL ds l) ++ [(k, h - fi + sumN ds (othersL ds l))] := by
        unfold sumsS
        rw [hk]
        show _ ++ [(k, h - (fstAt ds k).getD 0 + sumN ds (othersL ds l))] = _
        rw [hf]
        rfl
      rw [← e]
      exact sd_one (sd_ret (pm_ad 7 rfl) fun r hr => ⟨D, hr, rfl⟩)
    · have hk : (heldL ds l).head? = none := by
        cases z : (heldL ds l).head? with
        | none => rfl
        | some x => rw [z] at q; cases q
      have e : sumsS h ds l = sumsA h ds l (othersL ds l) := by
        unfold sumsS
        rw [hk, List.append_nil]
      rw [← e]
      exact sd_one (sd_ret (pm_ad 7 rfl) fun r hr => ⟨D, hr, rfl⟩)
end
end K33

-- part T16
set_option Elab.async false
set_option maxRecDepth 100000
set_option maxHeartbeats 4000000
set_option linter.all false
namespace Fw
open PySem PySem.Spec PyProof.Rows L2
/-! ### x = dict([(k, v), ..]) -/
theorem merge_new : ∀ (xs acc : List (Key × V)), (acc ++ xs).map (·.1) |>.Nodup → mergeK acc xs = acc ++ xs
  | [], acc, _ => by rw [List.append_nil]; rfl
  | p :: xs, acc, h => by
    have hp : p.1 ∉ acc.map (·.1) := fun z => by
      rw [List.map_append, List.map_cons] at h
      exact (List.nodup_append.mp h).2.2 _ z _ List.mem_cons_self rfl
    have e : mergeK acc (p :: xs) = mergeK (putK acc p.1 p.2) xs := rfl
    rw [e, putK_new p.2 (valV_none hp), merge_new xs _ (by rw [List.append_assoc]; exact h), List.append_assoc]
    rfl
def encP (p : Int × Int) : PyData := .tuple [.int p.1, .int p.2]
theorem pairs_of {K : PySem.W.Frag} {F H : Hp} (e : Same F H) : ∀ {ks : List (Int × Int)} {vs : List V}, DqA F vs (ks.map encP) → ∃ (ps : List Addr) (kvs : List (Key × V)), vs = ps.map V.ref ∧ Paired (fun p kv => SqT K H p [kV kv.1, kv.2]) ps kvs ∧ KvR F kvs (kdI ks)
  | [], _, h => by cases h; exact ⟨[], [], rfl, .nil, .nil⟩
  | k :: ks, _, h => by
    cases h with
    | cons h1 h2 =>
      obtain ⟨ps, kvs, e1, e2, e3⟩ := pairs_of e h2
      cases h1 with
      | @tup a xs _ g ha =>
        cases ha with
        | cons ha hb => cases hb with
          | cons hb hc =>
            cases hc
            cases ha
            cases hb
            exact ⟨a :: ps, (Sum.inl k.1, .int k.2) :: kvs, by rw [e1]; rfl, .cons (SqT.of (e _ _ g)) e2, .cons ⟨rfl, .int _⟩ e3⟩
section
variable {X : Cx} {e : Expr} {t : Ty} {R : Po} {pos p p3 p4 : Pos} {x : Str}
theorem sd_dictOf {ks : List (Int × Int)} (i : Nat) (hc : X.calm = true) (hN : X.N.Nodup) (hi : X.N[i]? = some x) (hx : Loc X.env.scope x) (hm : X.mg "dict" = none) (he : PD X e t (.list (ks.map encP))) (hnd : (ks.map (·.1)).Nodup) (k : ∀ D, D ∉ ows t → R.nx (t.set i (.dct D (kdI ks)))) (hg : Gl X "dict" := by rfl) (hs : swapsWith (.Call (.Name "dict" p3) [e] [] p4) (some (.Name x p)) pos.line X.env = pure false := by rfl)
    (hst : starEach [e] X.env = (false, eval e X.env) :: starEach [] X.env := by rfl) (hf : X.fn x = true ∨ X.env.scope.names.lookup x = some .local := by first | exact .inl rfl | exact .inr rfl) : SD X (.Assign [.Name x p] (.Call (.Name "dict" p3) [e] [] p4) pos) t R := fun N sg F H Ds S q =>
  use_s (ps_set hN hi hx (pe_callTy (call_dictP hc) hg hm (by decide +kernel) (pa_cons (pe_of X e) pa_nil hst) (by decide) (by decide) hst rfl) hs hf) (he N sg F H _ S fun v F1 H1 r1 S1 s1 d1 hr1 => by
    subst hr1
    cases d1 with
    | @lst a vs _ g h =>
      obtain ⟨ps, kvs, e1, e2, e3⟩ := pairs_of (K := X.K) S1.fh h
      have ek : kvs.map (·.1) = ks.map fun p => (Sum.inl p.1 : Key) := by
        rw [KvR.fst e3]
        unfold kdI
        rw [List.map_map]; rfl
      have em : mergeK [] kvs = kvs := merge_new kvs [] (by
        rw [List.nil_append, ek]
        have : (ks.map fun p => (Sum.inl p.1 : Key)) = (ks.map (·.1)).map Sum.inl := by rw [List.map_map]; rfl
        rw [this]
        exact List.Pairwise.map _ (fun a b h z => h (Sum.inl.inj z)) hnd)
      refine ⟨a, ps, kvs, rfl, by rw [← e1]; exact SqL.of (S1.fh _ _ g), e2, fun l hl => ?_⟩
      obtain ⟨h1, h2, h3⟩ := S1.new_ hl
      rw [em]
      exact q.nx _ F1 _ _ (StO.own (s := .dct l (kdI ks)) (S1.grow (Gr.lay S1.fh hl)) rfl h1 h3 ⟨rfl, h2, _, upd_same, e3⟩) (k l h3))
end
end Fw
namespace K33
open PySem PySem.Spec PyProof.Rows L2 Fw
/-! ### _law_is_course -/
theorem stepB_at {L : Led} {u : Str} {k v : Int} (r : List PyData) (h : getI L.rest k = some v) : stepB L (.tuple (.str u :: .int k :: r)) = match r with
    | [] => if u == sGo then (decide (v = 0), goL L k) else (false, L)
    | [z] => if u == sWrite then (if fWithin z 1 v then match z with | .int n => (fitsB (wrL L k v n), wrL L k v n) | _ => (false, L) else (false, L)) else (false, L)
    | _ => (false, L) := by
  match r with
  | [] =>
    show (if u == sGo then match getI L.rest k with
      | some v => (decide (v = 0), goL L k)
      | none => (false, L) else (false, L)) = _
    rw [h]
  | [z] =>
    show tripB L (.str u) (.int k) z = _
    cases z with
    | int n =>
      show (if u == sWrite then match getI L.rest k with
        | some v => if 1 ≤ n ∧ n ≤ v then (fitsB (wrL L k v n), wrL L k v n) else (false, L)
        | none => (false, L) else (false, L)) = (if u == sWrite then (if (decide (1 ≤ n) && decide (n ≤ v)) = true then _ else _) else _)
      rw [h]
      cases u == sWrite with
      | false => rfl
      | true =>
        show (if 1 ≤ n ∧ n ≤ v then _ else _) = _
        by_cases q : 1 ≤ n ∧ n ≤ v
        · rw [if_pos q, if_pos rfl, if_pos (by simp [q.1, q.2])]
        · rw [if_neg q, if_pos rfl, if_neg (by intro z; simp at z; exact q z)]
    | _ => cases (u == sWrite) <;> rfl
  | _ :: _ :: _ => rfl
theorem stepB_nokey {L : Led} {u : Str} {k : Int} (r : List PyData) (h : getI L.rest k = none) : stepB L (.tuple (.str u :: .int k :: r)) = (false, L) := by
  match r with
  | [] =>
    show (if u == sGo then match getI L.rest k with
      | some v => (decide (v = 0), goL L k)
      | none => (false, L) else (false, L)) = _
    rw [h]
    cases (u == sGo) <;> rfl
  | [z] =>
    show tripB L (.str u) (.int k) z = _
    cases z with
    | int n =>
      show (if u == sWrite then match getI L.rest k with
        | some v => if 1 ≤ n ∧ n ≤ v then (fitsB (wrL L k v n), wrL L k v n) else (false, L)
        | none => (false, L) else (false, L)) = _
      rw [h]
      cases (u == sWrite) <;> rfl
    | _ => rfl
  | _ :: _ :: _ => rfl
theorem stepB_noint {L : Led} {a y : PyData} (r : List PyData) (h : ∀ k, y ≠ .int k) : stepB L (.tuple (a :: y :: r)) = (false, L) := by
  match r with
  | [] =>
    show pairB L a y = _
    cases a <;> first | rfl | (cases y <;> first | rfl | exact absurd rfl (h _))
  | [z] =>
    show tripB L a y z = _
    cases a <;> first | rfl | (cases y <;> first | rfl | exact absurd rfl (h _))
  | _ :: _ :: _ => rfl
def KeysIn (L : Led) (n : Nat) : Prop := ∀ p ∈ L.rest, 0 ≤ p.1 ∧ p.1 < n
theorem getI_mem {l : List (Int × Int)} {k v : Int} (h : getI l k = some v) : (k, v) ∈ l := by
  unfold getI at h
  cases q : l.find? (fun p => decide (p.1 = k)) with
  | none => rw [q] at h; cases h
  | some p =>
    rw [q] at h
    have e1 := List.mem_of_find?_eq_some q
    have e2 : p.1 = k := by simpa using List.find?_some q
    have e3 : p.2 = v := Option.some.inj h
    rw [← e2, ← e3]
    exact e1
theorem keys_step {L : Led} {n : Nat} (x : PyData) (h : KeysIn L n) : KeysIn (stepB L x).2 n := by
  have kput : ∀ {k v w : Int}, getI L.rest k = some w → ∀ p ∈ putI L.rest k v, 0 ≤ p.1 ∧ p.1 < n := by
    intro k v w hk p hp
    unfold putI at hp
    split at hp
    · obtain ⟨q, hq, e⟩ := List.mem_map.mp hp
      subst e
      by_cases z : q.1 = k
      · rw [if_pos z]; exact h q hq
      · rw [if_neg z]; exact h q hq
    · rcases List.mem_append.mp hp with z | z
      · exact h p z
      · rw [List.mem_singleton.mp z]; exact h (k, w) (getI_mem hk)
  have pair : ∀ a y, KeysIn (pairB L a y).2 n := by
    intro a y
    unfold pairB
    split
    · split
      · split
        · exact fun p hp => h p (List.mem_filter.mp hp).1
        · exact h
      · exact h
    · exact h
  have trip : ∀ a y z, KeysIn (tripB L a y z).2 n := by
    intro a y z
    unfold tripB
    split
    · split
      · split
        · rename_i v hv
          split
          · exact kput hv
          · exact h
        · exact h
      · exact h
    · exact h
  match x with
  | .tuple [a, y] => exact pair a y
  | .tuple [a, y, z] => exact trip a y z
  | .tuple [] => exact h
  | .tuple [_] => exact h
  | .tuple (_ :: _ :: _ :: _ :: _) => exact h
  | .none => exact h
  | .bool _ => exact h
  | .int _ => exact h
  | .str _ => exact h
  | .list _ => exact h
  | .dict _ => exact h
def lc1 (n : Int) : PyData → Bool
  | .tuple (_ :: y :: _) => fWithin y 0 (n - 1)
  | _ => false
def wcond (v : Int) : List PyData → Bool
  | [z] => fWithin z 1 v
  | _ => false
theorem lc1_true {n : Int} {x : PyData} (hx : StepOk x) (h : lc1 n x = true) : ∃ u k r, x = .tuple (.str u :: .int k :: r) ∧ 0 ≤ k ∧ k ≤ n - 1 := by
  match x, hx, h with
  | .tuple (a :: y :: r), hx, h =>
    obtain ⟨u, e⟩ := hx a (y :: r) rfl
    obtain ⟨k, e2, h1, h2⟩ := with_int (show fWithin y 0 (n - 1) = true from h)
    exact ⟨u, k, r, by rw [e, e2], h1, h2⟩
theorem lc1_false {n : Nat} {L : Led} {x : PyData} (hx : StepOk x) (hk : KeysIn L n) (h : lc1 n x = false) : (stepB L x).1 = false := by
  match x, hx, h with
  | .tuple (a :: y :: r), hx, h =>
    rcases int_cls y with ⟨k, e⟩ | ⟨_, hy⟩
    · subst e
      obtain ⟨u, e⟩ := hx a (.int k :: r) rfl
      subst e
      have h : (decide (0 ≤ k) && decide (k ≤ (n : Int) - 1)) = false := h
      have hn : getI L.rest k = none := by
        cases q : getI L.rest k with
        | none => rfl
        | some v =>
          have := hk _ (getI_mem q)
          rw [decide_eq_true this.1, decide_eq_true (show k ≤ (n : Int) - 1 by have := this.2; omega)] at h
          cases h
      rw [stepB_nokey r hn]
    · rw [stepB_noint r hy]
  | .tuple [], _, _ => rfl
  | .tuple [_], _, _ => rfl
  | .none, _, _ => rfl
  | .bool _, _, _ => rfl
  | .int _, _, _ => rfl
  | .str _, _, _ => rfl
  | .list _, _, _ => rfl
  | .dict _, _, _ => rfl
theorem fits_put {L : Led} {k v n : Int} : fitsB (wrL L k v n) = decide ((wrL L k v n).h - minL ((wrL L k v n).firsts.map (·.2)) ≤ L.c) ∧ (wrL L k v n).firsts.map (·.2) ≠ [] := by
  have hne : (wrL L k v n).firsts ≠ [] := by
    show (if (getI L.firsts k).isSome then L.firsts else putI L.firsts k L.h) ≠ []
    split
    · rename_i h
      intro z
      rw [z] at h
      cases h
    · unfold putI
      split
      · rename_i h
        intro z
        have z := congrArg List.length z
        rw [List.length_map] at z
        have := List.length_eq_zero_iff.mp z
        rw [this] at h
        cases h
      · intro z
        have z := congrArg List.length z
        rw [List.length_append] at z
        simp at z
  refine ⟨?_, fun z => hne (List.map_eq_nil_iff.mp z)⟩
  unfold fitsB
  rw [decide_eq_false (fun z => hne (List.length_eq_zero_iff.mp (by omega))), Bool.false_or]
  rfl
/-- the list's items at its turns: all good so far -/
def goodTo (L : Led) (ss : List PyData) (i : Nat) : Prop := ∀ j x, j < i → ss[j]? = some x → (stepB (stL L ss j) x).1 = true
theorem allB_true {L : Led} {ss : List PyData} (h : goodTo L ss ss.length) : allB L ss = true := by
  unfold allB
  rw [List.all_map, List.all_eq_true]
  rintro ⟨x, j⟩ hp
  have hp := List.mem_zipIdx_iff_getElem?.mp hp
  exact h j x (List.getElem?_eq_some_iff.mp hp).1 hp
theorem allB_false {L : Led} {ss : List PyData} {i : Nat} {x : PyData} (hi : ss[i]? = some x) (h : (stepB (stL L ss i) x).1 = false) : allB L ss = false := by
  unfold allB
  rw [List.all_map, List.all_eq_false]
  exact ⟨(x, i), List.mem_zipIdx_iff_getElem?.mpr hi, by show ¬ (stepB (stL L ss i) x).1 = true; rw [h]; exact Bool.false_ne_true⟩
section
variable {P : Program} {w : World} {K : PySem.W.Frag} {mg : Str → Option Value} {base : Heap}
theorem zip_idx (ds : List Deed) : ds.zipIdx.map (fun p => (p.2 : Int)) = idxL ds.length := by
  have e : (ds.zipIdx.map fun p => (p.2 : Int)) = (ds.zipIdx.map Prod.snd).map fun i : Nat => (i : Int) := by rw [List.map_map]; rfl
  rw [e, List.zipIdx_map_snd]
  unfold idxL
  rw [List.range_eq_range']
theorem zip_need {ds : List Deed} {p : Deed × Nat} (hp : p ∈ ds.zipIdx) : needAt ds (p.2 : Int) = p.1.2 ∧ fstAt ds (p.2 : Int) = p.1.1 := by
  have h := List.mem_zipIdx_iff_getElem?.mp hp
  unfold needAt fstAt
  rw [Int.toNat_natCast, h]
  exact ⟨rfl, rfl⟩
theorem rest0_eq (ds : List Deed) (l : List Int) : rest0 ds l = ((idxL ds.length).filter fun i => !decide (i ∈ l)).map fun i => (i, needAt ds i) := by
  unfold rest0
  rw [← zip_idx, List.filter_map, List.map_map]
  apply List.map_congr_left
  intro p hp
  show _ = ((p.2 : Int), needAt ds (p.2 : Int))
  rw [(zip_need (List.mem_filter.mp hp).1).1]
theorem firsts0_eq (ds : List Deed) : firsts0 ds = ((idxL ds.length).filter fun i => (fstAt ds i).isSome).map fun i => (i, (fstAt ds i).getD 0) := by
  unfold firsts0
  rw [← zip_idx, List.filter_map, List.map_map]
  have ef : List.filter (fun p : Deed × Nat => p.1.1.isSome) ds.zipIdx = List.filter ((fun i : Int => (fstAt ds i).isSome) ∘ fun p : Deed × Nat => (p.2 : Int)) ds.zipIdx := by
    apply List.filter_congr
    intro p hp
    show _ = (fstAt ds (p.2 : Int)).isSome
    rw [(zip_need hp).2]
  rw [ef]
  apply List.map_congr_left
  intro p hp
  show _ = ((p.2 : Int), (fstAt ds (p.2 : Int)).getD 0)
  rw [(zip_need (List.mem_filter.mp hp).1).2]
theorem rest0_keys (c h : Int) (ds : List Deed) (l : List Int) : KeysIn (led0 c h ds l) ds.length := by
  intro p hp
  have hp : p ∈ rest0 ds l := hp
  rw [rest0_eq] at hp
  obtain ⟨i, hi, e⟩ := List.mem_map.mp hp
  subst e
  exact idxL_in (List.mem_filter.mp hi).1
theorem keys_st {c h : Int} {ds : List Deed} {l : List Int} (ss : List PyData) : ∀ i, i ≤ ss.length → KeysIn (stL (led0 c h ds l) ss i) ds.length
  | 0, _ => rest0_keys c h ds l
  | i + 1, hi => by
    have e : ss[i]? = some ss[i] := List.getElem?_eq_getElem hi
    rw [stL_succ e]
    exact keys_step _ (keys_st ss i (Nat.le_of_succ_le hi))
theorem stepB_c (L : Led) (x : PyData) : (stepB L x).2.c = L.c := by
  have pair : ∀ a y, (pairB L a y).2.c = L.c := by
    intro a y
    unfold pairB
    split
    · split
      · split <;> rfl
      · rfl
    · rfl
  have trip : ∀ a y z, (tripB L a y z).2.c = L.c := by
    intro a y z
    unfold tripB
    split
    · split
      · split
        · split <;> rfl
        · rfl
      · rfl
    · rfl
  match x with
  | .tuple [a, y] => exact pair a y
  | .tuple [a, y, z] => exact trip a y z
  | .tuple [] => rfl
  | .tuple [_] => rfl
  | .tuple (_ :: _ :: _ :: _ :: _) => rfl
  | .none => rfl
  | .bool _ => rfl
  | .int _ => rfl
  | .str _ => rfl
  | .list _ => rfl
  | .dict _ => rfl
theorem stL_c (L : Led) (ss : List PyData) : ∀ i, i ≤ ss.length → (stL L ss i).c = L.c
  | 0, _ => rfl
  | i + 1, hi => by
    have e : ss[i]? = some ss[i] := List.getElem?_eq_getElem hi
    rw [stL_succ e, stepB_c]
    exact stL_c L ss i (Nat.le_of_succ_le hi)
theorem encP_map (is : List Int) (f : Int → Int) : PyData.list (is.map fun i => .tuple [.int i, .int (f i)]) = .list ((is.map fun i => (i, f i)).map encP) := by rw [List.map_map]; rfl
abbrev s_lcourse : Stmt := top 44
abbrev n_lcourse : List Str := ["_law_parts", "_law_lot", "_law_thing", "_law_cells", "_law_head", "_law_deeds", "_law_rest", "_law_firsts", "_law_step", "_law_at"]
theorem sc_lcourse : FnScope n_lcourse ["_law_parts", "_law_lot", "_law_thing"] (defScope s_lcourse) := ⟨rfl, rfl, rfl, by decide +kernel, rfl, by decide +kernel, by decide +kernel⟩
def ph_lcourse (rs : List Dt) (r : Dt) : Prop := ∃ c h ds l y, rs = [.d (partsD c h ds), .d (lotD l), .d y] ∧ ds.length ≤ 200 ∧ CoOk y ∧ fitsB (led0 c h ds l) = true ∧ r = .d (.bool (courseP c h ds l y))
theorem c_lcourse (F : HasFn K mg "_law_is_course" s_lcourse ["_law_parts", "_law_lot", "_law_thing"]) (B : Bt mg) (C1 : Cal P w K mg base "_law_is_int" 1 ["_law_thing", "_law_least", "_law_most"] (spP 3 ph_is_within)) : Cal P w K mg base "_law_is_course" 2 ["_law_parts", "_law_lot", "_law_thing"] (spP 3 ph_lcourse) := by
  refine cal_pure F sc_lcourse rfl fun f cdv A outer s H E hr rs r hl ⟨c, h, ds, l, y, e1, hds, hy, hfit, e2⟩ => ?_
  subst e1 e2
  have hu : (A.deeper (envOfC "_law_is_course" (defScope s_lcourse) s.heap.objs.size f cdv)).units + 1 < cLine := hu_of hr
  have h64 : ∀ {n : Nat}, n ≤ 200 → n < sizeLine := fun q => Nat.lt_of_le_of_lt q (by decide)
  refine sd_cons (sd_if (pdt_not (PD.tst (isT B.isinstance B.tuple (vr 2 rfl)))) (fun q => ?_) fun q => sd_nil ?_)
  · have q : isTup y = false := by have q := q.symm; simpa using q
    refine sd_one (sd_ret pd_bl ?_)
    rintro r rfl
    rw [course_no q]
  obtain ⟨ss, rfl⟩ : ∃ ss, y = .tuple ss := by
    rcases isTup_cases y with h | ⟨h, _⟩
    · exact h
    · rw [h] at q; cases q
  obtain ⟨hs, hz⟩ := hy ss rfl
  have eC : courseP c h ds l (.tuple ss) = (allB (led0 c h ds l) ss && decide (((stL (led0 c h ds l) ss ss.length).rest.length : Int) = 0)) := by
    show (fitsB (led0 c h ds l) && _) = _
    rw [hfit, Bool.true_and]
  rw [eC]
  refine sd_cons (sd_asgT (bs := [(3, .int c), (4, .int h), (5, dsD ds)]) (vr 0 rfl) (pg_tup (n := 3) rfl (pgs_cons (pg_name (i := 3) sc_lcourse.nd rfl (.inl rfl)) (pgs_cons (pg_name (i := 4) sc_lcourse.nd rfl (.inl rfl)) (pgs_cons (pg_name (i := 5) sc_lcourse.nd rfl (.inr rfl)) pgs_nil)))) (tg_tup (tgs_cons tg_name (tgs_cons tg_name (tgs_cons tg_name tgs_nil))) rfl) ?_)
  -- rest
  refine sd_cons (sd_dictOf (ks := rest0 ds l) 6 rfl sc_lcourse.nd rfl (.inl rfl) B.dict (PD.as (pd_lc1 (A := Int) (ds := idxL ds.length) (enc := PyData.int) (own := [("_law_at", 9)]) (bs := fun d => [(9, .int d)]) (c := fun i => !decide (i ∈ l)) (f := fun i => .tuple [.int i, .int (needAt ds i)]) rfl sc_lcourse.nd (by rw [← idxL_rng]; exact it_rng (n := (ds.length : Nat)) rfl B.range (PD.as (lenT B.len (vr 5 rfl)) (by rw [List.length_map])) (by omega) (by omega)) (blkOk_by (N := n_lcourse) (sc := defScope s_lcourse) (by decide +kernel))
    (fun _ _ _ _ _ => pg_name (i := 9) sc_lcourse.nd rfl (.inl rfl)) (fun _ _ => tg_name) ow1 (no1 rfl) (fun j hj _ _ _ _ _ => ct (vr (r := .d (.int j)) 9 rfl) (vr 1 rfl) (cd_ninT j l)) (fun j hj _ _ _ _ _ _ => ?_) (h64 (by rw [idxL_len]; exact hds))) (by rw [encP_map, ← rest0_eq])) ?_ ?_)
  · obtain ⟨d', _, _, en', ea'⟩ := deed_at (idxL_in hj).1 (idxL_in hj).2
    rw [en']
    exact pd_tup (ds := [.int j, .int d'.2]) (ac (vr (r := .d (.int j)) 9 rfl) (ac (ix (ix (vr 5 rfl) (vr (r := .d (.int j)) 9 rfl) (id_tup (d := encD d') ea')) pd_int (id_tup (d := .int d'.2) rfl)) pma_nil)) (by show 2 ≤ sizeLine; decide)
  · rw [rest0_eq, List.map_map]
    exact (show (List.map (fun i : Int => i) ((idxL ds.length).filter fun i => !decide (i ∈ l))).Nodup by rw [List.map_id']; exact (idxL_nodup _).sublist List.filter_sublist)
  intro D1 o1
  -- firsts
  refine sd_cons (sd_dictOf (ks := firsts0 ds) 7 rfl sc_lcourse.nd rfl (.inl rfl) B.dict (PD.as (pd_lc1 (A := Int) (ds := idxL ds.length) (enc := PyData.int) (own := [("_law_at", 9)]) (bs := fun d => [(9, .int d)]) (c := fun i => (fstAt ds i).isSome) (f := fun i => .tuple [.int i, .int ((fstAt ds i).getD 0)]) rfl sc_lcourse.nd (by rw [← idxL_rng]; exact it_rng (n := (ds.length : Nat)) rfl B.range (PD.as (lenT B.len (vr 5 rfl)) (by rw [List.length_map])) (by omega) (by omega)) (blkOk_by (N := n_lcourse) (sc := defScope s_lcourse) (by decide +kernel))
    (fun _ _ _ _ _ => pg_name (i := 9) sc_lcourse.nd rfl (.inl rfl)) (fun _ _ => tg_name) ow1 (no1 rfl) (fun j hj _ _ _ _ _ => ?_) (fun j hj hc _ _ _ _ _ => ?_) (h64 (by rw [idxL_len]; exact hds))) (by rw [encP_map (f := fun i => (fstAt ds i).getD 0), ← firsts0_eq])) ?_ ?_)
  · obtain ⟨d', _, ef', _, ea'⟩ := deed_at (idxL_in hj).1 (idxL_in hj).2
    rw [ef', ← isN_F]
    exact ct (ix (ix (vr 5 rfl) (vr (r := .d (.int j)) 9 rfl) (id_tup (d := encD d') ea')) pd_int (id_tup (d := encF d'.1) rfl)) pd_non cd_notN
  · obtain ⟨d', _, ef', _, ea'⟩ := deed_at (idxL_in hj).1 (idxL_in hj).2
    obtain ⟨fi, hf⟩ := Option.isSome_iff_exists.mp hc
    rw [hf]
    have hf1 : d'.1 = some fi := ef' ▸ hf
    exact pd_tup (ds := [.int j, .int fi]) (ac (vr (r := .d (.int j)) 9 rfl) (ac (PD.as (d := encF d'.1) (ix (ix (vr 5 rfl) (vr (r := .d (.int j)) 9 rfl) (id_tup (d := encD d') ea')) pd_int (id_tup (d := encF d'.1) rfl)) (by rw [hf1]; rfl)) pma_nil)) (by show 2 ≤ sizeLine; decide)
  · rw [firsts0_eq, List.map_map]
    exact (show (List.map (fun i : Int => i) ((idxL ds.length).filter fun i => (fstAt ds i).isSome)).Nodup by rw [List.map_id']; exact (idxL_nodup _).sublist List.filter_sublist)
  intro D2 o2
  have eL0 : stL (led0 c h ds l) ss 0 = led0 c h ds l := rfl
  refine sd_cons (sd_for (A := PyData) (ds := ss) (enc := fun x => x) (bs := fun x => [(8, x)])
    (fun i t => ∃ u8, t = [.v (.d (partsD c h ds)), .v (.d (lotD l)), .v (.d (.tuple ss)), .v (.d (.int c)), .v (.d (.int (stL (led0 c h ds l) ss i).h)), .v (.d (dsD ds)), .dct D1 (kdI (stL (led0 c h ds l) ss i).rest), .dct D2 (kdI (stL (led0 c h ds l) ss i).firsts), u8, .no] ∧ goodTo (led0 c h ds l) ss i)
    PassesOwn.never rfl (by rw [List.map_id']; exact it_tup (vr 2 rfl)) (pg_name (i := 8) sc_lcourse.nd rfl (.inl rfl)) (fun _ _ => tg_name) ⟨.no, rfl, fun j x hj => absurd hj (Nat.not_lt_zero j)⟩ ?_ ?_)
  · rintro i x u hi ⟨u8, rfl, good⟩
    have hile : i ≤ ss.length := Nat.le_of_lt (List.getElem?_eq_some_iff.mp hi).1
    have z := stL_sz (led0 c h ds l) ss i hile
    have z1 : (led0 c h ds l).rest.length ≤ 200 := Nat.le_trans (rest0_len ds l) hds
    have z2 : (led0 c h ds l).firsts.length ≤ 200 := Nat.le_trans (firsts0_len ds) hds
    have hsz : (2 : Nat) ^ 20 + 200 < sizeLine := by decide
    have hx := hs x (List.mem_of_getElem? hi)
    have hk := keys_st (c := c) (h := h) (ds := ds) (l := l) ss i hile
    have ec := stL_c (led0 c h ds l) ss i hile
    have esucc := stL_succ (L := led0 c h ds l) hi
    generalize eL : stL (led0 c h ds l) ss i = L at *
    have hbad : (stepB L x).1 = false → ∀ r, r = Dt.d (.bool false) → r = .d (.bool (allB (led0 c h ds l) ss && decide (((stL (led0 c h ds l) ss ss.length).rest.length : Int) = 0))) := by
      rintro hb r rfl
      rw [allB_false hi (by rw [eL]; exact hb), Bool.false_and]
    have hgood : (stepB L x).1 = true → goodTo (led0 c h ds l) ss (i + 1) := by
      intro hb j y hj hy
      by_cases e : j = i
      · subst e
        rw [hi] at hy
        cases hy
        rw [eL]; exact hb
      · exact good j y (by omega) hy
    -- the first test
    refine sd_cons (sd_if (P := fun b => b = !lc1 ds.length x) ?_ (fun q => ?_) fun q => sd_nil ?_)
    · rcases isTup_cases x with ⟨xs, rfl⟩ | ⟨nt, _⟩
      · match xs with
        | a :: y :: r =>
          have hl2 : decide (((a :: y :: r).length : Int) < 2) = false := decide_eq_false (by simp only [List.length_cons]; omega)
          refine PMT.mono (PWD.tst (pdw_or (pdt_not (PD.tst (isT B.isinstance B.tuple (vr 8 rfl)))) fun _ => pdw_or (ct (lenT B.len (vr 8 rfl)) pd_int (cd_lt _ _)) fun _ => pwd_or1 (pdt_not (PD.tst (pd_cal C1 hr (ac (ix (vr 8 rfl) pd_int (id_tup (d := y) (by exact at_nat (by decide) rfl))) (ac pd_int (ac (bn (PD.as (lenT B.len (vr 5 rfl)) (by rw [List.length_map])) pd_int (bd_sub _ _)) pma_nil))) rfl ⟨y, 0, _, rfl, rfl⟩))))) fun b hb => ?_
          rw [hb, hl2]; rfl
        | [] => exact PWD.tst (pwd_or (P' := fun b => b = true) (pdt_not (PD.tst (isT B.isinstance B.tuple (vr 8 rfl)))) (fun _ => rfl) fun _ => pwd_or (P' := fun b => b = true) (ct (lenT B.len (vr 8 rfl)) pd_int (cd_lt _ _)) (fun _ => rfl) fun q => by cases q)
        | [a] => exact PWD.tst (pwd_or (P' := fun b => b = true) (pdt_not (PD.tst (isT B.isinstance B.tuple (vr 8 rfl)))) (fun _ => rfl) fun _ => pwd_or (P' := fun b => b = true) (ct (lenT B.len (vr 8 rfl)) pd_int (cd_lt _ _)) (fun _ => rfl) fun q => by cases q)
      · have e : lc1 ds.length x = false := by cases x <;> first | rfl | cases nt
        rw [e]
        exact PWD.tst (pwd_or (P' := fun b => b = true) (pdt_not (PD.tst (isT B.isinstance B.tuple (vr 8 rfl)))) (fun _ => rfl) fun q => by rw [nt] at q; cases q)
    · exact sd_one (sd_ret pd_bl (hbad (lc1_false hx hk (by have q := q.symm; simpa using q))))
    obtain ⟨u, k, r, rfl, k0, k1⟩ := lc1_true hx (by have q := q.symm; simpa using q)
    -- the second
    refine sd_cons (sd_if (P := fun b => b = !(getI L.rest k).isSome) (PMT.mono (ninRT (ks := kdI L.rest) true 6 hu (rf_nm 6 rfl) rfl (ix (vr 8 rfl) pd_int (id_tup (d := .int k) (by exact at_nat (by decide) rfl)))) fun b hb => by rw [hb, valP_kd, Option.isSome_map]) (fun q => ?_) fun q => sd_nil ?_)
    · refine sd_one (sd_ret pd_bl (hbad ?_))
      have hn : getI L.rest k = none := by
        cases z : getI L.rest k with
        | none => rfl
        | some v => rw [z] at q; cases q
      rw [stepB_nokey r hn]
    obtain ⟨v, hv⟩ : ∃ v, getI L.rest k = some v := by
      cases z : getI L.rest k with
      | none => rw [z] at q; cases q
      | some v => exact ⟨v, rfl⟩
    have eS := stepB_at (u := u) r hv
    have hvP : valP (kdI L.rest) (.inl k) = some (.int v) := by rw [valP_kd, hv]; rfl
    -- go
    refine sd_one (sd_if (P := fun b => b = ((u == sGo) && (decide ((r.length : Int) = 0) && decide (v = 0)))) (PMT.mono (PWD.tst (pdw_and (ct (ix (vr 8 rfl) pd_int (id_tup (d := .str u) (at_0 _ _))) pd_str (cd_eqS u _)) fun _ => pdw_and (ct (lenT B.len (vr 8 rfl)) pd_int (cd_eqI _ _)) fun _ => pwd_and1 (ct (getR (ks := kdI L.rest) (d := .int v) true 6 hu (rf_nm 6 rfl) rfl (ix (vr 8 rfl) pd_int (id_tup (d := .int k) (by exact at_nat (by decide) rfl))) hvP) pd_int (cd_eqI v 0)))) fun b hb => ?_) (fun q => ?_) fun q => ?_)
    · rw [hb]
      have e : decide (((PyData.str u :: .int k :: r).length : Int) = 2) = decide ((r.length : Int) = 0) := by
        by_cases q : r.length = 0
        · rw [decide_eq_true (by simp only [List.length_cons]; omega), decide_eq_true (by omega)]
        · rw [decide_eq_false (by simp only [List.length_cons]; omega), decide_eq_false (by omega)]
      rw [e]; rfl
    · have q := q.symm
      rw [Bool.and_eq_true, Bool.and_eq_true] at q
      have hr0 : r = [] := List.length_eq_zero_iff.mp (by have := of_decide_eq_true q.2.1; omega)
      subst hr0
      have eS : stepB L (.tuple [.str u, .int k]) = (decide (v = 0), goL L k) := by rw [eS]; show (if u == sGo then _ else _) = _; rw [if_pos q.1]
      rw [eS] at esucc hgood
      refine sd_cons (sd_dropS (popR (ks := kdI L.rest) (d := .int v) true 6 (rf_nm 6 rfl) rfl (ix (vr 8 rfl) pd_int (id_tup (d := .int k) (by exact at_nat (by decide) rfl))) hvP) ?_)
      rintro r' t' ⟨rfl, rfl⟩
      rw [drop_kd]
      refine sd_one (sd_pop2 (ks := kdI L.firsts) (d := .int 0) true 7 (rf_nm 7 rfl) rfl (ix (vr 8 rfl) pd_int (id_tup (d := .int k) (by exact at_nat (by decide) rfl))) pd_int ?_)
      rw [drop_kd]
      refine ⟨.v (.d (.tuple [.str u, .int k])), ?_, hgood q.2.2⟩
      rw [esucc]
      rfl
    · have q1 : ((u == sGo) && (decide ((r.length : Int) = 0) && decide (v = 0))) = false := q.symm
      -- write
      refine sd_one (sd_if (P := fun b => b = ((u == sWrite) && wcond v r)) ?_ (fun q => ?_) fun q => ?_)
      · match r with
        | [zz] =>
          refine PMT.mono (PWD.tst (pdw_and (ct (ix (vr 8 rfl) pd_int (id_tup (d := .str u) (at_0 _ _))) pd_str (cd_eqS u _)) fun _ => pdw_and (ct (lenT B.len (vr 8 rfl)) pd_int (cd_eqI _ _)) fun _ => pwd_and1 (PD.tst (pd_cal C1 hr (ac (ix (vr 8 rfl) pd_int (id_tup (d := zz) (by exact at_nat (by decide) rfl))) (ac pd_int (ac (getR (ks := kdI L.rest) (d := .int v) true 6 hu (rf_nm 6 rfl) rfl (ix (vr 8 rfl) pd_int (id_tup (d := .int k) (by exact at_nat (by decide) rfl))) hvP) pma_nil))) rfl ⟨zz, 1, v, rfl, rfl⟩)))) fun b hb => ?_
          rw [hb]; rfl
        | [] =>
          refine PMT.mono (PWD.tst (pdw_and (k' := false) (ct (ix (vr 8 rfl) pd_int (id_tup (d := .str u) (at_0 _ _))) pd_str (cd_eqS u _)) fun _ => pwd_and (P' := fun b => b = false) (ct (lenT B.len (vr 8 rfl)) pd_int (cd_eqI _ _)) (fun _ => rfl) fun q => by cases q)) fun b hb => ?_
          rw [hb]; rfl
        | x1 :: x2 :: r' =>
          have hl3 : decide (((PyData.str u :: .int k :: x1 :: x2 :: r').length : Int) = 3) = false := decide_eq_false (by simp only [List.length_cons]; omega)
          refine PMT.mono (PWD.tst (pdw_and (k' := false) (ct (ix (vr 8 rfl) pd_int (id_tup (d := .str u) (at_0 _ _))) pd_str (cd_eqS u _)) fun _ => pwd_and (P' := fun b => b = false) (ct (lenT B.len (vr 8 rfl)) pd_int (cd_eqI _ _)) (fun _ => rfl) fun q => by rw [hl3] at q; cases q)) fun b hb => ?_
          rw [hb]; rfl
      · have q := q.symm
        rw [Bool.and_eq_true] at q
        obtain ⟨m, er, m1, m2⟩ : ∃ m, r = [.int m] ∧ 1 ≤ m ∧ m ≤ v := by
          match r, q.2 with
          | [zz], q2 =>
            obtain ⟨m, e, h1, h2⟩ := with_int (show fWithin zz 1 v = true from q2)
            exact ⟨m, by rw [e], h1, h2⟩
        subst er
        have eS : stepB L (.tuple [.str u, .int k, .int m]) = (fitsB (wrL L k v m), wrL L k v m) := by
          rw [eS]
          show (if u == sWrite then (if (decide (1 ≤ m) && decide (m ≤ v)) = true then _ else _) else _) = _
          rw [if_pos q.1, if_pos (by simp [m1, m2])]
        rw [eS] at esucc hgood hbad
        obtain ⟨fp, fn⟩ := fits_put (L := L) (k := k) (v := v) (n := m)
        refine sd_cons (sd_setd (ks := kdI L.firsts) (d := .int L.h) true 7 (rf_nm 7 rfl) rfl (ix (vr 8 rfl) pd_int (id_tup (d := .int k) (by exact at_nat (by decide) rfl))) (vr 4 rfl) (by rw [kd_len]; omega) ?_)
        rw [setd_kd]
        refine sd_cons (putR (ks := kdI L.rest) (j := k) (d := .int (v - m)) true 6 hu (rf_nm 6 rfl) rfl (bn (getR (ks := kdI L.rest) (d := .int v) true 6 hu (rf_nm 6 rfl) rfl (ix (vr 8 rfl) pd_int (id_tup (d := .int k) (by exact at_nat (by decide) rfl))) hvP) (ix (vr 8 rfl) pd_int (id_tup (d := .int m) (by exact at_nat (by decide) rfl))) (bd_sub v m)) (ix (vr 8 rfl) pd_int (id_tup (d := .int k) (by exact at_nat (by decide) rfl))) (by rw [kd_len]; omega) ?_)
        rw [put_kd]
        refine sd_cons (sd_asg 4 sc_lcourse.nd rfl (.inl rfl) (bn (vr (r := .d (.int L.h)) 4 rfl) (ix (vr 8 rfl) pd_int (id_tup (d := .int m) (by exact at_nat (by decide) rfl))) (bd_add L.h m)) ?_)
        rintro r' rfl
        refine sd_one (sd_if (ct (bn (x := .int (L.h + m)) (y := .int (minL ((wrL L k v m).firsts.map (·.2)))) (vr 4 rfl) (pd_callB (x := "min") rfl B.min (by decide +kernel) (ac (PD.as (pd_listVals (ks := kdI (wrL L k v m).firsts) (pk_nm 7 rfl) B.list) (by rw [kd_snd])) pma_nil) (ll_min rfl _ fn)) (bd_sub _ _)) (vr (r := .d (.int c)) 3 rfl) (cd_gt _ _)) (fun q2 => ?_) fun q2 => sd_nil ?_)
        · refine sd_one (sd_ret pd_bl (hbad ?_))
          have q2 : c < L.h + m - minL ((wrL L k v m).firsts.map (·.2)) := of_decide_eq_true q2.symm
          have e3 : (wrL L k v m).h = L.h + m := rfl
          have e4 : L.c = c := ec
          rw [fp]
          exact decide_eq_false (by rw [e3, e4]; omega)
        · have q2 : ¬ c < L.h + m - minL ((wrL L k v m).firsts.map (·.2)) := of_decide_eq_false q2.symm
          have e3 : (wrL L k v m).h = L.h + m := rfl
          have e4 : L.c = c := ec
          refine ⟨.v (.d (.tuple [.str u, .int k, .int m])), ?_, hgood ?_⟩
          · rw [esucc]; rfl
          · show fitsB (wrL L k v m) = true
            rw [fp]
            exact decide_eq_true (by rw [e3, e4]; omega)
      · refine sd_one (sd_ret pd_bl (hbad ?_))
        have q : ((u == sWrite) && wcond v r) = false := q.symm
        rw [eS]
        match r with
        | [] =>
          show (if u == sGo then (decide (v = 0), goL L k) else (false, L)).1 = false
          have q1 : ((u == sGo) && (true && decide (v = 0))) = false := q1
          cases e : (u == sGo) with
          | false => rfl
          | true => rw [e] at q1; exact q1
        | [zz] =>
          have q : ((u == sWrite) && fWithin zz 1 v) = false := q
          cases zz with
          | int n =>
            show (if u == sWrite then (if fWithin (.int n) 1 v then (fitsB (wrL L k v n), wrL L k v n) else (false, L)) else (false, L)).1 = false
            cases e : (u == sWrite) with
            | false => rfl
            | true =>
              rw [e, Bool.true_and] at q
              rw [if_pos rfl, q]
              rfl
          | _ => cases (u == sWrite) <;> rfl
        | _ :: _ :: _ => rfl
  · rintro u ⟨u8, rfl, good⟩
    refine sd_one (sd_ret (cp (PD.as (lenR true 6 (rf_nm 6 rfl) rfl B.len) (by rw [kd_len])) pd_int (cd_eqI _ _)) ?_)
    rintro r rfl
    rw [allB_true good, Bool.true_and]
end
end K33

-- part T17
set_option Elab.async false
set_option maxRecDepth 100000
set_option maxHeartbeats 4000000
set_option linter.all false
namespace K33
open PySem PySem.Spec PyProof.Rows L2 Fw
/-! ### _law_is_doubtful -/
theorem getI_app {l m : List (Int × Int)} {k : Int} : getI (l ++ m) k = match getI l k with | some v => some v | none => getI m k := by
  unfold getI
  rw [List.find?_append]
  cases l.find? (fun p => decide (p.1 = k)) <;> rfl
theorem getI_none {l : List (Int × Int)} {k : Int} (h : k ∉ l.map (·.1)) : getI l k = none := by
  unfold getI
  rw [List.find?_eq_none.mpr (fun p hp => by simp; exact fun e => h (List.mem_map.mpr ⟨p, hp, e⟩))]
  rfl
theorem getI_map {is : List Int} {f : Int → Int} {k : Int} (h : k ∈ is) : getI (is.map fun i => (i, f i)) k = some (f k) := by
  induction is with
  | nil => cases h
  | cons i is ih =>
    by_cases q : i = k
    · subst q; simp [getI, List.find?_cons]
    · have e : getI ((i :: is).map fun i => (i, f i)) k = getI (is.map fun i => (i, f i)) k := by simp [getI, List.find?_cons, q]
      rw [e]
      rcases List.mem_cons.mp h with z | z
      · exact absurd z.symm q
      · exact ih z
theorem others_mem {ds : List Deed} {l : List Int} {i : Int} (h0 : 0 ≤ i) (h1 : i < ds.length) (h2 : i ∉ l) : i ∈ othersL ds l :=
  List.mem_filter.mpr ⟨List.mem_map.mpr ⟨i.toNat, List.mem_range.mpr (by omega), by omega⟩, by simp [h2]⟩
def tailS (h : Int) (ds : List Deed) (l : List Int) : List (Int × Int) := match (heldL ds l).head? with
  | none => []
  | some k => [(k, h - (fstAt ds k).getD 0 + sumN ds (othersL ds l))]
theorem sumsS_eq (h : Int) (ds : List Deed) (l : List Int) : sumsS h ds l = sumsA h ds l (othersL ds l) ++ tailS h ds l := rfl
theorem sums_get {h : Int} {ds : List Deed} {l : List Int} {j : Int} (h0 : 0 ≤ j) (h1 : j < ds.length) : getI (sumsS h ds l) j = doubtS h ds l j := by
  unfold doubtS
  rw [sumsS_eq, getI_app]
  by_cases hk : (heldL ds l).head? = some j
  · rw [if_pos hk]
    have hjl : j ∈ l := (List.mem_filter.mp (List.mem_of_mem_head? hk)).1
    rw [getI_none (sumsA_keys fun z => (others_in z).2.2 hjl)]
    unfold tailS
    rw [hk]
    simp [getI, List.find?_cons]
  · rw [if_neg hk]
    have tail : getI (tailS h ds l) j = none := by
      unfold tailS
      cases e : (heldL ds l).head? with
      | none => rfl
      | some k =>
        have : ¬ k = j := fun z => hk (by rw [e, z])
        simp [getI, List.find?_cons, this]
    rw [tail]
    by_cases hl : j ∈ l
    · rw [if_pos (.inl hl), getI_none (sumsA_keys fun z => (others_in z).2.2 hl)]
    · have ahead : aheadS ds l j = !behindS ds l j := by
        unfold aheadS behindS
        cases e : (heldL ds l).head? with
        | none => rfl
        | some k =>
          have hkl : k ∈ l := (List.mem_filter.mp (List.mem_of_mem_head? e)).1
          have : k ≠ j := fun z => hl (z ▸ hkl)
          show decide (j < k) = !decide (k < j)
          by_cases q : j < k
          · rw [decide_eq_true q, decide_eq_false (by omega)]; rfl
          · rw [decide_eq_false q, decide_eq_true (by omega)]; rfl
      cases hb : behindS ds l j with
      | true =>
        rw [if_pos (.inr rfl), getI_none]
        intro z
        obtain ⟨p, hp, e⟩ := List.mem_map.mp z
        obtain ⟨i, hi, e2⟩ := List.mem_map.mp hp
        subst e2
        have e : i = j := e
        subst e
        have := (List.mem_filter.mp hi).2
        rw [ahead, hb] at this
        cases this
      | false =>
        rw [if_neg (by intro z; rcases z with z | z; exact hl z; cases z)]
        unfold sumsA
        rw [getI_map (List.mem_filter.mpr ⟨others_mem h0 h1 hl, by rw [ahead, hb]; rfl⟩)]
/-- what the law's bounds need -/
def Bnd60 (c h : Int) (ds : List Deed) (l : List Int) : Prop := 0 ≤ c ∧ ∀ j n, 0 ≤ j → j < (ds.length : Int) → doubtS h ds l j = some n → n ≤ 10 ^ 60
section
variable {P : Program} {w : World} {K : PySem.W.Frag} {mg : Str → Option Value} {base : Heap}
abbrev s_ldoubtful : Stmt := top 45
abbrev n_ldoubtful : List Str := ["_law_parts", "_law_lot", "_law_thing", "_law_found"]
theorem sc_ldoubtful : FnScope n_ldoubtful ["_law_parts", "_law_lot", "_law_thing"] (defScope s_ldoubtful) := ⟨rfl, rfl, rfl, by decide +kernel, rfl, by decide +kernel, by decide +kernel⟩
def ph_ldoubtful (rs : List Dt) (r : Dt) : Prop := ∃ c h ds l x, rs = [.d (partsD c h ds), .d (lotD l), .d x] ∧ ds.length ≤ 200 ∧ LotOk l ds.length ∧ ThOk x ∧ fitsB (led0 c h ds l) = true ∧ Bnd60 c h ds l ∧ r = .d (.bool (judgeP c h ds l x))
theorem c_ldoubtful (F : HasFn K mg "_law_is_doubtful" s_ldoubtful ["_law_parts", "_law_lot", "_law_thing"]) (B : Bt mg) (C1 : Cal P w K mg base "_law_is_int" 1 ["_law_thing", "_law_least", "_law_most"] (spP 3 ph_is_within)) (C2 : Cal P w K mg base "_law_is_course" 2 ["_law_parts", "_law_lot", "_law_thing"] (spP 3 ph_lcourse))
    (C3 : Cal P w K mg base "_law_sums" 1 ["_law_parts", "_law_lot"] (spP 2 fun rs r => ∃ ks, r = .dk ks ∧ ph_lsums rs ks)) : Cal P w K mg base "_law_is_doubtful" 3 ["_law_parts", "_law_lot", "_law_thing"] (spP 3 ph_ldoubtful) := by
  refine cal_pure F sc_ldoubtful rfl fun f cdv A outer s H E hr rs r hl ⟨c, h, ds, l, x, e1, hds, lo, hx, hfit, ⟨c0, hbnd⟩, e2⟩ => ?_
  subst e1 e2
  have hu : (A.deeper (envOfC "_law_is_doubtful" (defScope s_ldoubtful) s.heap.objs.size f cdv)).units + 1 < cLine := hu_of hr
  rcases th_cls x with ⟨ht, hj⟩ | rfl | ⟨a, r, rfl, ha, hj⟩ | ⟨u, r, rfl⟩
  · rw [hj]
    refine sd_cons (sd_if (PWD.tst (pwd_or (P' := fun b => b = true) (pdt_not (PD.tst (isT B.isinstance B.tuple (vr 2 rfl)))) (fun _ => rfl) fun q => by rw [ht] at q; cases q)) (fun _ => sd_one (sd_ret pd_bl fun r hr => hr)) fun q => by cases q)
  · refine sd_cons (sd_if (PWD.tst (pwd_or (P' := fun b => b = true) (pdt_not (PD.tst (isT B.isinstance B.tuple (vr 2 rfl)))) (fun _ => rfl) fun _ => pwd_or (P' := fun b => b = true) (ct (lenT B.len (vr 2 rfl)) pd_int (cd_lt _ _)) (fun _ => rfl) fun q => by cases q)) (fun _ => sd_one (sd_ret pd_bl fun r hr => hr)) fun q => by cases q)
  · rw [hj]
    refine sd_cons (sd_if (PWD.tst (pwd_or (P' := fun b => b = true) (pdt_not (PD.tst (isT B.isinstance B.tuple (vr 2 rfl)))) (fun _ => rfl) fun _ => pwd_or (P' := fun b => b = true) (ct (lenT B.len (vr 2 rfl)) pd_int (cd_lt _ _)) (fun _ => rfl) fun _ => pwd_or1 (PMT.mono (pdt_not (PD.tst (isS B.isinstance B.str (ix (vr 2 rfl) pd_int (id_tup (d := a) (at_0 _ _)))))) fun b hb => by rw [hb, ha]; rfl))) (fun _ => sd_one (sd_ret pd_bl fun r hr => hr)) fun q => by cases q)
  by_cases hr0 : r = []
  · subst hr0
    refine sd_cons (sd_if (PWD.tst (pwd_or (P' := fun b => b = true) (pdt_not (PD.tst (isT B.isinstance B.tuple (vr 2 rfl)))) (fun _ => rfl) fun _ => pwd_or (P' := fun b => b = true) (ct (lenT B.len (vr 2 rfl)) pd_int (cd_lt _ _)) (fun _ => rfl) fun q => by cases q)) (fun _ => sd_one (sd_ret pd_bl fun r hr => hr)) fun q => by cases q)
  have hlen : decide (((PyData.str u :: r).length : Int) < 2) = false := decide_eq_false (by
    have : r.length ≠ 0 := fun z => hr0 (List.length_eq_zero_iff.mp z)
    rw [List.length_cons]; omega)
  refine sd_cons (sd_if (P := fun b => b = false) (PMT.mono (PWD.tst (pdw_or (pdt_not (PD.tst (isT B.isinstance B.tuple (vr 2 rfl)))) fun _ => pdw_or (ct (lenT B.len (vr 2 rfl)) pd_int (cd_lt _ _)) fun _ => pwd_or1 (pdt_not (PD.tst (isS B.isinstance B.str (ix (vr 2 rfl) pd_int (id_tup (d := .str u) (at_0 _ _)))))))) fun b hb => by
    rw [hb, hlen]; rfl) (fun q => by cases q) fun _ => sd_nil ?_)
  -- the course
  refine sd_cons (sd_if (ct (ix (vr 2 rfl) pd_int (id_tup (d := .str u) (at_0 _ _))) pd_str (cd_eqS u _)) (fun q => ?_) fun q => sd_nil ?_)
  · have q : (u == sCourse) = true := q.symm
    match r, hx, hr0 with
    | [y], hx, _ =>
      refine sd_one (sd_ret (pd_and (cp (lenT B.len (vr 2 rfl)) pd_int (cd_eqI _ _)) fun _ => pd_one (pd_cal C2 hr (ac (vr 0 rfl) (ac (vr 1 rfl) (ac (ix (vr 2 rfl) pd_int (id_tup (d := y) (by exact at_nat (by decide) rfl))) pma_nil))) rfl ⟨c, h, ds, l, y, rfl, hds, hx _ _ _ rfl, hfit, rfl⟩)) ?_)
      rintro r rfl
      show Dt.d (.bool (true && courseP c h ds l y)) = .d (.bool ((u == sCourse) && courseP c h ds l y))
      rw [q]
    | [], _, h0 => exact absurd rfl h0
    | y :: z :: r', _, _ =>
      have hl2 : decide (((PyData.str u :: y :: z :: r').length : Int) = 2) = false := decide_eq_false (by rw [List.length_cons, List.length_cons, List.length_cons]; omega)
      refine sd_one (sd_ret (pd_and (k' := false) (cp (lenT B.len (vr 2 rfl)) pd_int (cd_eqI _ _)) fun q => by rw [hl2] at q; cases q) ?_)
      rintro r rfl
      rw [Bool.and_false]
      cases r' with
      | nil => show _ = Dt.d (.bool (!(u == sCourse) && _)); rw [q]; rfl
      | cons _ _ => rfl
  have q1 : (u == sCourse) = false := q.symm
  -- neither
  have not1 : ∀ y, r = [y] → judgeP c h ds l (.tuple (.str u :: r)) = false := by
    rintro y rfl
    show ((u == sCourse) && _) = false
    rw [q1]; rfl
  have p2 : atI [.int c, .int h, dsD ds] 2 = some (dsD ds) := at_nat (by decide) rfl
  by_cases he : (u == sExcess) = true
  · by_cases hr2 : ∃ y z, r = [y, z]
    · obtain ⟨y, z, rfl⟩ := hr2
      have ej : judgeP c h ds l (.tuple [.str u, y, z]) = exP c h ds l y z := by
        show (!(u == sCourse) && ((u == sExcess) && exP c h ds l y z)) = _
        rw [q1, he]; rfl
      rw [ej]
      refine sd_cons (sd_if (P := fun b => b = !fWithin y 0 ((ds.length : Int) - 1)) (PWD.tst (pwd_or (P := fun b => b = false) (PMT.mono (ct (ix (vr 2 rfl) pd_int (id_tup (d := .str u) (at_0 _ _))) pd_str (cd_neS u _)) fun b hb => by rw [hb]; show (!(u == sExcess)) = false; rw [he]; rfl) (fun q => by cases q) fun _ => pwd_or (P := fun b => b = false) (ct (lenT B.len (vr 2 rfl)) pd_int (cd_neI _ _)) (fun q => by cases q) fun _ => pwd_or1 (pdt_not (PD.tst (pd_cal C1 (hr.mono (by decide)) (ac (ix (vr 2 rfl) pd_int (id_tup (d := y) rfl)) (ac pd_int (ac (bn (PD.as (lenT B.len (ix (vr 0 rfl) pd_int (id_tup (d := dsD ds) p2))) (by rw [List.length_map])) pd_int (bd_sub _ _)) pma_nil))) rfl ⟨y, 0, _, rfl, rfl⟩))))) (fun q => ?_) fun q => sd_nil ?_)
      · have q : fWithin y 0 ((ds.length : Int) - 1) = false := by have q := q.symm; simpa using q
        rw [exP_noy q]
        exact sd_one (sd_ret pd_bl fun r hr => hr)
      have q : fWithin y 0 ((ds.length : Int) - 1) = true := by have q := q.symm; simpa using q
      obtain ⟨j, rfl, j0, j1⟩ := with_int q
      have eg : (valP (kdI (sumsS h ds l)) (.inl j)).getD (.int 0) = .int ((doubtS h ds l j).getD 0) := by
        rw [valP_kd, sums_get j0 (by omega)]
        cases doubtS h ds l j <;> rfl
      refine sd_cons (sd_asg 3 sc_ldoubtful.nd rfl (.inl rfl) (PD.as (pd_get2 (ks := kdI (sumsS h ds l)) hu (pm_cal C3 (hr.mono (by decide)) (ac (vr 0 rfl) (ac (vr 1 rfl) pma_nil)) (fun rs e => by subst e; exact ⟨rfl, _, ⟨_, rfl, c, h, ds, l, rfl, hds, lo, rfl⟩, rfl⟩)) (ix (vr 2 rfl) pd_int (id_tup (d := .int j) rfl)) pd_int) eg) ?_)
      rintro r rfl
      rcases int_cls z with ⟨n, rfl⟩ | ⟨nz, hz⟩
      · have ex : exP c h ds l (.int j) (.int n) = (decide (doubtS h ds l j = some n) && decide (c < n)) := by
          show ((decide (0 ≤ j) && decide (j ≤ (ds.length : Int) - 1)) && _) = _
          rw [decide_eq_true j0, decide_eq_true j1]; rfl
        rw [ex]
        refine sd_one (sd_ret (pd_and (pd_cal C1 (hr.mono (by decide)) (ac (ix (vr 2 rfl) pd_int (id_tup (d := .int n) rfl)) (ac pd_int (ac (bn pd_int pd_int (bd_pow 10 60 ⟨by decide, by decide, by decide⟩)) pma_nil))) rfl ⟨_, _, _, rfl, rfl⟩) fun _ => pd_and (cp (ix (vr 2 rfl) pd_int (id_tup (d := .int n) rfl)) (vr (r := .d (.int ((doubtS h ds l j).getD 0))) 3 rfl) (cd_eqI n _)) fun _ => pd_one (cp (vr (r := .d (.int ((doubtS h ds l j).getD 0))) 3 rfl) (ix (vr 0 rfl) pd_int (id_tup (d := .int c) rfl)) (cd_gt _ c))) ?_)
        rintro r rfl
        have e60 : (10 : Int) ^ (60 : Int).toNat = 10 ^ 60 := rfl
        show Dt.d (.bool ((decide (0 ≤ n) && decide (n ≤ (10 : Int) ^ (60 : Int).toNat)) && (decide (n = (doubtS h ds l j).getD 0) && decide (c < (doubtS h ds l j).getD 0)))) = _
        rw [e60]
        cases hd : doubtS h ds l j with
        | none =>
          have e1 : decide (c < (none : Option Int).getD 0) = false := decide_eq_false (by show ¬ c < 0; omega)
          rw [e1, Bool.and_false, Bool.and_false]
          rfl
        | some m =>
          have hm := hbnd j m j0 (by omega) hd
          show Dt.d (.bool ((decide (0 ≤ n) && decide (n ≤ 10 ^ 60)) && (decide (n = m) && decide (c < m)))) = .d (.bool (decide (some m = some n) && decide (c < n)))
          by_cases e : n = m
          · subst e
            by_cases hc : c < n
            · rw [decide_eq_true hc, decide_eq_true (show (0 : Int) ≤ n by omega), decide_eq_true hm]; simp
            · rw [decide_eq_false hc, Bool.and_false, Bool.and_false, Bool.and_false]
          · have e' : ¬ m = n := fun z => e z.symm
            simp [e, e']
      · rw [exP_noz hz]
        refine sd_one (sd_ret (pd_and (k' := false) (pd_cal C1 (hr.mono (by decide)) (ac (ix (vr 2 rfl) pd_int (id_tup (d := z) rfl)) (ac pd_int (ac (bn pd_int pd_int (bd_pow 10 60 ⟨by decide, by decide, by decide⟩)) pma_nil))) rfl ⟨_, _, _, rfl, rfl⟩) fun q => ?_) ?_)
        · exfalso
          cases z with
          | int n => exact hz n rfl
          | _ => cases q
        rintro r rfl
        rw [Bool.and_false]
    · have hl3 : (!decide (((PyData.str u :: r).length : Int) = 3)) = true := by
        match r, hr2 with
        | [], _ => rfl
        | [_], _ => rfl
        | [y, z], h => exact absurd ⟨y, z, rfl⟩ h
        | _ :: _ :: _ :: r', _ => rw [decide_eq_false (by simp only [List.length_cons]; omega)]; rfl
      have ej : judgeP c h ds l (.tuple (.str u :: r)) = false := by
        match r, hr2 with
        | [], _ => rfl
        | [y], _ => exact not1 y rfl
        | [y, z], h => exact absurd ⟨y, z, rfl⟩ h
        | _ :: _ :: _ :: r', _ => rfl
      rw [ej]
      exact sd_cons (sd_if (PWD.tst (pwd_or (P' := fun b => b = true) (ct (ix (vr 2 rfl) pd_int (id_tup (d := .str u) (at_0 _ _))) pd_str (cd_neS u _)) (fun _ => rfl) fun _ => pwd_or (P' := fun b => b = true) (ct (lenT B.len (vr 2 rfl)) pd_int (cd_neI _ _)) (fun _ => rfl) fun q => by rw [hl3] at q; cases q)) (fun _ => sd_one (sd_ret pd_bl fun r hr => hr)) fun q => by cases q)
  · have he : (u == sExcess) = false := by simpa using he
    have ej : judgeP c h ds l (.tuple (.str u :: r)) = false := by
      match r with
      | [] => rfl
      | [y] => exact not1 y rfl
      | [y, z] =>
        show (!(u == sCourse) && ((u == sExcess) && exP c h ds l y z)) = false
        rw [he, Bool.false_and, Bool.and_false]
      | _ :: _ :: _ :: r' => rfl
    rw [ej]
    exact sd_cons (sd_if (PWD.tst (pwd_or (P' := fun b => b = true) (ct (ix (vr 2 rfl) pd_int (id_tup (d := .str u) (at_0 _ _))) pd_str (cd_neS u _)) (fun _ => rfl) fun q => by
      have q : false = !(u == sExcess) := q
      rw [he] at q; cases q)) (fun _ => sd_one (sd_ret pd_bl fun r hr => hr)) fun q => by cases q)
end
end K33

-- part T18
set_option Elab.async false
set_option maxRecDepth 100000
set_option maxHeartbeats 4000000
set_option linter.all false
namespace K33
open PySem PySem.Spec PyProof.Rows L2 Fw
/-! ### the flood, in plain words -/
def leastOf (hd : List Int) (rest : List Int) (places : List (Option Int)) : Int :=
  minL (hd ++ ((idxL rest.length).filter fun k => (places.getD k.toNat none).isSome && decide (0 < rest.getD k.toNat 0)).map fun k => (places.getD k.toNat none).getD 0)
def nextAt (c here : Int) (hd : List Int) (st : FState) (a : Nat) : Option FState :=
  if 0 < st.1.getD a 0 then
    if here + 1 - leastOf hd st.1 (st.2.set a (some ((st.2.getD a none).getD here))) ≤ c then some (st.1.set a (st.1.getD a 0 - 1), st.2.set a (some ((st.2.getD a none).getD here))) else none
  else none
inductive Reach (c h W : Int) (hd : List Int) (st0 : FState) : FState → Prop
  | here : Reach c h W hd st0 st0
  | step {s s' : FState} {a : Nat} : Reach c h W hd st0 s → a < s.1.length → nextAt c (h + W - s.1.sum) hd s a = some s' → Reach c h W hd st0 s'
def begin0 (ds : List Deed) (l : List Int) : FState := ((othersL ds l).map (needAt ds), (othersL ds l).map (fstAt ds))
def heldV (ds : List Deed) (l : List Int) : List Int := (heldL ds l).map fun i => (fstAt ds i).getD 0
def FloodP (c h : Int) (ds : List Deed) (l : List Int) : Prop := ∃ s, Reach c h (begin0 ds l).1.sum (heldV ds l) (begin0 ds l) s ∧ s.1.sum = 0
open Classical in
noncomputable def floodB (c h : Int) (ds : List Deed) (l : List Int) : Bool := decide (FloodP c h ds l)
open Classical in
theorem floodB_true {c h : Int} {ds : List Deed} {l : List Int} (q : FloodP c h ds l) : floodB c h ds l = true := decide_eq_true q
open Classical in
theorem floodB_false {c h : Int} {ds : List Deed} {l : List Int} (q : ¬ FloodP c h ds l) : floodB c h ds l = false := decide_eq_false q
theorem sum_set {l : List Int} {a : Nat} {x : Int} (h : a < l.length) : (l.set a x).sum = l.sum - l.getD a 0 + x := by
  induction l generalizing a with
  | nil => exact absurd h (Nat.not_lt_zero _)
  | cons y l ih =>
    cases a with
    | zero => simp; omega
    | succ a =>
      have := ih (a := a) (by simpa using h)
      simp at this ⊢
      omega
structure Shape (n : Nat) (S : Int) (s : FState) : Prop where
  l1 : s.1.length = n
  l2 : s.2.length = n
  pos : ∀ r ∈ s.1, 0 ≤ r
  sm : s.1.sum ≤ S
theorem next_shape {c here : Int} {hd : List Int} {s s' : FState} {a n : Nat} {S : Int} (h : Shape n S s) (ha : a < n) (e : nextAt c here hd s a = some s') : Shape n S s' ∧ s'.1.sum = s.1.sum - 1 ∧ 0 < s.1.sum := by
  unfold nextAt at e
  by_cases q : 0 < s.1.getD a 0
  · rw [if_pos q] at e
    split at e
    · cases e
      have hs := sum_set (l := s.1) (a := a) (x := s.1.getD a 0 - 1) (by rw [h.l1]; exact ha)
      have hge : ∀ (l : List Int) (a : Nat), (∀ r ∈ l, 0 ≤ r) → l.getD a 0 ≤ l.sum := by
        intro l
        induction l with
        | nil => intro a _; simp
        | cons y l ih =>
          intro a hp
          have hy := hp y List.mem_cons_self
          have hpos : ∀ (l : List Int), (∀ r ∈ l, 0 ≤ r) → 0 ≤ l.sum := by
            intro l
            induction l with
            | nil => intro _; simp
            | cons y l ih => intro hp; have := ih fun r hr => hp r (List.mem_cons_of_mem _ hr); have := hp y List.mem_cons_self; simp; omega
          have hl := hpos l fun r hr => hp r (List.mem_cons_of_mem _ hr)
          cases a with
          | zero => simp; omega
          | succ a => have := ih a fun r hr => hp r (List.mem_cons_of_mem _ hr); simp at this ⊢; omega
      have hq := hge s.1 a h.pos
      refine ⟨⟨by rw [List.length_set]; exact h.l1, by rw [List.length_set]; exact h.l2, fun r hr => ?_, ?_⟩, ?_, ?_⟩
      · rcases List.mem_or_eq_of_mem_set hr with z | z
        · exact h.pos r z
        · omega
      · have := h.sm
        show (s.1.set a (s.1.getD a 0 - 1)).sum ≤ S
        omega
      · show (s.1.set a (s.1.getD a 0 - 1)).sum = _
        omega
      · omega
    · cases e
  · rw [if_neg q] at e; cases e
theorem begin_shape {ds : List Deed} {l : List Int} (hp : ∀ d ∈ ds, 0 ≤ d.2) : Shape (othersL ds l).length (begin0 ds l).1.sum (begin0 ds l) := by
  refine ⟨List.length_map _, List.length_map _, fun r hr => ?_, Int.le_refl _⟩
  obtain ⟨i, hi, e⟩ := List.mem_map.mp hr
  obtain ⟨d, hd, _, en, _⟩ := deed_at (others_in hi).1 (others_in hi).2.1
  subst e
  rw [en]
  exact hp d (List.mem_of_getElem? hd)
theorem reach_shape {c h : Int} {ds : List Deed} {l : List Int} (hp : ∀ d ∈ ds, 0 ≤ d.2) {W : Int} {hd : List Int} {s : FState} (r : Reach c h W hd (begin0 ds l) s) : Shape (othersL ds l).length (begin0 ds l).1.sum s := by
  induction r with
  | here => exact begin_shape hp
  | step r ha e ih => exact (next_shape ih (by rw [← ih.l1]; exact ha) e).1
/-! ### how much is left -/
def Wn : Nat → Nat
  | 0 => 1
  | k + 1 => 1 + 5 * Wn k
theorem Wn_pos : ∀ k, 1 ≤ Wn k
  | 0 => Nat.le_refl _
  | k + 1 => by unfold Wn; omega
theorem Wn_mono : ∀ {j k : Nat}, j ≤ k → Wn j ≤ Wn k
  | 0, k, _ => Wn_pos k
  | j + 1, 0, h => absurd h (Nat.not_succ_le_zero j)
  | j + 1, k + 1, h => by unfold Wn; have := Wn_mono (Nat.le_of_succ_le_succ h); omega
def pot (wt : List FState) : Nat := (wt.map fun s => Wn s.1.sum.toNat).sum
theorem pot_app (a b : List FState) : pot (a ++ b) = pot a + pot b := by unfold pot; rw [List.map_append, List.sum_append]
theorem pot_one (s : FState) : pot [s] = Wn s.1.sum.toNat := by simp [pot]
theorem pot_ge (wt : List FState) : wt.length ≤ pot wt := by
  induction wt with
  | nil => exact Nat.le_refl _
  | cons s wt ih =>
    have := Wn_pos s.1.sum.toNat
    have e : pot (s :: wt) = Wn s.1.sum.toNat + pot wt := by simp [pot]
    rw [e, List.length_cons]; omega
theorem pot_const {k : Nat} : ∀ {wt : List FState}, (∀ s ∈ wt, s.1.sum.toNat = k) → pot wt = wt.length * Wn k
  | [], _ => by simp [pot]
  | s :: wt, hh => by
    have e : pot (s :: wt) = Wn s.1.sum.toNat + pot wt := by simp [pot]
    rw [e, hh s List.mem_cons_self, pot_const fun x hx => hh x (List.mem_cons_of_mem _ hx), List.length_cons, Nat.succ_mul]
    omega
theorem sum_pos : ∀ (l : List Int), (∀ r ∈ l, 0 ≤ r) → 0 ≤ l.sum
  | [], _ => by simp
  | y :: l, hp => by have := sum_pos l fun r hr => hp r (List.mem_cons_of_mem _ hr); have := hp y List.mem_cons_self; simp; omega
/-- where the flood stands -/
structure FInv (c h W : Int) (hd : List Int) (st0 : FState) (S : Nat) (seen wt : List FState) : Prop where
  b : st0 ∈ seen
  r : ∀ s ∈ seen, Reach c h W hd st0 s
  w : ∀ s ∈ wt, s ∈ seen
  dn : ∀ s ∈ seen, s ∈ wt ∨ (s.1.sum ≠ 0 ∧ ∀ a s', a < s.1.length → nextAt c (h + W - s.1.sum) hd s a = some s' → s' ∈ seen)
  sz : seen.length + pot wt ≤ Wn S + wt.length
  le : wt.length ≤ seen.length
theorem flood_end {c h W : Int} {hd : List Int} {st0 : FState} {S : Nat} {seen : List FState} (I : FInv c h W hd st0 S seen []) {s : FState} (r : Reach c h W hd st0 s) : s ∈ seen ∧ s.1.sum ≠ 0 := by
  have key : ∀ {s}, Reach c h W hd st0 s → s ∈ seen := by
    intro s r
    induction r with
    | here => exact I.b
    | step r ha e ih =>
      rcases I.dn _ ih with z | z
      · cases z
      · exact z.2 _ _ ha e
  have hs := key r
  rcases I.dn s hs with z | z
  · cases z
  · exact ⟨hs, z.1⟩
theorem encF_encO : encF = encO := funext fun o => by cases o <;> rfl
theorem cutD_len (xs : List PyData) (lo hi : Option Int) : (Fw.cutD xs lo hi).length ≤ xs.length := by
  unfold Fw.cutD
  rw [List.length_take, List.length_drop]
  omega
/-- one cell of a tuple is changed -/
theorem cut_set {xs : List PyData} {a : Nat} (x : PyData) (h : a < xs.length) : Fw.cutD xs none (some (a : Int)) ++ [x] ++ Fw.cutD xs (some ((a : Int) + 1)) none = xs.set a x := by
  have e1 : Fw.cutD xs none (some (a : Int)) = xs.take a := by
    unfold Fw.cutD
    rw [HT.sIx_none, HT.sIx_nat, List.drop_zero, Nat.sub_zero, Nat.min_eq_left (Nat.le_of_lt h)]
  have e2 : Fw.cutD xs (some ((a : Int) + 1)) none = xs.drop (a + 1) := by
    unfold Fw.cutD
    have : ((a : Int) + 1) = ((a + 1 : Nat) : Int) := by omega
    rw [HT.sIx_none, this, HT.sIx_nat, Nat.min_eq_left h]
    exact List.take_of_length_le (by rw [List.length_drop]; exact Nat.le_refl _)
  rw [e1, e2, List.set_eq_take_append_cons_drop, if_pos h, List.append_assoc]
  rfl
section
variable {P : Program} {w : World} {K : PySem.W.Frag} {mg : Str → Option Value} {base : Heap}
abbrev s_lflood : Stmt := top 46
abbrev n_lflood : List Str := ["_law_parts", "_law_lot", "_law_cells", "_law_head", "_law_deeds", "_law_others", "_law_begin", "_law_held", "_law_seen", "_law_waiting", "_law_whole", "_law_rest", "_law_firsts", "_law_here", "_law_at", "_law_later", "_law_places", "_law_least", "_law_deed", "_law_k"]
theorem sc_lflood : FnScope n_lflood ["_law_parts", "_law_lot"] (defScope s_lflood) := ⟨rfl, rfl, rfl, by decide +kernel, rfl, by decide +kernel, by decide +kernel⟩
def ph_lflood (rs : List Dt) (r : Dt) : Prop := ∃ c h ds l, rs = [.d (partsD c h ds), .d (lotD l)] ∧ ds.length ≤ 5 ∧ (∀ d ∈ ds, 0 ≤ d.2 ∧ d.2 ≤ 2) ∧ LotOk l ds.length ∧ r = .d (.bool (floodB c h ds l))
theorem c_lflood (F : HasFn K mg "_law_flood" s_lflood ["_law_parts", "_law_lot"]) (B : Bt mg) : Cal P w K mg base "_law_flood" 1 ["_law_parts", "_law_lot"] (spP 2 ph_lflood) := by
  refine cal_pure F sc_lflood rfl fun f cdv A outer s H E hr rs r hl ⟨c, h, ds, l, e1, hds, hn, lo, e2⟩ => ?_
  subst e1 e2
  have hu : (A.deeper (envOfC "_law_flood" (defScope s_lflood) s.heap.objs.size f cdv)).units + 9 < cLine := Nat.lt_of_le_of_lt (Nat.add_le_add_left (by decide : 9 ≤ 64) _) hr.units
  have h64 : ∀ {n : Nat}, n ≤ 200 → n < sizeLine := fun q => Nat.lt_of_le_of_lt q (by decide)
  have ol : (othersL ds l).length ≤ 5 := Nat.le_trans (others_len ds l) hds
  have ll : l.length ≤ 5 := Nat.le_trans (lot_len lo) hds
  have hpos : ∀ d ∈ ds, 0 ≤ d.2 := fun d hd => (hn d hd).1
  refine sd_cons (sd_asgT (bs := [(2, .int c), (3, .int h), (4, dsD ds)]) (vr 0 rfl) (pg_tup (n := 3) rfl (pgs_cons (pg_name (i := 2) sc_lflood.nd rfl (.inl rfl)) (pgs_cons (pg_name (i := 3) sc_lflood.nd rfl (.inl rfl)) (pgs_cons (pg_name (i := 4) sc_lflood.nd rfl (.inr rfl)) pgs_nil)))) (tg_tup (tgs_cons tg_name (tgs_cons tg_name (tgs_cons tg_name tgs_nil))) rfl) ?_)
  -- others
  refine sd_cons (sd_lc1 (A := Int) (ds := idxL ds.length) (enc := PyData.int) (own := [("_law_deed", 18)]) (bs := fun d => [(18, .int d)]) (c := fun i => !decide (i ∈ l)) (E := fun d x => x = .int d) 5 rfl sc_lflood.nd rfl rfl rfl (by rw [← idxL_rng]; exact it_rng (n := (ds.length : Nat)) rfl B.range (PD.as (lenT B.len (vr 4 rfl)) (by rw [List.length_map])) (by omega) (by omega)) (blkOk_by (N := n_lflood) (sc := defScope s_lflood) (by decide +kernel))
    (fun _ _ _ _ _ => pg_name (i := 18) sc_lflood.nd rfl (.inl rfl)) (fun _ _ => tg_name) ow1 (no1 rfl) (fun j hj _ _ _ _ _ => ct (vr 18 rfl) (vr 1 rfl) (cd_ninT j l)) (fun j _ _ _ _ _ _ _ => (vr (r := .d (.int j)) 18 rfl).mono fun r hr => ⟨_, hr, rfl⟩) (h64 (by rw [idxL_len]; omega)) fun xs hx => ?_)
  obtain rfl := pdr_int hx
  -- begin
  refine sd_cons (sd_asg (Re := fun r => r = .d (encS (begin0 ds l))) 6 sc_lflood.nd rfl (.inl rfl) (PD.as (x := encS (begin0 ds l)) (pd_tup (ds := [.tuple ((othersL ds l).map fun i => .int (needAt ds i)), .tuple ((othersL ds l).map fun i => encF (fstAt ds i))]) (ac (pd_callT (x := "tuple") (T := "tuple") (by rfl) B.tuple (by decide +kernel) (ac (pd_lc0 (A := Int) (ds := othersL ds l) (enc := PyData.int) (own := [("_law_deed", 18)]) (bs := fun d => [(18, .int d)]) (f := fun i => .int (needAt ds i)) (by rfl) sc_lflood.nd (it_lst (vr 5 rfl)) (blkOk_by (N := n_lflood) (sc := defScope s_lflood) (by decide +kernel))
      (fun _ _ _ _ _ => pg_name (i := 18) sc_lflood.nd rfl (.inl rfl)) (fun _ _ => tg_name) ow1 (no1 rfl) (fun j hj _ _ _ _ _ => ?_) (h64 (by omega))) pma_nil) (ll_tupL _)) (ac (pd_callT (x := "tuple") (T := "tuple") (by rfl) B.tuple (by decide +kernel) (ac (pd_lc0 (A := Int) (ds := othersL ds l) (enc := PyData.int) (own := [("_law_deed", 18)]) (bs := fun d => [(18, .int d)]) (f := fun i => encF (fstAt ds i)) (by rfl) sc_lflood.nd (it_lst (vr 5 rfl)) (blkOk_by (N := n_lflood) (sc := defScope s_lflood) (by decide +kernel))
      (fun _ _ _ _ _ => pg_name (i := 18) sc_lflood.nd rfl (.inl rfl)) (fun _ _ => tg_name) ow1 (no1 rfl) (fun j hj _ _ _ _ _ => ?_) (h64 (by omega))) pma_nil) (ll_tupL _)) pma_nil)) (by show 2 ≤ sizeLine; decide)) ?_) ?_)
  · obtain ⟨d', _, _, en', ea'⟩ := deed_at (others_in hj).1 (others_in hj).2.1
    rw [en']
    exact ix (ix (vr 4 rfl) (vr (r := .d (.int j)) 18 rfl) (id_tup (d := encD d') ea')) pd_int (id_tup (d := .int d'.2) rfl)
  · obtain ⟨d', _, ef', _, ea'⟩ := deed_at (others_in hj).1 (others_in hj).2.1
    rw [ef']
    exact ix (ix (vr 4 rfl) (vr (r := .d (.int j)) 18 rfl) (id_tup (d := encD d') ea')) pd_int (id_tup (d := encF d'.1) rfl)
  · unfold encS begin0
    rw [List.map_map, List.map_map, encF_encO]
    rfl
  rintro r rfl
  -- held
  refine sd_cons (sd_lc1 (A := Int) (ds := l) (enc := PyData.int) (own := [("_law_deed", 18)]) (bs := fun d => [(18, .int d)]) (c := fun i => (fstAt ds i).isSome) (E := fun d x => x = .int ((fstAt ds d).getD 0)) 7 rfl sc_lflood.nd rfl rfl rfl (it_tup (vr 1 rfl)) (blkOk_by (N := n_lflood) (sc := defScope s_lflood) (by decide +kernel))
    (fun _ _ _ _ _ => pg_name (i := 18) sc_lflood.nd rfl (.inl rfl)) (fun _ _ => tg_name) ow1 (no1 rfl) (fun j hj _ _ _ _ _ => ?_) (fun j hj hc _ _ _ _ _ => ?_) (h64 (by omega)) fun xs hx => ?_)
  · obtain ⟨d', _, ef', _, ea'⟩ := deed_at (lo.2 j hj).1 (lo.2 j hj).2
    rw [ef', ← isN_F]
    exact ct (ix (ix (vr 4 rfl) (vr (r := .d (.int j)) 18 rfl) (id_tup (d := encD d') ea')) pd_int (id_tup (d := encF d'.1) rfl)) pd_non cd_notN
  · obtain ⟨d', _, ef', _, ea'⟩ := deed_at (lo.2 j hj).1 (lo.2 j hj).2
    obtain ⟨fi, hf⟩ := Option.isSome_iff_exists.mp hc
    have hf1 : d'.1 = some fi := ef' ▸ hf
    refine PM.mono (ix (ix (vr 4 rfl) (vr (r := .d (.int j)) 18 rfl) (id_tup (d := encD d') ea')) pd_int (id_tup (d := encF d'.1) rfl)) fun r hr => ⟨_, hr, ?_⟩
    rw [hf, hf1]; rfl
  have exs : xs = (heldV ds l).map PyData.int := by
    have := Pd.map (f := fun i => PyData.int ((fstAt ds i).getD 0)) hx
    rw [this]
    unfold heldV heldL
    rw [List.map_map]; rfl
  subst exs
  -- seen, waiting, whole
  refine sd_cons (sd_newSeen (st := begin0 ds l) 8 6 hu sc_lflood.nd rfl (.inl rfl) rfl ?_)
  intro D oD
  refine sd_cons (sd_lstN (P := fun rs => rs = [.d (encS (begin0 ds l))]) 9 sc_lflood.nd rfl (.inl rfl) (ac (vr 6 rfl) pma_nil) (fun rs e => ⟨[encS (begin0 ds l)], e, by show 1 ≤ sizeLine; decide, fun D2 o2 => ?_⟩))
  refine sd_cons (sd_asg 10 sc_lflood.nd rfl (.inl rfl) (pd_callB (x := "sum") rfl B.sum (by decide +kernel) (ac (ix (vr 6 rfl) pd_int (id_tup (d := .tuple ((begin0 ds l).1.map PyData.int)) rfl)) pma_nil) (ll_sumT rfl _)) ?_)
  rintro r rfl
  have hW : (begin0 ds l).1.sum.toNat ≤ 10 := by
    have key : ∀ is : List Int, (∀ i ∈ is, needAt ds i ≤ 2) → ((is.map (needAt ds)).sum ≤ 2 * is.length) := by
      intro is
      induction is with
      | nil => intro _; simp
      | cons i is ih =>
        intro hh
        have h1 := ih fun j hj => hh j (List.mem_cons_of_mem _ hj)
        have h2 := hh i List.mem_cons_self
        simp only [List.map_cons, List.sum_cons, List.length_cons]
        omega
    have := key (othersL ds l) fun i hi => by
      obtain ⟨d, hd, _, en, _⟩ := deed_at (others_in hi).1 (others_in hi).2.1
      rw [en]
      exact (hn d (List.mem_of_getElem? hd)).2
    have e : (begin0 ds l).1.sum = ((othersL ds l).map (needAt ds)).sum := rfl
    omega
  have hbig : Wn (begin0 ds l).1.sum.toNat < sizeLine := Nat.lt_of_le_of_lt (Wn_mono hW) (by decide)
  have hbs := begin_shape (l := l) hpos
  refine sd_cons (sd_while (fun u m => ∃ seen wait u11 u12 u13 u14 u15 u16 u17, u = [.v (.d (partsD c h ds)), .v (.d (lotD l)), .v (.d (.int c)), .v (.d (.int h)), .v (.d (dsD ds)), .v (.d (.list ((othersL ds l).map PyData.int))), .v (.d (encS (begin0 ds l))), .v (.d (.list ((heldV ds l).map PyData.int))), .xt D (SeenR P w D seen) (seen.map encS), .lst D2 (wait.map encS), .v (.d (.int (begin0 ds l).1.sum)), u11, u12, u13, u14, u15, u16, u17, .no, .no] ∧ FInv c h (begin0 ds l).1.sum (heldV ds l) (begin0 ds l) (begin0 ds l).1.sum.toNat seen wait ∧ m = pot wait)
    (fun u b => ∀ a xs, u[9]? = some (.lst a xs) → b = decide (0 < xs.length)) PassesOwn.never (m := pot [begin0 ds l]) ⟨[begin0 ds l], [begin0 ds l], .no, .no, .no, .no, .no, .no, .no, rfl, ⟨List.mem_singleton.mpr rfl, fun s hs => by rw [List.mem_singleton.mp hs]; exact .here, fun s hs => hs, fun s hs => .inl hs, by rw [pot_one]; simp; omega, Nat.le_refl _⟩, rfl⟩ ?_ ?_ ?_)
  · rintro u m ⟨seen, wait, u11, u12, u13, u14, u15, u16, u17, rfl, I, rfl⟩
    refine (ct (lenO 9 rfl B.len) pd_int (cd_gt _ _)).mono fun b hb a ys hy => ?_
    have hy' : Sl.lst D2 (wait.map encS) = .lst a ys := Option.some.inj hy
    cases hy'
    rw [hb]
    by_cases q : 0 < (wait.map encS).length
    · rw [decide_eq_true q, decide_eq_true (by omega)]
    · rw [decide_eq_false q, decide_eq_false (by omega)]
  · rintro u m ⟨seen, wait, u11, u12, u13, u14, u15, u16, u17, rfl, I, rfl⟩ hb
    have hp0 := of_decide_eq_true (hb D2 _ rfl).symm
    rw [List.length_map] at hp0
    obtain ⟨wait0, st, rfl⟩ : ∃ wait0 st, wait = wait0 ++ [st] := ⟨wait.dropLast, wait.getLast (List.ne_nil_of_length_pos hp0), (List.dropLast_concat_getLast _).symm⟩
    have hst : st ∈ seen := I.w st (List.mem_append.mpr (.inr (List.mem_singleton.mpr rfl)))
    have hre := I.r st hst
    have hsh := reach_shape hpos hre
    have hl5 : st.1.length ≤ 5 := by rw [hsh.l1]; exact ol
    -- rest, firsts = waiting.pop()
    refine sd_cons (sd_asgTS (d := encS st) (bs := [(11, .tuple (st.1.map PyData.int)), (12, .tuple (st.2.map encO))]) (pms_pop (xs := wait0.map encS) 9 (by show some (Sl.lst D2 ((wait0 ++ [st]).map encS)) = _; rw [List.map_append]; rfl)) (pg_tup (n := 2) rfl (pgs_cons (pg_name (i := 11) sc_lflood.nd rfl (.inr rfl)) (pgs_cons (pg_name (i := 12) sc_lflood.nd rfl (.inl rfl)) pgs_nil))) (tg_tup (tgs_cons tg_name (tgs_cons tg_name tgs_nil)) rfl) ?_)
    -- if sum(rest) == 0: return True
    refine sd_cons (sd_if (ct (pd_callB (x := "sum") rfl B.sum (by decide +kernel) (ac (vr (r := .d (.tuple (st.1.map PyData.int))) 11 rfl) pma_nil) (ll_sumT rfl _)) pd_int (cd_eqI _ _)) (fun q => ?_) fun q => sd_nil ?_)
    · have q : st.1.sum = 0 := of_decide_eq_true q.symm
      refine sd_one (sd_ret pd_bl ?_)
      rintro r rfl
      have : floodB c h ds l = true := floodB_true ⟨st, hre, q⟩
      rw [this]
    have hs0 : st.1.sum ≠ 0 := of_decide_eq_false q.symm
    -- here
    refine sd_cons (sd_asg 13 sc_lflood.nd rfl (.inl rfl) (bn (x := .int (h + (begin0 ds l).1.sum)) (y := .int st.1.sum) (bn (vr (r := .d (.int h)) 3 rfl) (vr (r := .d (.int (begin0 ds l).1.sum)) 10 rfl) (bd_add _ _)) (pd_callB (x := "sum") rfl B.sum (by decide +kernel) (ac (vr (r := .d (.tuple (st.1.map PyData.int))) 11 rfl) pma_nil) (ll_sumT rfl _)) (bd_sub _ _)) ?_)
    rintro r rfl
    generalize hhere : h + (begin0 ds l).1.sum - st.1.sum = here
    refine sd_one (sd_for (A := Int) (ds := idxL st.1.length) (enc := PyData.int) (bs := fun d => [(14, .int d)])
      (fun i t => ∃ added u14 u15 u16 u17, t = [.v (.d (partsD c h ds)), .v (.d (lotD l)), .v (.d (.int c)), .v (.d (.int h)), .v (.d (dsD ds)), .v (.d (.list ((othersL ds l).map PyData.int))), .v (.d (encS (begin0 ds l))), .v (.d (.list ((heldV ds l).map PyData.int))), .xt D (SeenR P w D (seen ++ added)) ((seen ++ added).map encS), .lst D2 ((wait0 ++ added).map encS), .v (.d (.int (begin0 ds l).1.sum)), .v (.d (.tuple (st.1.map PyData.int))), .v (.d (.tuple (st.2.map encO))), .v (.d (.int here)), u14, u15, u16, u17, .no, .no] ∧ added.length ≤ i ∧ (∀ s' ∈ added, Reach c h (begin0 ds l).1.sum (heldV ds l) (begin0 ds l) s' ∧ s'.1.sum = st.1.sum - 1 ∧ 0 < st.1.sum) ∧ ∀ a s', a < i → nextAt c here (heldV ds l) st a = some s' → s' ∈ seen ++ added)
      PassesOwn.never rfl (by rw [← idxL_rng]; exact it_rng (n := (st.1.length : Nat)) rfl B.range (PD.as (lenT B.len (vr (r := .d (.tuple (st.1.map PyData.int))) 11 rfl)) (by rw [List.length_map])) (by omega) (by omega)) (pg_name (i := 14) sc_lflood.nd rfl (.inl rfl)) (fun _ _ => tg_name)
      ⟨[], _, _, _, _, by rw [List.append_nil, List.append_nil]; rfl, Nat.le_refl _, (fun s' hs => nomatch hs), fun a s' ha => absurd ha (Nat.not_lt_zero _)⟩ ?_ ?_)
    · rintro i d u hi ⟨added, u14, u15, u16, u17, rfl, hal, had, hdone⟩
      have hin : i < st.1.length := by have := (List.getElem?_eq_some_iff.mp hi).1; rwa [idxL_len] at this
      have ed : d = (i : Int) := by
        unfold idxL at hi
        rw [List.getElem?_map, List.getElem?_range hin] at hi
        exact (Option.some.inj hi).symm
      subst ed
      have hin2 : i < st.2.length := by rw [hsh.l2, ← hsh.l1]; exact hin
      have hr1 : st.1[i]? = some (st.1.getD i 0) := by rw [List.getD_eq_getElem?_getD, List.getElem?_eq_getElem hin]; rfl
      have hr2 : st.2[i]? = some (st.2.getD i none) := by rw [List.getD_eq_getElem?_getD, List.getElem?_eq_getElem hin2]; rfl
      refine sd_one (sd_if (ct (ix (vr 11 rfl) (vr 14 rfl) (id_tup (d := .int (st.1.getD i 0)) (at_map hr1))) pd_int (cd_gt _ _)) (fun q => ?_) fun q => sd_nil ?_)
      · have q : 0 < st.1.getD i 0 := of_decide_eq_true q.symm
        -- later
        refine sd_cons (sd_asg (Re := fun r => r = .d (.tuple ((st.1.set i (st.1.getD i 0 - 1)).map PyData.int))) 15 sc_lflood.nd rfl (.inl rfl) (PD.as (bn (bn (pd_slT (vr 11 rfl) pdo_none (pdo_some (vr (r := .d (.int (i : Nat))) 14 rfl))) (pd_tup (ds := [.int (st.1.getD i 0 - 1)]) (ac (bn (ix (vr 11 rfl) (vr 14 rfl) (id_tup (d := .int (st.1.getD i 0)) (at_map hr1))) pd_int (bd_sub _ _)) pma_nil) (by show 1 ≤ sizeLine; decide)) (bd_catT _ _ ?_)) (pd_slT (vr 11 rfl) (pdo_some (bn (vr (r := .d (.int (i : Nat))) 14 rfl) pd_int (bd_add _ _))) pdo_none) (bd_catT _ _ ?_)) ?_) ?_)
        · refine Nat.le_trans (Nat.add_le_add_right (cutD_len _ _ _) 1) ?_
          rw [List.length_map]; exact Nat.le_trans (Nat.succ_le_succ hl5) (by decide)
        · rw [List.length_append]
          refine Nat.le_trans (Nat.add_le_add (Nat.add_le_add_right (cutD_len _ _ _) 1) (cutD_len _ _ _)) ?_
          rw [List.length_map]; exact Nat.le_trans (show st.1.length + 1 + st.1.length ≤ 11 by omega) (by decide)
        · rw [cut_set _ (by rw [List.length_map]; exact hin), List.map_set]
        rintro r rfl
        -- places
        refine sd_cons (sd_asg (Re := fun r => r = .d (.tuple ((st.2.set i (some ((st.2.getD i none).getD here))).map encO))) 16 sc_lflood.nd rfl (.inr rfl) (PD.as (bn (bn (pd_slT (vr 12 rfl) pdo_none (pdo_some (vr (r := .d (.int (i : Nat))) 14 rfl))) (pd_tup (ds := [encO (some ((st.2.getD i none).getD here))]) (ac (pd_ite (ct (ix (vr 12 rfl) (vr 14 rfl) (id_tup (d := encO (st.2.getD i none)) (at_map hr2))) pd_non cd_isN) (fun z => ?_) fun z => ?_) pma_nil) (by show 1 ≤ sizeLine; decide)) (bd_catT _ _ ?_)) (pd_slT (vr 12 rfl) (pdo_some (bn (vr (r := .d (.int (i : Nat))) 14 rfl) pd_int (bd_add _ _))) pdo_none) (bd_catT _ _ ?_)) ?_) ?_)
        · have e : st.2.getD i none = none := by
            cases y : st.2.getD i none with
            | none => rfl
            | some x => rw [y] at z; cases z
          rw [e]
          exact vr 13 rfl
        · obtain ⟨x, e⟩ : ∃ x, st.2.getD i none = some x := by
            cases y : st.2.getD i none with
            | none => rw [y] at z; cases z
            | some x => exact ⟨x, rfl⟩
          rw [e] at hr2 ⊢
          exact ix (vr 12 rfl) (vr 14 rfl) (id_tup (d := encO (some x)) (at_map hr2))
        · refine Nat.le_trans (Nat.add_le_add_right (cutD_len _ _ _) 1) ?_
          rw [List.length_map, hsh.l2, ← hsh.l1]; exact Nat.le_trans (Nat.succ_le_succ hl5) (by decide)
        · rw [List.length_append]
          refine Nat.le_trans (Nat.add_le_add (Nat.add_le_add_right (cutD_len _ _ _) 1) (cutD_len _ _ _)) ?_
          rw [List.length_map, hsh.l2, ← hsh.l1]; exact Nat.le_trans (show st.1.length + 1 + st.1.length ≤ 11 by omega) (by decide)
        · rw [cut_set _ (by rw [List.length_map]; exact hin2), List.map_set]
        rintro r rfl
        generalize hpl : st.2.set i (some ((st.2.getD i none).getD here)) = places
        have hplen : places.length = st.1.length := by rw [← hpl, List.length_set, hsh.l2, hsh.l1]
        have atR : ∀ {k : Int}, k ∈ idxL st.1.length → atI (st.1.map PyData.int) k = some (.int (st.1.getD k.toNat 0)) := fun {k} hk => by
          obtain ⟨k0, k1⟩ := idxL_in hk
          refine at_nat k0 ?_
          rw [List.getElem?_map, List.getD_eq_getElem?_getD, List.getElem?_eq_getElem (show k.toNat < st.1.length by omega)]
          rfl
        have atP : ∀ {k : Int}, k ∈ idxL st.1.length → atI (places.map encO) k = some (encO (places.getD k.toNat none)) := fun {k} hk => by
          obtain ⟨k0, k1⟩ := idxL_in hk
          refine at_nat k0 ?_
          rw [List.getElem?_map, List.getD_eq_getElem?_getD, List.getElem?_eq_getElem (show k.toNat < places.length by omega)]
          rfl
        have pi : places.getD i none = some ((st.2.getD i none).getD here) := by
          rw [← hpl, List.getD_eq_getElem?_getD, List.getElem?_set_self hin2]; rfl
        have hcat : ∀ (xs ys : List Int), PyData.list (xs.map PyData.int ++ ys.map PyData.int) = .list ((xs ++ ys).map PyData.int) := fun xs ys => by rw [List.map_append]
        have hne : heldV ds l ++ (((idxL st.1.length).filter fun k => (places.getD k.toNat none).isSome && decide (0 < st.1.getD k.toNat 0)).map fun k => (places.getD k.toNat none).getD 0) ≠ [] := by
          intro z
          have z2 := (List.append_eq_nil_iff.mp z).2
          have z3 := List.map_eq_nil_iff.mp z2
          have hm : (i : Int) ∈ (idxL st.1.length).filter fun k => (places.getD k.toNat none).isSome && decide (0 < st.1.getD k.toNat 0) := by
            refine List.mem_filter.mpr ⟨List.mem_map.mpr ⟨i, List.mem_range.mpr hin, rfl⟩, ?_⟩
            rw [Int.toNat_natCast, pi, decide_eq_true q]; rfl
          rw [z3] at hm
          cases hm
        have hhl : (heldV ds l).length ≤ 5 := by
          unfold heldV heldL
          rw [List.length_map]
          exact Nat.le_trans (List.length_filter_le _ _) ll
        refine sd_cons (sd_asg (Re := fun r => r = .d (.int (leastOf (heldV ds l) st.1 places))) 17 sc_lflood.nd rfl (.inl rfl) (pd_callB (x := "min") (id := "min") (by rfl) B.min (by decide +kernel) (ac (PD.as (x := .list ((heldV ds l ++ (((idxL st.1.length).filter fun k => (places.getD k.toNat none).isSome && decide (0 < st.1.getD k.toNat 0)).map fun k => (places.getD k.toNat none).getD 0)).map PyData.int)) (bn (vr (r := .d (.list ((heldV ds l).map PyData.int))) 7 rfl) (pd_lc1 (A := Int) (ds := idxL st.1.length) (enc := PyData.int) (own := [("_law_k", 19)]) (bs := fun d => [(19, .int d)]) (c := fun k => (places.getD k.toNat none).isSome && decide (0 < st.1.getD k.toNat 0)) (f := fun k => .int ((places.getD k.toNat none).getD 0)) (by rfl) sc_lflood.nd (by rw [← idxL_rng]; exact it_rng (n := (st.1.length : Nat)) rfl B.range (PD.as (lenT B.len (vr (r := .d (.tuple (st.1.map PyData.int))) 11 rfl)) (by rw [List.length_map])) (by omega) (by omega)) (blkOk_by (N := n_lflood) (sc := defScope s_lflood) (by decide +kernel))
          (fun _ _ _ _ _ => pg_name (i := 19) sc_lflood.nd rfl (.inl rfl)) (fun _ _ => tg_name) ow1 (no1 (by rfl)) (fun k hk _ _ _ _ _ => ?_) (fun k hk hc _ _ _ _ _ => ?_) (h64 (by rw [idxL_len]; omega))) (bd_catL _ _ ?_)) ?_) pma_nil) (ll_min (by rfl) _ hne)) ?_)
        · refine PMT.mono (PWD.tst (pdw_and (ct (ix (vr (r := .d (.tuple (places.map encO))) 16 rfl) (vr (r := .d (.int k)) 19 rfl) (id_tup (d := encO (places.getD k.toNat none)) (atP hk))) pd_non cd_notN) fun _ => pwd_and1 (ct (ix (vr (r := .d (.tuple (st.1.map PyData.int))) 11 rfl) (vr (r := .d (.int k)) 19 rfl) (id_tup (d := .int (st.1.getD k.toNat 0)) (atR hk))) pd_int (cd_gt _ _)))) fun b hb => ?_
          rw [hb]
          cases places.getD k.toNat none <;> rfl
        · have hc : ((places.getD k.toNat none).isSome && decide (0 < st.1.getD k.toNat 0)) = true := hc
          rw [Bool.and_eq_true] at hc
          obtain ⟨x, hx⟩ := Option.isSome_iff_exists.mp hc.1
          exact PD.as (d := encO (places.getD k.toNat none)) (ix (vr (r := .d (.tuple (places.map encO))) 16 rfl) (vr (r := .d (.int k)) 19 rfl) (id_tup (d := encO (places.getD k.toNat none)) (atP hk))) (by rw [hx]; rfl)
        · rw [List.length_map, List.length_map]
          refine Nat.le_trans (Nat.add_le_add hhl (Nat.le_trans (List.length_filter_le _ _) (by rw [idxL_len]; exact hl5))) (by decide)
        · rw [← hcat, List.map_map]; rfl
        rintro r rfl
        generalize hls : leastOf (heldV ds l) st.1 places = least
        have enx : nextAt c here (heldV ds l) st i = if here + 1 - least ≤ c then some (st.1.set i (st.1.getD i 0 - 1), places) else none := by
          unfold nextAt
          rw [if_pos q, hpl, hls]
        generalize hst' : ((st.1.set i (st.1.getD i 0 - 1), places) : FState) = st'
        rw [hst'] at enx
        have eS : encS st' = .tuple [.tuple ((st.1.set i (st.1.getD i 0 - 1)).map PyData.int), .tuple (places.map encO)] := by rw [← hst']; rfl
        refine sd_one (sd_if (P := fun b => b = (decide (here + 1 - least ≤ c) && !decide (st' ∈ seen ++ added))) (PWD.tst (pdw_and (ct (bn (x := .int (here + 1)) (y := .int least) (bn (vr (r := .d (.int here)) 13 rfl) pd_int (bd_add _ _)) (vr (r := .d (.int least)) 17 rfl) (bd_sub _ _)) (vr (r := .d (.int c)) 2 rfl) (cd_le _ _)) fun _ => pwd_and1 (ninSeen (st := st') (sts := seen ++ added) 8 hu rfl (PD.as (pd_tup (ds := [.tuple ((st.1.set i (st.1.getD i 0 - 1)).map PyData.int), .tuple (places.map encO)]) (ac (vr 15 rfl) (ac (vr 16 rfl) pma_nil)) (by show 2 ≤ sizeLine; decide)) eS.symm)))) (fun q2 => ?_) fun q2 => sd_nil ?_)
        · have q2 := q2.symm
          rw [Bool.and_eq_true] at q2
          have q3 : here + 1 - least ≤ c := of_decide_eq_true q2.1
          have q4 : st' ∉ seen ++ added := by have := q2.2; simpa using this
          rw [if_pos q3] at enx
          obtain ⟨hsh', hsum', hpos'⟩ := next_shape hsh (by rw [← hsh.l1]; exact hin) enx
          have hre' : Reach c h (begin0 ds l).1.sum (heldV ds l) (begin0 ds l) st' := .step hre hin (by rw [hhere]; exact enx)
          have hcount : (seen ++ added).length < sizeLine ∧ (wait0 ++ added).length < sizeLine := by
            have i1 := I.sz
            have i2 := I.le
            rw [List.length_append, List.length_singleton] at i1 i2
            rw [pot_app, pot_one] at i1
            have i3 := pot_ge wait0
            have e5 : Wn st.1.sum.toNat = 1 + 5 * Wn (st.1.sum.toNat - 1) := by
              have : st.1.sum.toNat = (st.1.sum.toNat - 1) + 1 := by omega
              rw [this]; rfl
            have e6 := Wn_pos (st.1.sum.toNat - 1)
            rw [List.length_append, List.length_append]
            omega
          refine sd_cons (sd_putSeen (st := st') (sts := seen ++ added) 8 hu rfl (PD.as (pd_tup (ds := [.tuple ((st.1.set i (st.1.getD i 0 - 1)).map PyData.int), .tuple (places.map encO)]) (ac (vr 15 rfl) (ac (vr 16 rfl) pma_nil)) (by show 2 ≤ sizeLine; decide)) eS.symm) q4 hcount.1 ?_)
          refine sd_one (sd_app 9 rfl (.inl rfl) rfl (PD.as (pd_tup (ds := [.tuple ((st.1.set i (st.1.getD i 0 - 1)).map PyData.int), .tuple (places.map encO)]) (ac (vr 15 rfl) (ac (vr 16 rfl) pma_nil)) (by show 2 ≤ sizeLine; decide)) eS.symm) (by rw [List.length_map]; exact hcount.2) ?_)
          rintro r rfl
          refine ⟨_, rfl, added ++ [st'], .v (.d (.int (i : Nat))), .v (.d (.tuple ((st.1.set i (st.1.getD i 0 - 1)).map PyData.int))), .v (.d (.tuple (places.map encO))), .v (.d (.int least)), ?_, by rw [List.length_append]; exact Nat.succ_le_succ hal, fun s' hs' => ?_, fun a s' ha e => ?_⟩
          · rw [← List.append_assoc, ← List.append_assoc, List.map_append (l₁ := wait0 ++ added)]
            rfl
          · rcases List.mem_append.mp hs' with z | z
            · exact had s' z
            · rw [List.mem_singleton.mp z]
              exact ⟨hre', hsum', hpos'⟩
          · rw [← List.append_assoc]
            by_cases z : a = i
            · subst z
              rw [enx] at e
              cases e
              exact List.mem_append.mpr (.inr (List.mem_singleton.mpr rfl))
            · exact List.mem_append.mpr (.inl (hdone a s' (by omega) e))
        · refine ⟨added, .v (.d (.int (i : Nat))), .v (.d (.tuple ((st.1.set i (st.1.getD i 0 - 1)).map PyData.int))), .v (.d (.tuple (places.map encO))), .v (.d (.int least)), rfl, Nat.le_succ_of_le hal, had, fun a s' ha e => ?_⟩
          by_cases z : a = i
          · subst z
            rw [enx] at e
            split at e
            · rename_i q3
              cases e
              rw [decide_eq_true q3, Bool.true_and] at q2
              by_cases y : st' ∈ seen ++ added
              · exact y
              · rw [decide_eq_false y] at q2; cases q2
            · cases e
          · exact hdone a s' (by omega) e
      · have q : ¬ 0 < st.1.getD i 0 := of_decide_eq_false q.symm
        refine ⟨added, _, _, _, _, rfl, Nat.le_succ_of_le hal, had, fun a s' ha e => ?_⟩
        by_cases z : a = i
        · subst z
          unfold nextAt at e
          rw [if_neg q] at e
          cases e
        · exact hdone a s' (by omega) e
    · rintro u ⟨added, u14, u15, u16, u17, rfl, hal, had, hdone⟩
      rw [idxL_len] at hal hdone
      have hnn := sum_pos st.1 hsh.pos
      have ek : st.1.sum.toNat = (st.1.sum.toNat - 1) + 1 := by omega
      have e5 : Wn st.1.sum.toNat = 1 + 5 * Wn (st.1.sum.toNat - 1) := by
        conv => lhs; rw [ek]
        rfl
      have epa : pot added = added.length * Wn (st.1.sum.toNat - 1) := pot_const fun x hx => by
        have := (had x hx).2.1
        omega
      have hmul : added.length * Wn (st.1.sum.toNat - 1) ≤ 5 * Wn (st.1.sum.toNat - 1) := Nat.mul_le_mul_right _ (Nat.le_trans hal hl5)
      refine ⟨pot (wait0 ++ added), ?_, seen ++ added, wait0 ++ added, _, _, _, _, _, _, _, rfl, ⟨List.mem_append.mpr (.inl I.b), fun s' hs' => ?_, fun s' hs' => ?_, fun s' hs' => ?_, ?_, ?_⟩, rfl⟩
      · rw [pot_app, pot_app, pot_one, epa, e5]
        omega
      · rcases List.mem_append.mp hs' with z | z
        · exact I.r s' z
        · exact (had s' z).1
      · rcases List.mem_append.mp hs' with z | z
        · exact List.mem_append.mpr (.inl (I.w s' (List.mem_append.mpr (.inl z))))
        · exact List.mem_append.mpr (.inr z)
      · rcases List.mem_append.mp hs' with z | z
        · rcases I.dn s' z with y | y
          · rcases List.mem_append.mp y with x | x
            · exact .inl (List.mem_append.mpr (.inl x))
            · rw [List.mem_singleton.mp x]
              exact .inr ⟨hs0, fun a s2 ha e => hdone a s2 ha (by rw [hhere] at e; exact e)⟩
          · exact .inr ⟨y.1, fun a s2 ha e => List.mem_append.mpr (.inl (y.2 a s2 ha e))⟩
        · exact .inl (List.mem_append.mpr (.inr z))
      · have i1 := I.sz
        rw [List.length_append, List.length_singleton, pot_app, pot_one, e5] at i1
        rw [List.length_append, List.length_append, pot_app, epa]
        omega
      · have := I.le
        rw [List.length_append, List.length_singleton] at this
        rw [List.length_append, List.length_append]
        omega
  · rintro u m ⟨seen, wait, u11, u12, u13, u14, u15, u16, u17, rfl, I, rfl⟩ hb
    have hp0 := of_decide_eq_false (hb D2 _ rfl).symm
    rw [List.length_map] at hp0
    have hw : wait = [] := List.length_eq_zero_iff.mp (by omega)
    subst hw
    refine sd_one (sd_ret pd_bl ?_)
    rintro r rfl
    have : floodB c h ds l = false := floodB_false fun ⟨s, hr, hs⟩ => (flood_end I hr).2 hs
    rw [this]
end
end K33

-- part T19
set_option Elab.async false
set_option maxRecDepth 100000
set_option maxHeartbeats 4000000
set_option linter.all false
namespace Fw
open PySem PySem.Spec PyProof.Rows L2
section
variable {X : Cx} {a b e : Expr} {t : Ty} {R : Po} {pos p pp nx p2 cp : Pos} {x nm : Str} {d : PyData} {i : Int} {lo hi : Option Expr} {l u : Option Int}
/-- int(e), e a number -/
theorem iI (hm : X.mg "int" = none) (he : PD X e t (.int i)) (hg : Gl X "int" := by rfl) (hs : starEach (e :: []) X.env = (false, eval e X.env) :: starEach [] X.env := by rfl) (hpl : (backTo pos (starEach [] X.env)).any (·.1) = false := by rfl) :
    PD X (.Call (.Name "int" p) [e] [] pos) t (.int i) := pd_callT (x := "int") (T := "int") hg hm (by decide +kernel) (pda_cons he pma_nil hs) (ll_int i) (by decide) (by decide) hs hpl
theorem iIB {k : Bool} (hm : X.mg "int" = none) (he : PD X e t (.bool k)) (hg : Gl X "int" := by rfl) (hs : starEach (e :: []) X.env = (false, eval e X.env) :: starEach [] X.env := by rfl) (hpl : (backTo pos (starEach [] X.env)).any (·.1) = false := by rfl) :
    PD X (.Call (.Name "int" p) [e] [] pos) t (.int (if k then 1 else 0)) := pd_callT (x := "int") (T := "int") hg hm (by decide +kernel) (pda_cons he pma_nil hs) (ll_intB k) (by decide) (by decide) hs hpl
/-- a slice of the script -/
theorem pd_slSc {ns : List Int} (he : PM X e t (fun r => r = .sc X.K ns)) (hl : PDO X lo t l) (hu : PDO X hi t u) : PD X (.Subscript e (.Slice lo hi none p2) pos) t (.list (Fw.cutD (ns.map PyData.int) l u)) := fun N sg F H Q S q => by
  obtain ⟨tl, pl, wl⟩ := hl
  obtain ⟨tu, pu, wu⟩ := hu
  refine use_e (pe_slice sl_list (pe_of X e) pl pu) (he N sg F H _ S fun v F1 H1 r1 S1 s1 d1 hr1 => wl N sg F1 H1 _ S1 fun F2 H2 S2 s2 => wu N sg F2 H2 _ S2 fun F3 H3 S3 s3 => ?_)
  subst hr1
  obtain ⟨a, rfl, h⟩ := d1
  have mono : ∀ {G G' : Hp}, Same G G' → SqL X.K G a (ns.map V.int) → SqL X.K G' a (ns.map V.int) := fun {G G'} e h => by
    rcases h with (h | ⟨o, h⟩) | h
    · exact .inl (.inl (e _ _ h))
    · exact .inl (.inr ⟨o, e _ _ h⟩)
    · exact .inr h
  refine ⟨a, ns.map V.int, rfl, mono ((s2.trans s3).trans S3.fh) h, fun p hp => ?_⟩
  have sn := same_new (o := .lst (cutV (ns.map V.int) l u)) (S3.fh.free hp)
  exact q _ _ _ (.d _) (S3.grow (Gr.new S3.fh hp)) (((s1.trans s2).trans s3).trans sn) (.lst upd_same (cut_dq (DqA.ofInts ns))) rfl
end
theorem use_pda {X : Cx} {es : List Expr} {t : Ty} {rs : List Dt} {N : En} {sg : St} {F H : Hp} {Q : List V → Hp → Prop} (h : PDA X es t rs) (S : StO N F H sg t) (q : ∀ vs F' H', StO N F' H' sg t → Same F F' → DtA F' vs rs → Q vs H') : taOf X es sg H Q :=
  h N sg F H Q S fun vs F' H' rs' S' s' d' e => q vs F' H' S' s' (e ▸ d')
/-- the def that makes the hand -/
def spHd (K : PySem.W.Frag) : Sp := fun vs H Q _ => vs.length = 1 ∧ ∃ (F : Hp) (ns : List Int), Same F H ∧ DtA F vs [.sc K ns] ∧ ns.length ≤ 63 ∧ ∀ a F' H' ws hs, Gr F H F' H' → H a = none → F' a = none → H' a = some (.lst ws) → DqA F' ws hs → HandOk hs → Q (.ref a) H'
section
variable {X : Cx} {e : Expr} {t : Ty} {R : Po} {pos p pp nx p2 cp : Pos} {x nm : Str}
/-- x = nm(e): a new hand -/
theorem sd_hand {k : Nat} {ps : List Str} {ns : List Int} (i : Nat) (C : Cal X.prog X.w X.K X.mg X.base nm k ps (spHd X.K)) (hr : Room k X.A) (hN : X.N.Nodup) (hi : X.N[i]? = some x) (hx : Loc X.env.scope x) (he : PM X e t (fun r => r = .sc X.K ns)) (hl : ns.length ≤ 63) (kk : ∀ D, D ∉ ows t → R.nx (t.set i (.hand D))) (hg : Gl X nm := by rfl)
    (hdb : (nm == ("__debug__" : Str)) = false := by decide) (hst : starEach [e] X.env = (false, eval e X.env) :: starEach [] X.env := by rfl) (hpl : (backTo cp (starEach [] X.env)).any (·.1) = false := by rfl) (hs : swapsWith (.Call (.Name nm p) [e] [] cp) (some (.Name x nx)) pos.line X.env = pure false := by rfl)
    (hf : X.fn x = true ∨ X.env.scope.names.lookup x = some .local := by first | exact .inl rfl | exact .inr rfl) : SD X (.Assign [.Name x nx] (.Call (.Name nm p) [e] [] cp) pos) t R := fun N sg F H Ds S q => by
  obtain ⟨f, fd, G, hm, hk, hb⟩ := C
  refine use_s (ps_set hN hi hx (pe_call (dvs := []) (E := E0) G hr hg hm hk hb .nil pass0 (pa_cons (pe_of X e) pa_nil hst) hdb hst hpl) hs hf) (he N sg F H _ S fun v F1 H1 r1 S1 s1 d1 hr1 => ?_)
  subst hr1
  refine ⟨rfl, F1, ns, S1.fh, .cons d1 .nil, hl, fun a F' H' ws hs g ha fa hh dw hok => ?_⟩
  obtain ⟨n1, n2, n3⟩ := S1.new_ ha
  have S2 := S1.grow g
  exact q.nx _ F' H' _ (StO.own (s := .hand a) S2 rfl n1 n3 ⟨rfl, fa, ws, hs, hh, dw, hok⟩) (kk a n3)
end
end Fw
namespace K33
open PySem PySem.Spec PyProof.Rows L2 Fw
section
variable {P : Program} {w : World} {K : PySem.W.Frag} {mg : Str → Option Value} {base : Heap}
/-! ### _law_draw, _law_any -/
abbrev s_ldraw : Stmt := top 37
abbrev n_ldraw1 : List Str := ["_law_many", "_law_cell", "_law_digit", "_law_number"]
theorem sc_ldraw : FnScope ("_law_hand_here" :: n_ldraw1) ["_law_hand_here", "_law_many"] (defScope s_ldraw) := ⟨rfl, rfl, rfl, by decide +kernel, rfl, by decide +kernel, by decide +kernel⟩
def pre_draw (rs : List Dt) : Prop := ∃ m : Int, rs = [.d (.int m)] ∧ 0 < m ∧ m < 2 ^ 100
def phi_draw (rs : List Dt) (r : Dt) : Prop := ∃ m x : Int, rs = [.d (.int m)] ∧ r = .d (.int x) ∧ 0 ≤ x ∧ x < m
theorem lim_log {m : Int} (h0 : 0 < m) (h : m < 2 ^ 100) : m.natAbs.log2 < 9000 := by
  have h1 : m.natAbs < 2 ^ 100 := by omega
  have := (Nat.log2_lt (by omega)).mpr h1
  omega
theorem c_ldraw (F : HasFn K mg "_law_draw" s_ldraw ["_law_hand_here", "_law_many"]) (B : Bt mg) : Cal P w K mg base "_law_draw" 1 ["_law_hand_here", "_law_many"] (spH 2 pre_draw phi_draw) := by
  refine cal_hand F sc_ldraw rfl fun f cdv A outer s H E hr rs h hl ⟨m, e1, m0, m1⟩ => ?_
  subst e1
  have fin : ∀ {x : Int}, 0 ≤ x → x < m → phi_draw [.d (.int m)] (.d (.int x)) := fun {x} h1 h2 => ⟨m, x, rfl, rfl, h1, h2⟩
  -- the two later parts
  have rest : ∀ hs u2, HandOk hs → SDs (bx P w K mg base ("_law_hand_here" :: n_ldraw1) "_law_draw" s_ldraw f cdv A outer s H E) ((defBody s_ldraw).drop 1) [.lst h hs, .v (.d (.int m)), u2, .no, .no]
      ⟨fun t => HandT t h ∧ phi_draw [.d (.int m)] (.d .none), fun r t' => HandT t' h ∧ phi_draw [.d (.int m)] r, fun _ => False, fun _ => False⟩ := by
    rintro hs u2 ⟨cs, at_, num, seed, cnt, rfl, hc, hcl, ha0, ha1, hn0⟩
    refine sd_cons (sd_if (ct (ixO (d := .int num) 0 rfl pd_int rfl) pd_int (cd_gt _ _)) (fun q => ?_) fun q => sd_nil ?_)
    · have q : 0 < num := of_decide_eq_true q.symm
      refine sd_cons (sd_asg (Re := fun r => r = .d (.int (num % m))) 3 sc_ldraw.nd rfl (.inl rfl) (bn (iI B.int (ixO (d := .int num) 0 rfl pd_int rfl)) (vr 1 rfl) (bd_mod num m m0)) ?_)
      rintro r rfl
      refine sd_cons (sd_setI (d := .int (num / m)) (n := 2) 0 rfl (bn (ixO (d := .int num) 0 rfl pd_int rfl) (vr (r := .d (.int m)) 1 rfl) (bd_div num m ⟨m0, lim_log m0 m1⟩)) pd_int rfl ?_)
      refine sd_one (sd_ret (vr 3 rfl) ?_)
      rintro r rfl
      refine ⟨.inr ⟨_, ⟨cs, at_, num / m, seed, cnt, rfl, hc, hcl, ha0, ha1, Int.ediv_nonneg hn0 (by omega)⟩, rfl⟩, fin (Int.emod_nonneg _ (by omega)) (Int.emod_lt_of_pos _ m0)⟩
    · refine sd_cons (sd_setI (d := .int (cnt + 1)) (n := 4) 0 rfl (bn (ixO (d := .int cnt) 0 rfl pd_int rfl) pd_int (bd_add _ _)) pd_int rfl ?_)
      generalize hX : ((seed + 7919 * (cnt + 1)) * 48271) % 2147483647 = n1
      have b1 : 0 ≤ n1 ∧ n1 < 2147483647 := by rw [← hX]; exact ⟨Int.emod_nonneg _ (by decide), Int.emod_lt_of_pos _ (by decide)⟩
      refine sd_cons (sd_asg (Re := fun r => r = .d (.int n1)) 4 sc_ldraw.nd rfl (.inl rfl) (PD.as (bn (iI B.int (bn (iI B.int (bn (ixO (d := .int seed) 0 rfl pd_int rfl) (bn pd_int (ixO (d := .int (cnt + 1)) 0 rfl pd_int rfl) (bd_mul _ _ (.inl ⟨by decide, by decide⟩))) (bd_add _ _))) pd_int (bd_mul _ _ (.inr ⟨by decide, by decide⟩)))) pd_int (bd_mod _ _ (by decide))) (by rw [hX])) ?_)
      rintro r rfl
      generalize hY : (n1 * (n1 / 1009 + 69621)) % 2147483647 = n2
      have b2 : 0 ≤ n2 ∧ n2 < 2147483647 := by rw [← hY]; exact ⟨Int.emod_nonneg _ (by decide), Int.emod_lt_of_pos _ (by decide)⟩
      refine sd_cons (sd_asg (Re := fun r => r = .d (.int n2)) 4 sc_ldraw.nd rfl (.inl rfl) (PD.as (bn (iI B.int (bn (vr (r := .d (.int n1)) 4 rfl) (bn (bn (vr (r := .d (.int n1)) 4 rfl) pd_int (bd_div _ _ ⟨by decide, by decide +kernel⟩)) pd_int (bd_add _ _)) (bd_mul _ _ (.inl ⟨by omega, by omega⟩)))) pd_int (bd_mod _ _ (by decide))) (by rw [hY])) ?_)
      rintro r rfl
      generalize hZ : (n2 * (n2 / 2003 + 40692)) % 2147483399 = n3
      have b3 : 0 ≤ n3 := by rw [← hZ]; exact Int.emod_nonneg _ (by decide)
      refine sd_cons (sd_asg (Re := fun r => r = .d (.int n3)) 4 sc_ldraw.nd rfl (.inl rfl) (PD.as (bn (iI B.int (bn (vr (r := .d (.int n2)) 4 rfl) (bn (bn (vr (r := .d (.int n2)) 4 rfl) pd_int (bd_div _ _ ⟨by decide, by decide +kernel⟩)) pd_int (bd_add _ _)) (bd_mul _ _ (.inl ⟨by omega, by omega⟩)))) pd_int (bd_mod _ _ (by decide))) (by rw [hZ])) ?_)
      rintro r rfl
      refine sd_one (sd_ret (bn (x := .int (n3 / 16)) (iI B.int (bn (vr (r := .d (.int n3)) 4 rfl) pd_int (bd_div _ _ ⟨by decide, by decide +kernel⟩))) (vr (r := .d (.int m)) 1 rfl) (bd_mod _ _ m0)) ?_)
      rintro r rfl
      exact ⟨.inr ⟨_, ⟨cs, at_, num, seed, cnt + 1, rfl, hc, hcl, ha0, ha1, hn0⟩, rfl⟩, fin (Int.emod_nonneg _ (by omega)) (Int.emod_lt_of_pos _ m0)⟩
  refine sds_open rfl fun hs hok => ?_
  have hok' := hok
  obtain ⟨cs, at_, num, seed, cnt, rfl, hc, hcl, ha0, ha1, hn0⟩ := hok
  refine sd_cons (sd_if (P := fun b => b = (decide (num = 0) && decide (at_ < cs.length))) (PMT.mono (PWD.tst (pdw_and (ct (ixO (d := .int num) 0 rfl pd_int rfl) pd_int (cd_eqI _ _)) fun _ => pwd_and1 (ct (ixO (d := .int at_) 0 rfl pd_int rfl) (lenL B.len (ixO (d := .list (cs.map PyData.int)) 0 rfl pd_int rfl)) (cd_lt _ _)))) fun b hb => by rw [hb, List.length_map]) (fun q => ?_) fun q => sd_nil (rest _ _ hok'))
  have q := q.symm
  rw [Bool.and_eq_true] at q
  have q1 : num = 0 := of_decide_eq_true q.1
  have q2 : at_ < cs.length := of_decide_eq_true q.2
  have hcell : cs[at_.toNat]? = some (cs.getD at_.toNat 0) := by rw [List.getD_eq_getElem?_getD, List.getElem?_eq_getElem (show at_.toNat < cs.length by omega)]; rfl
  generalize cs.getD at_.toNat 0 = cell at hcell
  have hc0 := hc cell (List.mem_of_getElem? hcell)
  refine sd_cons (sd_asg (Re := fun r => r = .d (.int cell)) 2 sc_ldraw.nd rfl (.inl rfl) (ix (ixO (d := .list (cs.map PyData.int)) 0 rfl pd_int rfl) (ixO (d := .int at_) 0 rfl pd_int rfl) (id_lst (d := .int cell) (at_nat ha0 (by rw [List.getElem?_map, hcell]; rfl)))) ?_)
  rintro r rfl
  refine sd_cons (sd_setI (d := .int (at_ + 1)) (n := 1) 0 rfl (bn (ixO (d := .int at_) 0 rfl pd_int rfl) pd_int (bd_add _ _)) pd_int rfl ?_)
  refine sd_cons (sd_setI (d := .int ((seed * 69621 + cell + 11) % 2147483629)) (n := 3) 0 rfl (bn (iI B.int (bn (x := .int (seed * 69621 + cell)) (bn (x := .int (seed * 69621)) (bn (ixO (d := .int seed) 0 rfl pd_int rfl) pd_int (bd_mul _ _ (.inr ⟨by decide, by decide⟩))) (vr (r := .d (.int cell)) 2 rfl) (bd_add _ _)) pd_int (bd_add _ _))) pd_int (bd_mod _ _ (by decide))) pd_int rfl ?_)
  have ok1 : HandOk [.list (cs.map PyData.int), .int (at_ + 1), .int num, .int ((seed * 69621 + cell + 11) % 2147483629), .int cnt] := ⟨cs, at_ + 1, num, _, cnt, rfl, hc, hcl, by omega, by omega, hn0⟩
  refine sd_one (sd_if (ct (vr (r := .d (.int cell)) 2 rfl) (bn pd_int pd_int (bd_pow 10 18 ⟨by decide, by decide, by decide⟩)) (cd_ge _ _)) (fun q => ?_) fun q => sd_nil (rest _ _ ok1))
  refine sd_one (sd_setI (d := .int cell) (n := 2) 0 rfl (vr (r := .d (.int cell)) 2 rfl) pd_int rfl ?_)
  exact rest _ _ ⟨cs, at_ + 1, cell, _, cnt, rfl, hc, hcl, by omega, by omega, hc0⟩
abbrev s_lany : Stmt := top 38
theorem sc_lany : FnScope ("_law_hand_here" :: ["_law_some"]) ["_law_hand_here", "_law_some"] (defScope s_lany) := ⟨rfl, rfl, rfl, by decide +kernel, rfl, by decide +kernel, by decide +kernel⟩
def pre_any (rs : List Dt) : Prop := ∃ xs : List PyData, rs = [.d (.list xs)] ∧ xs ≠ [] ∧ xs.length < 2 ^ 30
def phi_any (rs : List Dt) (r : Dt) : Prop := ∃ (xs : List PyData) (x : PyData), rs = [.d (.list xs)] ∧ r = .d x ∧ x ∈ xs
theorem c_lany (F : HasFn K mg "_law_any" s_lany ["_law_hand_here", "_law_some"]) (B : Bt mg) (C1 : Cal P w K mg base "_law_draw" 1 ["_law_hand_here", "_law_many"] (spH 2 pre_draw phi_draw)) : Cal P w K mg base "_law_any" 2 ["_law_hand_here", "_law_some"] (spH 2 pre_any phi_any) := by
  refine cal_hand F sc_lany rfl fun f cdv A outer s H E hr rs h hl ⟨xs, e1, h0, h1⟩ => ?_
  subst e1
  have hp : 0 < xs.length := List.length_pos_iff.mpr h0
  refine sd_one (sd_ret (Re := fun r => ∃ x, r = .d x ∧ x ∈ xs) (pm_ix (Ra := fun r => r = .d (.list xs)) (Rb := fun _ r => ∃ x : Int, r = .d (.int x) ∧ 0 ≤ x ∧ x < xs.length) (vr 1 rfl) (fun _ _ => pm_calH 0 C1 hr rfl (ac (lenL B.len (vr 1 rfl)) pma_nil) (fun rs e => by
    subst e
    refine ⟨rfl, ⟨_, rfl, by omega, by omega⟩, fun r ⟨m, x, e1, e2, x0, x1⟩ => ?_⟩
    cases e1
    exact ⟨x, e2, x0, x1⟩)) (fun r s e1 ⟨x, e2, x0, x1⟩ => ?_) (fun _ _ => rfl)) fun r ⟨x, e, hx⟩ => ⟨.inl rfl, xs, x, rfl, e, hx⟩)
  have hi : x.toNat < xs.length := by omega
  exact ⟨.list xs, .int x, xs[x.toNat], e1, e2, id_lst (at_nat x0 (List.getElem?_eq_getElem hi)), _, rfl, List.getElem_mem hi⟩
/-! ### _law_hand -/
abbrev s_lhand : Stmt := top 36
abbrev n_lhand : List Str := ["_law_script", "_law_cells", "_law_cell"]
theorem sc_lhand : FnScope n_lhand ["_law_script"] (defScope s_lhand) := ⟨rfl, rfl, rfl, by decide +kernel, rfl, by decide +kernel, by decide +kernel⟩
theorem c_lhand (F : HasFn K mg "_law_hand" s_lhand ["_law_script"]) (B : Bt mg) : Cal P w K mg base "_law_hand" 1 ["_law_script"] (spHd K) := by
  obtain ⟨f, fd, h1, h2, h3⟩ := F
  refine ⟨f, fd, h1.ok sc_lhand (fun vs H Q E h => h.1) fun cdv A outer s H vs Q E hr h => ?_, h2, h1.kp, h3⟩
  obtain ⟨hl, F0, ns, fh, da, hlen, q⟩ := h
  refine ⟨tbOf _ _, pb_of _ _, ?_⟩
  let X := bx P w K mg base n_lhand "_law_hand" s_lhand f cdv A outer s H E
  have S0 : StO ⟨F0, H, fun _ => False⟩ F0 H (L2.start n_lhand vs) (startT n_lhand [.sc K ns]) := start_sto fh da (by show 1 ≤ 3; decide)
  have ecut : Fw.cutD (ns.map PyData.int) none (some 63) = ns.map PyData.int := by
    unfold Fw.cutD
    have e63 : (63 : Int) = ((63 : Nat) : Int) := rfl
    rw [HT.sIx_none, e63, HT.sIx_nat, List.length_map, Nat.min_eq_right hlen, List.drop_zero, Nat.sub_zero]
    exact List.take_of_length_le (by rw [List.length_map]; exact Nat.le_refl _)
  show tbOf X (defBody s_lhand) { nx := fun _ H' => Q .non H', rt := Q } (L2.start n_lhand vs) H
  refine use_b (pss_cons (ps_of X _) (pb_of X _)) ?_
  refine (sd_lc0 (A := Int) (X := X) (t := startT n_lhand [.sc K ns]) (R := ⟨fun t' => t' = [.v (.sc K ns), .v (.d (.list ((ns.map fun i => if i < 0 then -i else i).map PyData.int))), .no], fun _ _ => False, fun _ => False, fun _ => False⟩) (ds := ns) (enc := PyData.int) (own := [("_law_cell", 2)]) (bs := fun d => [(2, .int d)]) (E := fun d x => x = .int (if d < 0 then -d else d)) 1 rfl sc_lhand.nd rfl rfl rfl (by exact it_lst (PD.as (pd_slSc (ns := ns) (vr 0 rfl) pdo_none (pdo_some pd_int)) (by rw [ecut]))) (blkOk_by (N := n_lhand) (sc := defScope s_lhand) (by decide +kernel))
    (fun _ _ _ _ _ => pg_name (i := 2) sc_lhand.nd rfl (.inl rfl)) (fun _ _ => tg_name) ow1 (no1 rfl) (fun j hj _ _ _ _ _ => PM.mono (pd_callB (x := "abs") (id := "abs") (by rfl) B.abs (by decide +kernel) (ac (iI B.int (vr 2 rfl)) pma_nil) (ll_abs j)) fun r hr => ⟨_, hr, rfl⟩) (Nat.lt_of_le_of_lt hlen (by decide)) fun xs hx => ?_) _ _ F0 H _ S0 ⟨fun sg F1 H1 t1 S1 e => ?_, fun _ _ _ _ _ _ _ _ z => z.elim, fun _ _ _ _ _ z => z.elim, fun _ _ _ _ _ z => z.elim⟩
  · have := Pd.map (f := fun d : Int => PyData.int (if d < 0 then -d else d)) hx
    rw [this, List.map_map]
    rfl
  · subst e
    have hcs : ∀ c ∈ (ns.map fun i : Int => if i < 0 then -i else i), 0 ≤ c := fun c hc => by
      obtain ⟨i, _, e⟩ := List.mem_map.mp hc
      subst e
      show 0 ≤ (if i < 0 then -i else i)
      split <;> omega
    have hcl : (ns.map fun i : Int => if i < 0 then -i else i).length ≤ 63 := by rw [List.length_map]; exact hlen
    generalize (ns.map fun i : Int => if i < 0 then -i else i) = cs at S1 hcs hcl
    refine use_b (pss_one (ps_of X _)) (use_s (ps_ret (pe_lst (pa_of X _))) ?_)
    refine use_pda (t := [.v (.sc K ns), .v (.d (.list (cs.map PyData.int))), .no]) (rs := [.d (.list (cs.map PyData.int)), .d (.int 0), .d (.int 0), .d (.int (1 + cs.length)), .d (.int 0)]) ?_ S1 fun vs2 F2 H2 S2 s2 d2 => ?_
    · exact ac (vr 1 rfl) (ac pd_int (ac pd_int (ac (bn (x := .int 1) (y := .int cs.length) pd_int (PD.as (d := .int (cs.map PyData.int).length) (lenL B.len (vr 1 rfl)) (by rw [List.length_map])) (bd_add _ _)) (ac pd_int pma_nil))))
    have d3 := dqa_of (ds := [.list (cs.map PyData.int), .int 0, .int 0, .int (1 + cs.length), .int 0]) d2
    refine ⟨by rw [d3.len]; show 5 ≤ sizeLine; decide, fun p hp => ?_⟩
    obtain ⟨n1, n2, _⟩ := S2.new_ hp
    exact q p F2 _ vs2 _ (S2.gr.trans (Gr.lay S2.fh hp)) n1 n2 upd_same d3 ⟨cs, 0, 0, _, 0, rfl, hcs, hcl, Int.le_refl _, by omega, Int.le_refl _⟩
end
end K33

-- part T20
set_option Elab.async false
set_option maxRecDepth 100000
set_option maxHeartbeats 4000000
set_option linter.all false
namespace K33
open PySem PySem.Spec PyProof.Rows L2 Fw
/-! ### a standing that is drawn -/
theorem atI_last {α : Type} (xs : List α) (x : α) : atI (xs ++ [x]) (-1) = some x := by
  unfold atI ixN
  rw [if_neg (by decide), if_pos (by rw [List.length_append, List.length_singleton]; omega)]
  have e : ((-1 : Int) + ((xs ++ [x]).length : Nat)).toNat = xs.length := by rw [List.length_append, List.length_singleton]; omega
  rw [e]
  show (xs ++ [x])[xs.length]? = some x
  rw [List.getElem?_append_right (Nat.le_refl _), Nat.sub_self]
  rfl
theorem fFirst_mono {p q : Int} (h : p ≤ q) {la f : Option Int} (e : fFirst p la f = true) : fFirst q la f = true := by
  cases f with
  | none => rfl
  | some x =>
    cases la with
    | none => cases e
    | some l =>
      have e : (decide (l + 1 ≤ x) && decide (x ≤ p - 1)) = true := e
      rw [Bool.and_eq_true] at e
      have h1 := of_decide_eq_true e.1
      have h2 := of_decide_eq_true e.2
      show (decide (l + 1 ≤ x) && decide (x ≤ q - 1)) = true
      rw [decide_eq_true h1, decide_eq_true (by omega)]; rfl
theorem Vf_mono {p q : Int} (h : p ≤ q) : ∀ {la : Option Int} {ds : List Deed}, Vf p la ds → Vf q la ds
  | _, [], _ => trivial
  | _, (f, n) :: r, ⟨h1, h2, h3, h4⟩ => ⟨fFirst_mono h h1, h2, h3, Vf_mono h h4⟩
theorem Vf_none {p : Int} {n : Int} (h0 : 0 ≤ n) (h1 : n ≤ 10 ^ 30) : ∀ {la : Option Int} {ds : List Deed}, Vf p la ds → Vf p la (ds ++ [(none, n)])
  | _, [], _ => ⟨rfl, h0, h1, trivial⟩
  | _, (f, m) :: r, ⟨h2, h3, h4, h5⟩ => ⟨h2, h3, h4, Vf_none h0 h1 h5⟩
/-- the last deed has a first, or there is none -/
def LastOk (p : Int) (la : Option Int) : List Deed → Prop
  | [] => ∃ l, la = some l ∧ l + 1 ≤ p
  | (f, _) :: r => LastOk p f r
theorem Vf_some {p q x : Int} {n : Int} (h0 : 0 ≤ n) (h1 : n ≤ 10 ^ 30) (hx : p ≤ x) (hq : x + 1 ≤ q) : ∀ {la : Option Int} {ds : List Deed}, Vf p la ds → LastOk p la ds → Vf q la (ds ++ [(some x, n)])
  | la, [], _, ⟨l, e, hl⟩ => by
    subst e
    refine ⟨?_, h0, h1, trivial⟩
    show (decide (l + 1 ≤ x) && decide (x ≤ q - 1)) = true
    rw [decide_eq_true (by omega), decide_eq_true (by omega)]; rfl
  | la, (f, m) :: r, ⟨h2, h3, h4, h5⟩, hl => ⟨fFirst_mono (by omega) h2, h3, h4, Vf_some h0 h1 hx hq h5 hl⟩
theorem last_ok {p : Int} : ∀ {la : Option Int} {ds : List Deed}, Vf p la ds → (∀ d, ds.getLast? = some d → d.1.isSome = true) → (ds = [] → ∃ l, la = some l ∧ l + 1 ≤ p) → LastOk p la ds
  | la, [], _, _, h => h rfl
  | la, (f, m) :: r, ⟨h2, h3, h4, h5⟩, hl, _ => by
    refine last_ok (la := f) h5 (fun d hd => hl d ?_) fun hr => ?_
    · cases r with
      | nil => cases hd
      | cons e r => rw [List.getLast?_cons_cons]; exact hd
    · subst hr
      have hf := hl (f, m) rfl
      obtain ⟨x, hx⟩ := Option.isSome_iff_exists.mp hf
      have hx : f = some x := hx
      subst hx
      refine ⟨x, rfl, ?_⟩
      cases la with
      | none => cases h2
      | some l =>
        have h2 : (decide (l + 1 ≤ x) && decide (x ≤ p - 1)) = true := h2
        rw [Bool.and_eq_true] at h2
        have := of_decide_eq_true h2.2
        omega
theorem sum_le {B : Int} (hB : 0 ≤ B) : ∀ (ds : List Deed), (∀ d ∈ ds, 0 ≤ d.2 ∧ d.2 ≤ B) → 0 ≤ (ds.map (·.2)).sum ∧ (ds.map (·.2)).sum ≤ B * ds.length
  | [], _ => by simp
  | d :: ds, h => by
    have ih := sum_le hB ds fun x hx => h x (List.mem_cons_of_mem _ hx)
    have h1 := h d List.mem_cons_self
    simp only [List.map_cons, List.sum_cons, List.length_cons]
    have e : B * ((ds.length + 1 : Nat) : Int) = B * ds.length + B := by rw [Int.natCast_succ, Int.mul_add, Int.mul_one]
    omega
def pre_std (rs : List Dt) : Prop := ∃ most need : Int, rs = [.d (.int most), .d (.int need)] ∧ 0 ≤ most ∧ most ≤ 8 ∧ 0 ≤ need ∧ need ≤ 10 ^ 20
def phi_std (rs : List Dt) (r : Dt) : Prop := ∃ (most need c h : Int) (ds : List Deed), rs = [.d (.int most), .d (.int need)] ∧ r = .d (partsD c h ds) ∧ (ds.length : Int) ≤ most ∧ (∀ d ∈ ds, 0 ≤ d.2 ∧ d.2 ≤ need) ∧ StOk c h ds ∧ h ≤ 100
section
variable {P : Program} {w : World} {K : PySem.W.Frag} {mg : Str → Option Value} {base : Heap}
abbrev s_lstd : Stmt := top 42
abbrev n_lstd1 : List Str := ["_law_most", "_law_need", "_law_many", "_law_place", "_law_deeds", "_law_at", "_law_head", "_law_first", "_law_cells", "_law_deed"]
theorem sc_lstd : FnScope ("_law_hand_here" :: n_lstd1) ["_law_hand_here", "_law_most", "_law_need"] (defScope s_lstd) := ⟨rfl, rfl, rfl, by decide +kernel, rfl, by decide +kernel, by decide +kernel⟩
/-- a draw below a number known -/
theorem drw {X : Cx} {t : Ty} {e : Expr} {pos p nx : Pos} {x : Str} {h : Addr} {m : Int} (C : Cal X.prog X.w X.K X.mg X.base "_law_draw" 1 ["_law_hand_here", "_law_many"] (spH 2 pre_draw phi_draw)) (hr : Room 1 X.A) (ht : t[0]? = some (.hand h)) (he : PD X e t (.int m)) (m0 : 0 < m) (m1 : m < 2 ^ 100) (hN : X.N[0]? = some x := by rfl) (hv : Vis X.env.scope x := by first | exact Or.inl rfl | exact Or.inr (Or.inl rfl) | exact Or.inr (Or.inr rfl)) (hg : Gl X "_law_draw" := by rfl)
    (hd : (x == ("__debug__" : Str)) = false := by decide) (hcd : (x == ("__classdict__" : Str)) = false := by decide) (hst : starEach (.Name x nx :: [e]) X.env = (false, eval (.Name x nx) X.env) :: starEach [e] X.env := by rfl) (hst2 : starEach [e] X.env = (false, eval e X.env) :: starEach [] X.env := by rfl) (hpl : (backTo pos (starEach [e] X.env)).any (·.1) = false := by rfl) :
    PM X (.Call (.Name "_law_draw" p) [.Name x nx, e] [] pos) t (fun r => ∃ i : Int, r = .d (.int i) ∧ 0 ≤ i ∧ i < m) :=
  pm_calH 0 C hr ht (ac he pma_nil hst2) (fun rs e => by
    subst e
    refine ⟨rfl, ⟨m, rfl, m0, m1⟩, fun r ⟨m', i, e1, e2, i0, i1⟩ => ?_⟩
    cases e1
    exact ⟨i, e2, i0, i1⟩) hN hv hg hd hcd (by decide) hst hpl
theorem c_lstd (F : HasFn K mg "_law_standing" s_lstd ["_law_hand_here", "_law_most", "_law_need"]) (B : Bt mg) (C1 : Cal P w K mg base "_law_draw" 1 ["_law_hand_here", "_law_many"] (spH 2 pre_draw phi_draw)) : Cal P w K mg base "_law_standing" 2 ["_law_hand_here", "_law_most", "_law_need"] (spH 3 pre_std phi_std) := by
  refine cal_hand F sc_lstd rfl fun f cdv A outer s H E hr rs h hl ⟨most, need, e1, a0, a1, b0, b1⟩ => ?_
  subst e1
  refine sd_cons (sd_asg (Re := fun r => ∃ i : Int, r = .d (.int i) ∧ 0 ≤ i ∧ i < most + 1) 3 sc_lstd.nd rfl (.inl rfl) (drw C1 hr rfl (bn (vr (r := .d (.int most)) 1 rfl) pd_int (bd_add _ _)) (by omega) (by omega)) ?_)
  rintro r ⟨many, rfl, c0, c1⟩
  refine sd_cons (sd_parL (Re := fun r => ∃ i : Int, r = .d (.int i) ∧ 0 ≤ i ∧ i < 3) 4 5 (by decide) rfl sc_lstd.nd rfl rfl rfl rfl (drw C1 hr rfl pd_int (by decide) (by decide)) rfl ?_)
  rintro r D ⟨place0, rfl, d0, d1⟩ oD
  refine sd_cons (sd_for (A := Int) (ds := idxL many.toNat) (enc := PyData.int) (bs := fun d => [(6, .int d)])
    (fun i t => ∃ ds place u6, t = [.hand h, .v (.d (.int most)), .v (.d (.int need)), .v (.d (.int many)), .v (.d (.int place)), .lst D (ds.map encD), u6, .no, .no, .no, .no] ∧ ds.length = i ∧ 0 ≤ place ∧ place ≤ 2 + 3 * i ∧ Vf place (some (-1)) ds ∧ ∀ d ∈ ds, 0 ≤ d.2 ∧ d.2 ≤ need)
    PassesOwn.never rfl (by rw [← idxL_rng]; exact it_rng rfl B.range (vr (r := .d (.int many)) 3 rfl) (by omega) (by omega)) (pg_name (i := 6) sc_lstd.nd rfl (.inl rfl)) (fun _ _ => tg_name) ⟨[], place0, .no, rfl, rfl, d0, by omega, trivial, fun d hd => nomatch hd⟩ ?_ ?_)
  · rintro i d u hi ⟨ds, place, u6, rfl, hlen, p0, p1, hv, hn⟩
    have hin : i < many.toNat := by have := (List.getElem?_eq_some_iff.mp hi).1; rwa [idxL_len] at this
    have ed : d = (i : Int) := by
      unfold idxL at hi
      rw [List.getElem?_map, List.getElem?_range hin] at hi
      exact (Option.some.inj hi).symm
    subst ed
    have hsz : (ds.map encD).length < sizeLine := by rw [List.length_map, hlen]; exact Nat.lt_of_lt_of_le (show i < 9 by omega) (by decide)
    refine sd_one (sd_if (P := fun b => b = true → ds = [] ∨ ∃ d, ds.getLast? = some d ∧ d.1.isSome = true) (PWD.tst (pwd_and (P := fun _ => True) (pmt_cmp (Ra := fun r => ∃ j : Int, r = .d (.int j)) (Rb := fun _ r => r = .d (.int 0)) (PM.mono (drw C1 hr rfl pd_int (by decide) (by decide)) fun r ⟨j, e, _⟩ => ⟨j, e⟩) (fun _ _ => pd_int) (fun r s ⟨j, e1⟩ e2 => ⟨_, _, _, e1, e2, cd_gt j 0, trivial⟩) rfl) (fun _ h => by cases h) fun _ => pwd_and1 (PWD.tst ?_))) (fun q => ?_) fun _ => ?_)
    · by_cases h0 : i = 0
      · refine pwd_or (P := fun b => b = true) (PMT.mono (ct (vr (r := .d (.int (i : Nat))) 6 rfl) pd_int (cd_eqI _ _)) fun b hb => by rw [hb, h0]; rfl) (fun _ _ => .inl (List.length_eq_zero_iff.mp (by omega))) fun z => by cases z
      · obtain ⟨ds0, dl, eds⟩ : ∃ ds0 dl, ds = ds0 ++ [dl] := ⟨ds.dropLast, ds.getLast (List.ne_nil_of_length_pos (by omega)), (List.dropLast_concat_getLast _).symm⟩
        subst eds
        have elast : atI ((ds0 ++ [dl]).map encD) (-1) = some (encD dl) := by rw [List.map_append]; exact atI_last _ _
        refine pwd_or (P := fun b => b = false) (PMT.mono (ct (vr (r := .d (.int (i : Nat))) 6 rfl) pd_int (cd_eqI _ _)) fun b hb => by rw [hb]; exact decide_eq_false (by omega)) (fun q => by cases q) fun _ => pwd_or1 (PMT.mono (ct (ix (ixO 5 rfl (pd_neg pd_int) elast) pd_int (id_tup (d := encF dl.1) rfl)) pd_non cd_notN) fun b hb hb2 => .inr ⟨dl, List.getLast?_concat .., by rw [← isN_F, ← hb]; exact hb2⟩)
    · have hlast : LastOk place (some (-1)) ds := last_ok hv (fun d hd => by
        rcases q rfl with z | ⟨d', e1, e2⟩
        · subst z; cases hd
        · rw [hd] at e1; cases e1; exact e2) fun _ => ⟨-1, rfl, by omega⟩
      refine sd_cons (sd_app (Re := fun r => ∃ n : Int, r = .d (encD (some place, n)) ∧ 0 ≤ n ∧ n ≤ need) 5 rfl (.inl rfl) rfl (pm_tup (P := fun rs => ∃ n : Int, rs = [.d (.int place), .d (.int n), .d (.tuple [])] ∧ 0 ≤ n ∧ n < need + 1) (pma_cons (Rs := fun _ rs => ∃ n : Int, rs = [.d (.int n), .d (.tuple [])] ∧ 0 ≤ n ∧ n < need + 1) (vr (r := .d (.int place)) 4 rfl) (fun _ _ => pma_cons (Rs := fun _ rs => rs = [.d (.tuple [])]) (drw C1 hr rfl (bn (vr (r := .d (.int need)) 2 rfl) pd_int (bd_add _ _)) (by omega) (by omega)) (fun _ _ => ac (pd_tup (ds := []) pma_nil (Nat.zero_le _)) pma_nil) (fun r rs ⟨n, e, n0, n1⟩ e2 => ⟨n, by rw [e, e2], n0, n1⟩)) (fun r rs e1 ⟨n, e2, n0, n1⟩ => ⟨n, by rw [e1, e2], n0, n1⟩)) (fun rs ⟨n, e, n0, n1⟩ => ⟨[.int place, .int n, .tuple []], e, by show 3 ≤ sizeLine; decide, n, rfl, n0, by omega⟩)) hsz ?_)
      rintro r ⟨n, rfl, n0, n1⟩
      refine ⟨_, rfl, ?_⟩
      refine sd_one (sd_asg (Re := fun r => ∃ j : Int, r = .d (.int (place + 1 + j)) ∧ 0 ≤ j ∧ j < 3) 4 sc_lstd.nd rfl (.inl rfl) (pm_bin (Ra := fun r => r = .d (.int (place + 1))) (Rb := fun _ r => ∃ j : Int, r = .d (.int j) ∧ 0 ≤ j ∧ j < 3) (bn (vr (r := .d (.int place)) 4 rfl) pd_int (bd_add _ _)) (fun _ _ => drw C1 hr rfl pd_int (by decide) (by decide)) (fun r s e1 ⟨j, e2, j0, j1⟩ => ⟨_, _, _, e1, e2, bd_add _ _, j, rfl, j0, j1⟩)) ?_)
      rintro r ⟨j, rfl, j0, j1⟩
      refine ⟨ds ++ [(some place, n)], place + 1 + j, .v (.d (.int (i : Nat))), by rw [List.map_append]; rfl, by rw [List.length_append, hlen]; rfl, by omega, by omega, Vf_some n0 (by omega) (Int.le_refl _) (by omega) hv hlast, fun d hd => ?_⟩
      rcases List.mem_append.mp hd with z | z
      · exact hn d z
      · rw [List.mem_singleton.mp z]; exact ⟨n0, n1⟩
    · refine sd_one (sd_app (Re := fun r => ∃ n : Int, r = .d (encD (none, n)) ∧ 0 ≤ n ∧ n ≤ need) 5 rfl (.inl rfl) rfl (pm_tup (P := fun rs => ∃ n : Int, rs = [.d .none, .d (.int n), .d (.tuple [])] ∧ 0 ≤ n ∧ n < need + 1) (pma_cons (Rs := fun _ rs => ∃ n : Int, rs = [.d (.int n), .d (.tuple [])] ∧ 0 ≤ n ∧ n < need + 1) pd_non (fun _ _ => pma_cons (Rs := fun _ rs => rs = [.d (.tuple [])]) (drw C1 hr rfl (bn (vr (r := .d (.int need)) 2 rfl) pd_int (bd_add _ _)) (by omega) (by omega)) (fun _ _ => ac (pd_tup (ds := []) pma_nil (Nat.zero_le _)) pma_nil) (fun r rs ⟨n, e, n0, n1⟩ e2 => ⟨n, by rw [e, e2], n0, n1⟩)) (fun r rs e1 ⟨n, e2, n0, n1⟩ => ⟨n, by rw [e1, e2], n0, n1⟩)) (fun rs ⟨n, e, n0, n1⟩ => ⟨[.none, .int n, .tuple []], e, by show 3 ≤ sizeLine; decide, n, rfl, n0, by omega⟩)) hsz ?_)
      rintro r ⟨n, rfl, n0, n1⟩
      refine ⟨_, rfl, ds ++ [(none, n)], place, .v (.d (.int (i : Nat))), by rw [List.map_append]; rfl, by rw [List.length_append, hlen]; rfl, p0, by omega, Vf_none n0 (by omega) hv, fun d hd => ?_⟩
      rcases List.mem_append.mp hd with z | z
      · exact hn d z
      · rw [List.mem_singleton.mp z]; exact ⟨n0, n1⟩
  · rintro u ⟨ds, place, u6, rfl, hlen, p0, p1, hv, hn⟩
    rw [idxL_len] at hlen p1
    have hl8 : ds.length ≤ 8 := by omega
    have hsum := sum_le (B := need) b0 ds hn
    have hsb : (ds.map (·.2)).sum ≤ 10 ^ 20 * 8 := Int.le_trans hsum.2 (Int.le_trans (Int.mul_le_mul_of_nonneg_right b1 (Int.natCast_nonneg _)) (Int.mul_le_mul_of_nonneg_left (by omega) (by decide)))
    -- head
    refine sd_cons (sd_asg (Re := fun r => ∃ j : Int, r = .d (.int (place + j)) ∧ 0 ≤ j ∧ j < 3) 7 sc_lstd.nd rfl (.inl rfl) (pm_bin (Ra := fun r => r = .d (.int place)) (Rb := fun _ r => ∃ j : Int, r = .d (.int j) ∧ 0 ≤ j ∧ j < 3) (vr (r := .d (.int place)) 4 rfl) (fun _ _ => drw C1 hr rfl pd_int (by decide) (by decide)) (fun r s e1 ⟨j, e2, j0, j1⟩ => ⟨_, _, _, e1, e2, bd_add _ _, j, rfl, j0, j1⟩)) ?_)
    rintro r ⟨hj, rfl, hj0, hj1⟩
    generalize hhd : place + hj = head
    -- first
    refine sd_cons (sd_asg (Re := fun r => ∃ x : Int, r = .d (.int x) ∧ 0 ≤ x ∧ x ≤ head ∧ ∀ y n rr, ds = (some y, n) :: rr → x = y) 8 sc_lstd.nd rfl (.inl rfl) ?_ ?_)
    · cases ds with
      | nil =>
        have hm0 : many = 0 := by
          have hlen : (0 : Nat) = many.toNat := hlen
          omega
        refine pm_ite (P := fun b => b = false) (PWD.tst (pwd_and (P := fun b => b = false) (PMT.mono (ct (vr (r := .d (.int many)) 3 rfl) pd_int (cd_gt _ _)) fun b hb => by rw [hb]; exact decide_eq_false (by omega)) (fun _ => rfl) fun q => by cases q)) (fun q => by cases q) fun _ => PM.mono (vr (r := .d (.int head)) 7 rfl) fun r hr => ⟨head, hr, by omega, Int.le_refl _, fun y n rr e => by cases e⟩
      | cons d rr =>
        obtain ⟨fi, n⟩ := d
        have hm1 : 0 < many := by rw [List.length_cons] at hlen; omega
        cases fi with
        | none =>
          refine pm_ite (P := fun b => b = false) (PWD.tst (pwd_and (P := fun b => b = true) (PMT.mono (ct (vr (r := .d (.int many)) 3 rfl) pd_int (cd_gt _ _)) fun b hb => by rw [hb]; exact decide_eq_true hm1) (fun q => by cases q) fun _ => pwd_and1 (ct (ix (ixO (d := encD (none, n)) 5 rfl pd_int (at_0 _ _)) pd_int (id_tup (d := .none) rfl)) pd_non cd_notN))) (fun q => by cases q) fun _ => PM.mono (vr (r := .d (.int head)) 7 rfl) fun r hr => ⟨head, hr, by omega, Int.le_refl _, fun y n rr e => by cases e⟩
        | some x =>
          have hf : (decide ((-1 : Int) + 1 ≤ x) && decide (x ≤ place - 1)) = true := hv.1
          rw [Bool.and_eq_true] at hf
          have h1 := of_decide_eq_true hf.1
          have h2 := of_decide_eq_true hf.2
          refine pm_ite (P := fun b => b = true) (PWD.tst (pwd_and (P := fun b => b = true) (PMT.mono (ct (vr (r := .d (.int many)) 3 rfl) pd_int (cd_gt _ _)) fun b hb => by rw [hb]; exact decide_eq_true hm1) (fun q => by cases q) fun _ => pwd_and1 (ct (ix (ixO (d := encD (some x, n)) 5 rfl pd_int (at_0 _ _)) pd_int (id_tup (d := .int x) rfl)) pd_non cd_notN))) (fun _ => PM.mono (ix (ixO (d := encD (some x, n)) 5 rfl pd_int (at_0 _ _)) pd_int (id_tup (d := .int x) rfl)) fun r hr => ⟨x, hr, by omega, by omega, fun y n rr e => by cases e; rfl⟩) fun q => by cases q
    rintro r ⟨first, rfl, f0, f1, ff⟩
    -- cells
    refine sd_cons (sd_asg (Re := fun r => ∃ k : Int, r = .d (.int ((if head - first > 1 then head - first else 1) + k)) ∧ 0 ≤ k ∧ k < 2 + (ds.map (·.2)).sum) 9 sc_lstd.nd rfl (.inl rfl) (pm_bin (Ra := fun r => r = .d (.int (if head - first > 1 then head - first else 1))) (Rb := fun _ r => ∃ k : Int, r = .d (.int k) ∧ 0 ≤ k ∧ k < 2 + (ds.map (·.2)).sum) (pd_callB (x := "max") (id := "max") (by rfl) B.max (by decide +kernel) (ac pd_int (ac (bn (vr (r := .d (.int head)) 7 rfl) (vr (r := .d (.int first)) 8 rfl) (bd_sub _ _)) pma_nil)) (ll_max2 (by rfl) _ _)) (fun _ _ => drw C1 hr rfl (bn (y := .int (ds.map (·.2)).sum) pd_int (pd_callB (x := "sum") (id := "sum") (by rfl) B.sum (by decide +kernel) (ac (PD.as (x := .list ((ds.map (·.2)).map PyData.int)) (pd_lcO (A := Deed) (ds := ds) (enc := encD) (own := [("_law_deed", 10)]) (bs := fun d => [(10, encD d)]) (f := fun d => .int d.2) 5 (by rfl) (by rfl) sc_lstd.nd (blkOk_by (N := "_law_hand_here" :: n_lstd1) (sc := defScope s_lstd) (by decide +kernel)) (fun _ _ _ _ _ => pg_name (i := 10) sc_lstd.nd rfl (.inl rfl)) (fun _ _ => tg_name) ow1 (no1 (by rfl)) (fun d _ _ _ _ _ _ => ix (vr (r := .d (encD d)) 10 rfl) pd_int (id_tup (d := .int d.2) rfl)) (Nat.lt_of_le_of_lt hl8 (by decide))) (by rw [List.map_map]; rfl)) pma_nil) (ll_sum (by rfl) _)) (bd_add _ _)) (by omega) (by omega)) (fun r s e1 ⟨k, e2, k0, k1⟩ => ⟨_, _, _, e1, e2, bd_add _ _, k, rfl, k0, k1⟩)) ?_)
    rintro r ⟨k, rfl, k0, k1⟩
    generalize hce : (if head - first > 1 then head - first else 1) + k = cells
    have hc1 : 1 ≤ cells ∧ head - first ≤ cells ∧ cells ≤ 10 ^ 30 := by
      rw [← hce]
      split <;> omega
    refine sd_one (sd_ret (pd_tup (ds := [.int cells, .int head, dsD ds]) (ac (vr 9 rfl) (ac (vr (r := .d (.int head)) 7 rfl) (ac (tupO 5 rfl B.tuple) pma_nil))) (by show 3 ≤ sizeLine; decide)) ?_)
    rintro r rfl
    refine ⟨.inl rfl, most, need, cells, head, ds, rfl, rfl, by omega, hn, ⟨hc1.1, hc1.2.2, by omega, by omega, by omega, Vf_mono (by omega) hv, ?_⟩, by omega⟩
    cases ds with
    | nil => trivial
    | cons d rr =>
      obtain ⟨fi, n⟩ := d
      cases fi with
      | none => trivial
      | some x =>
        have := ff x n rr rfl
        show head - x ≤ cells
        omega
end
end K33

-- part T21
set_option Elab.async false
set_option maxRecDepth 100000
set_option maxHeartbeats 4000000
set_option linter.all false
namespace K33
open PySem PySem.Spec PyProof.Rows L2 Fw
/-! ### the lots -/
def lotsL : Nat → List (List Int)
  | 0 => [[]]
  | i + 1 => lotsL i ++ (lotsL i).map (· ++ [(i : Int)])
theorem lot_up {l : List Int} {i j : Int} (h : LotOk l i) (hij : i ≤ j) : LotOk l j := ⟨h.1, fun x hx => ⟨(h.2 x hx).1, by have := (h.2 x hx).2; omega⟩⟩
theorem lots_ok : ∀ (i : Nat), ∀ l ∈ lotsL i, LotOk l i
  | 0, l, h => by rw [List.mem_singleton.mp h]; exact lot_nil _
  | i + 1, l, h => by
    rcases List.mem_append.mp h with z | z
    · exact lot_up (lots_ok i l z) (by omega)
    · obtain ⟨l0, h0, e⟩ := List.mem_map.mp z
      subst e
      have := lots_ok i l0 h0
      refine ⟨List.pairwise_append.mpr ⟨this.1, List.pairwise_singleton _ _, fun a ha b hb => ?_⟩, fun x hx => ?_⟩
      · rw [List.mem_singleton.mp hb]; exact (this.2 a ha).2
      · rcases List.mem_append.mp hx with y | y
        · have := this.2 x y; omega
        · rw [List.mem_singleton.mp y]; omega
theorem lots_len : ∀ i, (lotsL i).length = 2 ^ i
  | 0 => rfl
  | i + 1 => by show (lotsL i ++ (lotsL i).map _).length = _; rw [List.length_append, List.length_map, lots_len i, Nat.pow_succ]; omega
theorem lots_nil : ∀ i, [] ∈ lotsL i
  | 0 => List.mem_singleton.mpr rfl
  | i + 1 => List.mem_append.mpr (.inl (lots_nil i))
theorem pdr_lots {n : Int} : ∀ {α : Type} {ds : List α} {xs : List PyData}, PdR (fun (_ : α) x => ∃ l, LotOk l n ∧ x = lotD l) ds xs → ∃ lots : List (List Int), xs = lots.map lotD ∧ ∀ l ∈ lots, LotOk l n
  | _, _, _, .nil => ⟨[], rfl, fun l h => nomatch h⟩
  | _, _, _, .cons ⟨l, h1, h2⟩ t => by
    obtain ⟨ls, e, h⟩ := pdr_lots t
    exact ⟨l :: ls, by rw [h2, e]; rfl, fun x hx => by
      rcases List.mem_cons.mp hx with z | z
      · rw [z]; exact h1
      · exact h x z⟩
def pre_lots (rs : List Dt) : Prop := ∃ many : Nat, rs = [.d (.int many)] ∧ many ≤ 8
def phi_lots (rs : List Dt) (r : Dt) : Prop := ∃ (many : Nat) (lots : List (List Int)), rs = [.d (.int many)] ∧ r = .d (.list (lots.map lotD)) ∧ (∀ l ∈ lots, LotOk l many) ∧ lots.length ≤ 256
section
variable {P : Program} {w : World} {K : PySem.W.Frag} {mg : Str → Option Value} {base : Heap}
abbrev s_llots : Stmt := top 48
abbrev n_llots1 : List Str := ["_law_many", "_law_found", "_law_deed", "_law_lot", "_law_turn"]
theorem sc_llots : FnScope ("_law_hand_here" :: n_llots1) ["_law_hand_here", "_law_many"] (defScope s_llots) := ⟨rfl, rfl, rfl, by decide +kernel, rfl, by decide +kernel, by decide +kernel⟩
theorem c_llots (F : HasFn K mg "_law_lots" s_llots ["_law_hand_here", "_law_many"]) (B : Bt mg) (C1 : Cal P w K mg base "_law_any" 2 ["_law_hand_here", "_law_some"] (spH 2 pre_any phi_any)) : Cal P w K mg base "_law_lots" 3 ["_law_hand_here", "_law_many"] (spH 2 pre_lots phi_lots) := by
  refine cal_hand F sc_llots rfl fun f cdv A outer s H E hr rs h hl ⟨many, e1, hm⟩ => ?_
  subst e1
  have hpow : ∀ {i : Nat}, i ≤ 8 → (lotsL i).length ≤ 256 := fun {i} hi => by rw [lots_len]; exact Nat.pow_le_pow_right (n := 2) (by decide) hi
  refine sd_cons (sd_asg (Re := fun r => r = .d (.list ((lotsL 0).map lotD))) 2 sc_llots.nd rfl (.inr rfl) (pd_lst (ds := [lotD []]) (ac (pd_tup (ds := []) pma_nil (Nat.zero_le _)) pma_nil) (by show 1 ≤ sizeLine; decide)) ?_)
  rintro r rfl
  refine sd_cons (sd_for (A := Int) (ds := idxL many) (enc := PyData.int) (bs := fun d => [(3, .int d)]) (fun i t => ∃ u3, t = [.hand h, .v (.d (.int many)), .v (.d (.list ((lotsL i).map lotD))), u3, .no, .no]) PassesOwn.never rfl (by rw [← idxL_rng]; exact it_rng (n := (many : Nat)) rfl B.range (vr 1 rfl) (by omega) (by omega)) (pg_name (i := 3) sc_llots.nd rfl (.inr rfl)) (fun _ _ => tg_name) ⟨.no, rfl⟩ ?_ ?_)
  · rintro i d u hi ⟨u3, rfl⟩
    have hin : i < many := by have := (List.getElem?_eq_some_iff.mp hi).1; rwa [idxL_len] at this
    have ed : d = (i : Int) := by
      unfold idxL at hi
      rw [List.getElem?_map, List.getElem?_range hin] at hi
      exact (Option.some.inj hi).symm
    subst ed
    have h256 := hpow (i := i) (by omega)
    refine sd_one (sd_asg (Re := fun r => r = .d (.list ((lotsL (i + 1)).map lotD))) 2 sc_llots.nd rfl (.inr rfl) (PD.as (bn (x := .list ((lotsL i).map lotD)) (y := .list ((lotsL i).map fun l => lotD (l ++ [(i : Int)]))) (vr 2 rfl) (pd_lc0 (A := List Int) (ds := lotsL i) (enc := lotD) (own := [("_law_lot", 4)]) (bs := fun l => [(4, lotD l)]) (f := fun l => lotD (l ++ [(i : Int)])) (by rfl) sc_llots.nd (it_lst (vr (r := .d (.list ((lotsL i).map lotD))) 2 rfl)) (blkOk_by (N := "_law_hand_here" :: n_llots1) (sc := defScope s_llots) (by decide +kernel)) (fun _ _ _ _ _ => pg_name (i := 4) sc_llots.nd rfl (.inl rfl)) (fun _ _ => tg_name) ow1 (no1 (by rfl)) (fun l hl _ _ _ _ _ => PD.as (x := lotD (l ++ [(i : Int)])) (bn (vr (r := .d (lotD l)) 4 rfl) (pd_tup (ds := [.int (i : Nat)]) (ac (vr (r := .d (.int (i : Nat))) 3 rfl) pma_nil) (by show 1 ≤ sizeLine; decide)) (bd_catT _ _ ?_)) ?_) (Nat.lt_of_le_of_lt h256 (by decide))) (bd_catL _ _ ?_)) ?_) ?_)
    · rw [List.length_map]
      have := lot_len (lots_ok i l hl)
      exact Nat.le_trans (show l.length + 1 ≤ 9 by omega) (by decide)
    · show PyData.tuple (l.map PyData.int ++ [.int (i : Nat)]) = .tuple ((l ++ [(i : Int)]).map PyData.int)
      rw [List.map_append]; rfl
    · rw [List.length_map, List.length_map]
      exact Nat.le_trans (show (lotsL i).length + (lotsL i).length ≤ 512 by omega) (by decide)
    · show PyData.list ((lotsL i).map lotD ++ _) = .list ((lotsL i ++ (lotsL i).map (· ++ [(i : Int)])).map lotD)
      rw [List.map_append, List.map_map]; rfl
    rintro r rfl
    exact ⟨_, rfl⟩
  · rintro u ⟨u3, rfl⟩
    rw [idxL_len]
    have h256 := hpow hm
    have hone : lotsL many ≠ [] := List.ne_nil_of_mem (lots_nil many)
    refine sd_one (sd_ret (Re := fun r => ∃ lots : List (List Int), r = .d (.list (lots.map lotD)) ∧ (∀ l ∈ lots, LotOk l many) ∧ lots.length ≤ 256) (pm_ite (P := fun _ => True) (PMT.mono (ct (vr (r := .d (.int many)) 1 rfl) pd_int (cd_lt _ _)) fun _ _ => trivial) (fun _ => PM.mono (vr (r := .d (.list ((lotsL many).map lotD))) 2 rfl) fun r hr => ⟨lotsL many, hr, lots_ok many, h256⟩) (fun _ => pm_lc0 (A := Int) (ds := idxL 6) (enc := PyData.int) (own := [("_law_turn", 5)]) (bs := fun d => [(5, .int d)]) (E := fun _ x => ∃ l, LotOk l many ∧ x = lotD l) (by rfl) sc_llots.nd (by rw [← idxL_rng]; exact it_rng (n := 6) rfl B.range pd_int (by decide) (by decide)) (blkOk_by (N := "_law_hand_here" :: n_llots1) (sc := defScope s_llots) (by decide +kernel)) (fun _ _ _ _ _ => pg_name (i := 5) sc_llots.nd rfl (.inl rfl)) (fun _ _ => tg_name) ow1 (no1 (by rfl)) (fun d _ _ _ _ _ _ => PM.mono (pm_calH (h := h) 0 C1 hr rfl (ac (vr (r := .d (.list ((lotsL many).map lotD))) 2 rfl) pma_nil) (fun rs e => by
      subst e
      refine ⟨rfl, ⟨_, rfl, fun z => hone (List.map_eq_nil_iff.mp z), by rw [List.length_map]; omega⟩, fun r hr => hr⟩)) ?_) (by show 6 < sizeLine; decide) (fun xs hx => ?_))) ?_)
    · rintro r ⟨xs, x, e1, e2, hx⟩
      cases e1
      obtain ⟨l, hl, e⟩ := List.mem_map.mp hx
      exact ⟨x, e2, l, lots_ok many l hl, e.symm⟩
    · obtain ⟨lots, e, h⟩ := pdr_lots hx
      refine ⟨lots, by rw [e], h, ?_⟩
      have := Pd.len hx
      rw [idxL_len, e, List.length_map] at this
      omega
    · rintro r ⟨lots, e, h1, h2⟩
      exact ⟨.inl rfl, many, lots, rfl, e, h1, h2⟩
end
end K33

-- part T22
set_option Elab.async false
set_option maxRecDepth 100000
set_option maxHeartbeats 4000000
set_option linter.all false
namespace K33
open PySem PySem.Spec PyProof.Rows L2 Fw
/-! ### things, true and bent -/
inductive Stp where
  | wr (j n : Int)
  | go (j : Int)
  | go1
  | non
  | lgo
def encSt : Stp → PyData
  | .wr j n => wrD j n
  | .go j => goD j
  | .go1 => .tuple [.str "go"]
  | .non => .none
  | .lgo => .list [.str "go", .int 0]
inductive Itm where
  | i (n : Int)
  | b
  | non
  | st (ss : List Stp)
  | sl (ss : List Stp)
def encI : Itm → PyData
  | .i n => .int n
  | .b => .bool true
  | .non => .none
  | .st ss => .tuple (ss.map encSt)
  | .sl ss => .list (ss.map encSt)
def nmT (s : Bool) : Str := if s then sCourse else sExcess
@[irreducible] def deep30 : PyData := deepD 30
theorem deep30_eq : deep30 = .tuple [deepD 29] := by unfold deep30; rfl
theorem deep30_d : deepD 30 = deep30 := by unfold deep30; rfl
inductive Tg where
  | non
  | em
  | cs
  | dp
  | tu (s : Bool) (is : List Itm)
  | li (s : Bool) (is : List Itm)
def encT : Tg → PyData
  | .non => .none
  | .em => .dict []
  | .cs => .str sCourse
  | .dp => deep30
  | .tu s is => .tuple (.str (nmT s) :: is.map encI)
  | .li s is => .list (.str (nmT s) :: is.map encI)
/-- numbers small, lists short, no bool at the third place -/
def BdS (M : Int) : Stp → Prop
  | .wr j n => (-M ≤ j ∧ j ≤ M) ∧ -M ≤ n ∧ n ≤ M
  | .go j => -M ≤ j ∧ j ≤ M
  | _ => True
def BdI (M : Int) (L : Nat) : Itm → Prop
  | .i n => -M ≤ n ∧ n ≤ M
  | .st ss => ss.length ≤ L ∧ ∀ s ∈ ss, BdS M s
  | .sl ss => ss.length ≤ L ∧ ∀ s ∈ ss, BdS M s
  | _ => True
def BdT (M : Int) (L : Nat) : Tg → Prop
  | .tu _ is => is.length ≤ 4 ∧ (∀ x ∈ is, BdI M L x) ∧ is[1]? ≠ some .b
  | .li _ is => is.length ≤ 4 ∧ ∀ x ∈ is, BdI M L x
  | _ => True
theorem BdS.up {M M' : Int} (h : M ≤ M') {s : Stp} (b : BdS M s) : BdS M' s := by
  cases s with
  | wr j n => obtain ⟨⟨h1, h2⟩, h3, h4⟩ := b; exact ⟨⟨by omega, by omega⟩, by omega, by omega⟩
  | go j => obtain ⟨h1, h2⟩ := b; exact ⟨by omega, by omega⟩
  | _ => trivial
theorem BdI.up {M M' : Int} {L L' : Nat} (h : M ≤ M') (hl : L ≤ L') {s : Itm} (b : BdI M L s) : BdI M' L' s := by
  cases s with
  | i n => obtain ⟨h1, h2⟩ := b; exact ⟨by omega, by omega⟩
  | st ss => exact ⟨Nat.le_trans b.1 hl, fun s hs => (b.2 s hs).up h⟩
  | sl ss => exact ⟨Nat.le_trans b.1 hl, fun s hs => (b.2 s hs).up h⟩
  | _ => trivial
theorem BdT.up {M M' : Int} {L L' : Nat} (h : M ≤ M') (hl : L ≤ L') {g : Tg} (b : BdT M L g) : BdT M' L' g := by
  cases g with
  | tu s is => exact ⟨b.1, fun x hx => (b.2.1 x hx).up h hl, b.2.2⟩
  | li s is => exact ⟨b.1, fun x hx => (b.2 x hx).up h hl⟩
  | _ => trivial
def GoodR (M : Int) (L : Nat) (r : Dt) : Prop := ∃ g', r = .d (encT g') ∧ BdT (M + 1) (3 * L + 3) g'
def pre_bent (M : Int) (L : Nat) (rs : List Dt) : Prop := ∃ (g : Tg) (n : Nat), rs = [.d (encT g), .d (.int n)] ∧ BdT M L g ∧ n ≤ 8
def phi_bent (M : Int) (L : Nat) (_ : List Dt) (r : Dt) : Prop := GoodR M L r
theorem nm_c : nmT true = ("course" : Str) := rfl
theorem nm_e : nmT false = ("excess" : Str) := rfl
theorem enc_c (is : List Itm) : encT (.tu true is) = .tuple (.str "course" :: is.map encI) := by show PyData.tuple (.str (nmT true) :: _) = _; rw [nm_c]
theorem enc_e (is : List Itm) : encT (.tu false is) = .tuple (.str "excess" :: is.map encI) := by show PyData.tuple (.str (nmT false) :: _) = _; rw [nm_e]
theorem enc_lc (is : List Itm) : encT (.li true is) = .list (.str "course" :: is.map encI) := by show PyData.list (.str (nmT true) :: _) = _; rw [nm_c]
theorem enc_le (is : List Itm) : encT (.li false is) = .list (.str "excess" :: is.map encI) := by show PyData.list (.str (nmT false) :: _) = _; rw [nm_e]
theorem enc_cs : encT .cs = .str "course" := rfl
end K33

-- part FwSe
set_option Elab.async false
set_option maxRecDepth 100000
set_option linter.all false
namespace Fw
open PySem PySem.Spec PyProof.Rows L2
section
variable {env : Env} {es : List Expr} {p : Pos}
theorem se_List {a : List Expr} : starEach (.List a p :: es) env = (false, eval (.List a p) env) :: starEach es env := rfl
theorem se_Tuple {a : List Expr} {k : Nat} : starEach (.Tuple a k p :: es) env = (false, eval (.Tuple a k p) env) :: starEach es env := rfl
theorem se_Call {f : Expr} {a : List Expr} {kw : List Keyword} : starEach (.Call f a kw p :: es) env = (false, eval (.Call f a kw p) env) :: starEach es env := rfl
theorem se_Const {c : Const} {k : Nat} : starEach (.Constant c k p :: es) env = (false, eval (.Constant c k p) env) :: starEach es env := rfl
theorem se_Name {x : Str} : starEach (.Name x p :: es) env = (false, eval (.Name x p) env) :: starEach es env := rfl
theorem se_Sub {a b : Expr} : starEach (.Subscript a b p :: es) env = (false, eval (.Subscript a b p) env) :: starEach es env := rfl
theorem se_Bin {a b : Expr} {o : Operator} : starEach (.BinOp a o b p :: es) env = (false, eval (.BinOp a o b p) env) :: starEach es env := rfl
theorem hp_List {a : List Expr} {q : Pos} : (backTo q (starEach [.List a p] env)).any (·.1) = false := rfl
theorem hp_Name {x : Str} {q : Pos} : (backTo q (starEach [.Name x p] env)).any (·.1) = false := rfl
theorem hp_Call {f : Expr} {a : List Expr} {kw : List Keyword} {q : Pos} : (backTo q (starEach [.Call f a kw p] env)).any (·.1) = false := rfl
theorem hp_Bin {a b : Expr} {o : Operator} {q : Pos} : (backTo q (starEach [.BinOp a o b p] env)).any (·.1) = false := rfl
end
section
variable {X : Cx} {es : List Expr} {t : Ty} {rs : List Dt} {r : Dt} {p : Pos}
theorem acC {c : Const} {k : Nat} (h : PM X (.Constant c k p) t (fun z => z = r)) (hs : PDA X es t rs) : PDA X (.Constant c k p :: es) t (r :: rs) := pda_cons h hs se_Const
theorem acN {x : Str} (h : PM X (.Name x p) t (fun z => z = r)) (hs : PDA X es t rs) : PDA X (.Name x p :: es) t (r :: rs) := pda_cons h hs se_Name
theorem acT {a : List Expr} {k : Nat} (h : PM X (.Tuple a k p) t (fun z => z = r)) (hs : PDA X es t rs) : PDA X (.Tuple a k p :: es) t (r :: rs) := pda_cons h hs se_Tuple
theorem acL {a : List Expr} (h : PM X (.List a p) t (fun z => z = r)) (hs : PDA X es t rs) : PDA X (.List a p :: es) t (r :: rs) := pda_cons h hs se_List
theorem acF {f : Expr} {a : List Expr} {kw : List Keyword} (h : PM X (.Call f a kw p) t (fun z => z = r)) (hs : PDA X es t rs) : PDA X (.Call f a kw p :: es) t (r :: rs) := pda_cons h hs se_Call
theorem acS {a b : Expr} (h : PM X (.Subscript a b p) t (fun z => z = r)) (hs : PDA X es t rs) : PDA X (.Subscript a b p :: es) t (r :: rs) := pda_cons h hs se_Sub
theorem acB {a b : Expr} {o : Operator} (h : PM X (.BinOp a o b p) t (fun z => z = r)) (hs : PDA X es t rs) : PDA X (.BinOp a o b p :: es) t (r :: rs) := pda_cons h hs se_Bin
theorem se_Dict {a : List (Option Expr)} {b : List Expr} : starEach (.Dict a b p :: es) X.env = (false, eval (.Dict a b p) X.env) :: starEach es X.env := rfl
theorem acD {a : List (Option Expr)} {b : List Expr} (h : PM X (.Dict a b p) t (fun z => z = r)) (hs : PDA X es t rs) : PDA X (.Dict a b p :: es) t (r :: rs) := pda_cons h hs se_Dict
end
end Fw

-- part T23
set_option Elab.async false
set_option maxRecDepth 100000
set_option maxHeartbeats 4000000
set_option linter.all false
namespace K33
open PySem PySem.Spec PyProof.Rows L2 Fw
theorem cut_to {α : Type} {f : α → PyData} (xs : List α) (a : Nat) : Fw.cutD (xs.map f) none (some (a : Int)) = (xs.take (min a xs.length)).map f := by
  unfold Fw.cutD
  rw [HT.sIx_none, HT.sIx_nat, List.drop_zero, Nat.sub_zero, List.length_map, List.map_take]
theorem cut_from {α : Type} {f : α → PyData} (xs : List α) (a : Nat) : Fw.cutD (xs.map f) (some (a : Int)) none = (xs.drop (min a xs.length)).map f := by
  unfold Fw.cutD
  rw [HT.sIx_none, HT.sIx_nat, List.length_map, List.map_drop]
  exact List.take_of_length_le (by rw [List.length_drop, List.length_map]; exact Nat.le_refl _)
theorem cut_mid {α : Type} {f : α → PyData} (xs : List α) (a b : Nat) : Fw.cutD (xs.map f) (some (a : Int)) (some (b : Int)) = ((xs.drop (min a xs.length)).take (min b xs.length - min a xs.length)).map f := by
  unfold Fw.cutD
  rw [HT.sIx_nat, HT.sIx_nat, List.length_map, List.map_take, List.map_drop]
theorem mem_take' {α : Type} {xs : List α} {n : Nat} {x : α} (h : x ∈ xs.take n) : x ∈ xs := List.mem_of_mem_take h
theorem mem_drop' {α : Type} {xs : List α} {n : Nat} {x : α} (h : x ∈ xs.drop n) : x ∈ xs := List.mem_of_mem_drop h
theorem isT_I (x : Itm) : isTup (encI x) = (match x with | .st _ => true | _ => false) := by cases x <;> rfl
section
variable {P : Program} {w : World} {K : PySem.W.Frag} {mg : Str → Option Value} {base : Heap}
abbrev s_lbent : Stmt := top 47
abbrev n_lbent1 : List Str := ["_law_thing", "_law_deeds", "_law_some", "_law_steps", "_law_at", "_law_step", "_law_way", "_law_other", "_law_more"]
theorem sc_lbent : FnScope ("_law_hand_here" :: n_lbent1) ["_law_hand_here", "_law_thing", "_law_deeds"] (defScope s_lbent) := ⟨rfl, rfl, rfl, by decide +kernel, rfl, by decide +kernel, by decide +kernel⟩
/-- one of these -/
theorem anyOf {X : Cx} {t : Ty} {e : Expr} {pos p nx : Pos} {x : Str} {h : Addr} {R' : Dt → Prop} (C : Cal X.prog X.w X.K X.mg X.base "_law_any" 2 ["_law_hand_here", "_law_some"] (spH 2 pre_any phi_any)) (hr : Room 2 X.A) (ht : t[0]? = some (.hand h)) (he : PM X e t (fun r => ∃ xs, r = .d (.list xs) ∧ xs ≠ [] ∧ xs.length < 2 ^ 30 ∧ ∀ x ∈ xs, R' (.d x))) (hN : X.N[0]? = some x := by rfl) (hv : Vis X.env.scope x := by first | exact Or.inl rfl | exact Or.inr (Or.inl rfl) | exact Or.inr (Or.inr rfl)) (hg : Gl X "_law_any" := by rfl)
    (hd : (x == ("__debug__" : Str)) = false := by decide) (hcd : (x == ("__classdict__" : Str)) = false := by decide) (hst : starEach (.Name x nx :: [e]) X.env = (false, eval (.Name x nx) X.env) :: starEach [e] X.env := by rfl) (hst2 : starEach [e] X.env = (false, eval e X.env) :: starEach [] X.env := by rfl) (hpl : (backTo pos (starEach [e] X.env)).any (·.1) = false := by rfl) :
    PM X (.Call (.Name "_law_any" p) [.Name x nx, e] [] pos) t R' :=
  pm_calH (P := fun rs => ∃ xs, rs = [.d (.list xs)] ∧ xs ≠ [] ∧ xs.length < 2 ^ 30 ∧ ∀ x ∈ xs, R' (.d x)) 0 C hr ht (pma_cons (Rs := fun _ rs => rs = []) he (fun _ _ => pma_nil) (fun r rs ⟨xs, e1, e2⟩ e3 => ⟨xs, by rw [e1, e3], e2⟩) hst2) (fun rs ⟨xs, e1, h0, h1, h2⟩ => by
    subst e1
    refine ⟨rfl, ⟨xs, rfl, h0, h1⟩, fun r ⟨ys, y, e2, e3, hy⟩ => ?_⟩
    cases e2
    rw [e3]
    exact h2 y hy) hN hv hg hd hcd (by decide) hst hpl
theorem pd_any {X : Cx} {t : Ty} {e : Expr} {R' : Dt → Prop} {xs : List PyData} (h : PD X e t (.list xs)) (h0 : xs ≠ []) (h1 : xs.length < 2 ^ 30) (k : ∀ x ∈ xs, R' (.d x)) : PM X e t (fun r => ∃ xs, r = .d (.list xs) ∧ xs ≠ [] ∧ xs.length < 2 ^ 30 ∧ ∀ x ∈ xs, R' (.d x)) := PM.mono h fun r hr => ⟨xs, hr, h0, h1, k⟩
variable {M : Int} {L : Nat}
theorem g_tu {s : Bool} {is : List Itm} (h1 : is.length ≤ 4) (h2 : ∀ x ∈ is, BdI (M + 1) (3 * L + 3) x) (h3 : is[1]? ≠ some .b) : GoodR M L (.d (encT (.tu s is))) := ⟨_, rfl, h1, h2, h3⟩
theorem g_li {s : Bool} {is : List Itm} (h1 : is.length ≤ 4) (h2 : ∀ x ∈ is, BdI (M + 1) (3 * L + 3) x) : GoodR M L (.d (encT (.li s is))) := ⟨_, rfl, h1, h2⟩

/-! ### steps -/
def OkS (M : Int) (n : Nat) (ss : List Stp) : Prop := ss.length ≤ n ∧ ∀ s ∈ ss, BdS M s
theorem OkS.app {M : Int} {n m : Nat} {a b : List Stp} (h : OkS M n a) (k : OkS M m b) : OkS M (n + m) (a ++ b) := ⟨by rw [List.length_append]; exact Nat.add_le_add h.1 k.1, fun s hs => by
  rcases List.mem_append.mp hs with z | z
  · exact h.2 s z
  · exact k.2 s z⟩
theorem OkS.tk {M : Int} {n : Nat} {a : List Stp} (h : OkS M n a) (i : Nat) : OkS M n (a.take i) := ⟨Nat.le_trans (List.length_take_le' _ _) h.1, fun s hs => h.2 s (mem_take' hs)⟩
theorem OkS.dp {M : Int} {n : Nat} {a : List Stp} (h : OkS M n a) (i : Nat) : OkS M n (a.drop i) := ⟨Nat.le_trans (by rw [List.length_drop]; exact Nat.sub_le _ _) h.1, fun s hs => h.2 s (mem_drop' hs)⟩
theorem OkS.rv {M : Int} {n : Nat} {a : List Stp} (h : OkS M n a) : OkS M n a.reverse := ⟨by rw [List.length_reverse]; exact h.1, fun s hs => h.2 s (List.mem_reverse.mp hs)⟩
theorem OkS.one {M : Int} {s : Stp} (h : BdS M s) : OkS M 1 [s] := ⟨Nat.le_refl _, fun x hx => by rw [List.mem_singleton.mp hx]; exact h⟩
theorem OkS.bd {M : Int} {n L : Nat} {a : List Stp} (h : OkS M n a) (k : n ≤ L) : BdI M L (.st a) := ⟨Nat.le_trans h.1 k, h.2⟩
theorem OkS.bdl {M : Int} {n L : Nat} {a : List Stp} (h : OkS M n a) (k : n ≤ L) : BdI M L (.sl a) := ⟨Nat.le_trans h.1 k, h.2⟩
section
variable {X : Cx} {t : Ty} {e i j : Expr} {p p2 : Pos} {ss a b : List Stp}
theorem st_to {n : Nat} (he : PD X e t (.tuple (ss.map encSt))) (hi : PD X i t (.int (n : Int))) : PD X (.Subscript e (.Slice none (some i) none p2) p) t (.tuple ((ss.take (min n ss.length)).map encSt)) := PD.as (pd_slT he pdo_none (pdo_some hi)) (congrArg PyData.tuple (cut_to ss n))
theorem st_from {n : Nat} (he : PD X e t (.tuple (ss.map encSt))) (hi : PD X i t (.int (n : Int))) : PD X (.Subscript e (.Slice (some i) none none p2) p) t (.tuple ((ss.drop (min n ss.length)).map encSt)) := PD.as (pd_slT he (pdo_some hi) pdo_none) (congrArg PyData.tuple (cut_from ss n))
theorem st_mid {n m : Nat} (he : PD X e t (.tuple (ss.map encSt))) (hi : PD X i t (.int (n : Int))) (hj : PD X j t (.int (m : Int))) : PD X (.Subscript e (.Slice (some i) (some j) none p2) p) t (.tuple (((ss.drop (min n ss.length)).take (min m ss.length - min n ss.length)).map encSt)) := PD.as (pd_slT he (pdo_some hi) (pdo_some hj)) (congrArg PyData.tuple (cut_mid ss n m))
theorem bd_cs {n m : Nat} {M : Int} (h : OkS M n a) (k : OkS M m b) (hz : n + m ≤ 10000) : BinD X .Add (.tuple (a.map encSt)) (.tuple (b.map encSt)) (.tuple ((a ++ b).map encSt)) := by
  have q := bd_catT (X := X) (a.map encSt) (b.map encSt) (by rw [List.length_map, List.length_map]; exact Nat.le_trans (Nat.add_le_add h.1 k.1) (Nat.le_trans hz (by decide)))
  rw [List.map_append]
  exact q
theorem st_cat {n m : Nat} {M : Int} (ha : PD X e t (.tuple (a.map encSt))) (hb : PD X i t (.tuple (b.map encSt))) (h : OkS M n a) (k : OkS M m b) (hz : n + m ≤ 10000) : PD X (.BinOp e .Add i p) t (.tuple ((a ++ b).map encSt)) := bn ha hb (bd_cs h k hz)
theorem nat1 {n : Nat} {kk : Nat} {p3 : Pos} (h : PD X e t (.int (n : Int))) : PD X (.BinOp e .Add (.Constant (.int 1) kk p3) p) t (.int ((n + 1 : Nat) : Int)) := bn h pd_int (bd_add _ _)
theorem nat2 {n : Nat} {kk : Nat} {p3 : Pos} (h : PD X e t (.int (n : Int))) : PD X (.BinOp e .Add (.Constant (.int 2) kk p3) p) t (.int ((n + 2 : Nat) : Int)) := bn h pd_int (bd_add _ _)
end
theorem sd_to {X : Cx} {st : Stmt} {t : Ty} {R : Po} {T : Ty → Prop} (h : SD X st t { R with nx := T }) (k : ∀ t', T t' → R.nx t') : SD X st t R := fun N sg F H D S q => h N sg F H D S ⟨fun sg F H t S hT => q.nx sg F H t S (k t hT), q.rt, q.bk, q.ct⟩
/-- a tuple of steps -/
def StR (M : Int) (n : Nat) (r : Dt) : Prop := ∃ o : List Stp, r = .d (.tuple (o.map encSt)) ∧ OkS M n o
theorem StR.of {M : Int} {n m : Nat} {o : List Stp} (h : OkS M n o) (k : n ≤ m) : StR M m (.d (.tuple (o.map encSt))) := ⟨o, rfl, Nat.le_trans h.1 k, h.2⟩
theorem c_lbent (hM : 8 ≤ M) (hL : L ≤ 1000) (F : HasFn K mg "_law_bent" s_lbent ["_law_hand_here", "_law_thing", "_law_deeds"]) (B : Bt mg) (C1 : Cal P w K mg base "_law_draw" 1 ["_law_hand_here", "_law_many"] (spH 2 pre_draw phi_draw)) (C2 : Cal P w K mg base "_law_any" 2 ["_law_hand_here", "_law_some"] (spH 2 pre_any phi_any)) (C3 : Cal P w K mg base "_law_deep" 1 ["_law_many"] (spP 1 ph_ldeep)) :
    Cal P w K mg base "_law_bent" 3 ["_law_hand_here", "_law_thing", "_law_deeds"] (spH 3 (pre_bent M L) (phi_bent M L)) := by
  refine cal_hand F sc_lbent rfl fun f cdv A outer s H E hr rs h hl ⟨g, nd, e1, hb, hnd⟩ => ?_
  subst e1
  have hr1 : Room 1 (A.deeper (envOfC "_law_bent" (defScope s_lbent) s.heap.objs.size f cdv)) := hr.mono (by decide)
  have done : ∀ {t' : Ty}, t'[0]? = some (.hand h) → ∀ r, GoodR M L r → HandT t' h ∧ phi_bent M L [.d (encT g), .d (.int nd)] r := fun {t'} e r hr => ⟨.inl e, hr⟩
  have z0 : BdI (M + 1) (3 * L + 3) (.i 0) := ⟨by omega, by omega⟩
  have z1 : BdI (M + 1) (3 * L + 3) (.i 1) := ⟨by omega, by omega⟩
  have nn : BdI (M + 1) (3 * L + 3) .non := trivial
  have s0 : BdI (M + 1) (3 * L + 3) (.st []) := ⟨by show 0 ≤ _; omega, fun s hs => nomatch hs⟩
  have l0 : BdI (M + 1) (3 * L + 3) (.sl []) := ⟨by show 0 ≤ _; omega, fun s hs => nomatch hs⟩
  have sg : BdI (M + 1) (3 * L + 3) (.st [.go 0]) := ⟨by show 1 ≤ _; omega, fun s hs => by rw [List.mem_singleton.mp hs]; exact ⟨by omega, by omega⟩⟩
  -- the first: no tuple of two
  by_cases hA : ∃ s x is, g = .tu s (x :: is)
  · obtain ⟨s, x, is, rfl⟩ := hA
    have hb : (x :: is).length ≤ 4 ∧ (∀ y ∈ x :: is, BdI M L y) ∧ (x :: is)[1]? ≠ some .b := hb
    have bu : ∀ {y : Itm}, BdI M L y → BdI (M + 1) (3 * L + 3) y := fun {y} q => q.up (by omega) (by omega)
    have bx0 : BdI (M + 1) (3 * L + 3) x := bu (hb.2.1 x List.mem_cons_self)
    have eg : encT (.tu s (x :: is)) = .tuple (.str (nmT s) :: encI x :: is.map encI) := rfl
    have hl2 : (PyData.str (nmT s) :: encI x :: is.map encI).length = is.length + 2 := by rw [List.length_cons, List.length_cons, List.length_map]
    refine sd_cons (sd_if (P := fun b => b = false) (PWD.tst (pwd_or (P := fun b => b = false) (P' := fun b => b = false) (pdt_not (PD.tst (isT B.isinstance B.tuple (vr (r := .d (encT (.tu s (x :: is)))) 1 rfl)))) (fun q => by cases q) fun _ => pwd_or1 (PMT.mono (ct (lenT (ds := .str (nmT s) :: encI x :: is.map encI) B.len (vr 1 rfl)) pd_int (cd_lt _ _)) fun b hb => by rw [hb]; exact decide_eq_false (by rw [hl2]; omega)))) (fun q => by cases q) fun _ => sd_nil ?_)
    by_cases hE : s = false ∧ ∃ n, is = [.i n]
    · obtain ⟨rfl, n, rfl⟩ := hE
      have bn0 : BdI (M + 1) (3 * L + 3) (.i n) := bu (hb.2.1 (.i n) (by simp))
      have bn1 : BdI (M + 1) (3 * L + 3) (.i (n + 1)) := by
        have q : -M ≤ n ∧ n ≤ M := hb.2.1 (.i n) (by simp)
        exact ⟨by omega, by omega⟩
      refine sd_cons (sd_if (P := fun b => b = true) (PWD.tst (pdw_and (k := true) (k' := true) (ct (ix (vr 1 rfl) pd_int (id_tup (d := .str (nmT false)) (at_0 _ _))) pd_str (cd_eqS _ _)) fun _ => pdw_and (k := true) (k' := true) (ct (lenT (ds := [.str (nmT false), encI x, .int n]) B.len (vr 1 rfl)) pd_int (cd_eqI _ _)) fun _ => pwd_and1 (PD.tst (isI B.isinstance B.int (ix (x := .tuple [.str (nmT false), encI x, .int n]) (vr 1 rfl) pd_int (id_tup (d := .int n) rfl)))))) (fun _ => ?_) fun q => by cases q)
      refine sd_cons (sd_asg (Re := fun r => ∃ j : Int, r = .d (.list [encT (.tu false [x, .i (n + 1)]), encT (.tu false [.i j, .i n]), encT (.tu false [x])]) ∧ 0 ≤ j ∧ j < (nd : Int) + 1) 3 sc_lbent.nd rfl (.inl rfl) (pm_lst (P := fun rs => ∃ j : Int, rs = [.d (encT (.tu false [x, .i (n + 1)])), .d (encT (.tu false [.i j, .i n])), .d (encT (.tu false [x]))] ∧ 0 ≤ j ∧ j < (nd : Int) + 1) (pma_cons (Rs := fun _ rs => ∃ j : Int, rs = [.d (encT (.tu false [.i j, .i n])), .d (encT (.tu false [x]))] ∧ 0 ≤ j ∧ j < (nd : Int) + 1) (R := fun r => r = .d (encT (.tu false [x, .i (n + 1)]))) (pd_tup (ds := [.str sExcess, encI x, .int (n + 1)]) (acC pd_str (acS (ix (x := .tuple [.str (nmT false), encI x, .int n]) (vr 1 rfl) pd_int (id_tup (d := encI x) rfl)) (acB (bn (x := .int n) (y := .int 1) (ix (x := .tuple [.str (nmT false), encI x, .int n]) (vr 1 rfl) pd_int (id_tup (d := .int n) rfl)) pd_int (bd_add _ _)) pma_nil))) (by show 3 ≤ sizeLine; decide)) (fun _ _ => pma_cons (Rs := fun _ rs => rs = [.d (encT (.tu false [x]))]) (R := fun r => ∃ j : Int, r = .d (encT (.tu false [.i j, .i n])) ∧ 0 ≤ j ∧ j < (nd : Int) + 1) ?_ (fun _ _ => acS ?_ pma_nil) (fun r rs ⟨j, e, j0, j1⟩ e2 => ⟨j, by rw [e, e2], j0, j1⟩) se_Tuple) (fun r rs e1 ⟨j, e2, j0, j1⟩ => ⟨j, by rw [e1, e2], j0, j1⟩) se_Tuple) (fun rs ⟨j, e, j0, j1⟩ => ⟨[encT (.tu false [x, .i (n + 1)]), encT (.tu false [.i j, .i n]), encT (.tu false [x])], e, by show 3 ≤ sizeLine; decide, j, rfl, j0, j1⟩)) ?_)
      · refine pm_tup (P := fun rs => ∃ j : Int, rs = [.d (.str sExcess), .d (.int j), .d (.int n)] ∧ 0 ≤ j ∧ j < (nd : Int) + 1) (pma_cons (Rs := fun _ rs => ∃ j : Int, rs = [.d (.int j), .d (.int n)] ∧ 0 ≤ j ∧ j < (nd : Int) + 1) (R := fun r => r = .d (.str sExcess)) pd_str (fun _ _ => pma_cons (Rs := fun _ rs => rs = [.d (.int n)]) (drw C1 hr1 rfl (bn (x := .int (nd : Int)) (y := .int 1) (vr 2 rfl) pd_int (bd_add _ _)) (by omega) (by omega)) (fun _ _ => acS (ix (x := .tuple [.str (nmT false), encI x, .int n]) (vr 1 rfl) pd_int (id_tup (d := .int n) rfl)) pma_nil) (fun r rs ⟨j, e, j0, j1⟩ e2 => ⟨j, by rw [e, e2], j0, j1⟩) se_Call) (fun r rs e1 ⟨j, e2, j0, j1⟩ => ⟨j, by rw [e1, e2], j0, j1⟩) se_Const) (fun rs ⟨j, e, j0, j1⟩ => ⟨[.str sExcess, .int j, .int n], e, by show 3 ≤ sizeLine; decide, j, rfl, j0, j1⟩)
      · exact PD.as (pd_slT (ds := [.str (nmT false), encI x, .int n]) (vr 1 rfl) pdo_none (pdo_some pd_int)) (by rfl)
      rintro r ⟨j, rfl, j0, j1⟩
      refine sd_cons (sd_asg (Re := fun r => r = .d (.list ([encT (.tu false [x, .i (n + 1)]), encT (.tu false [.i j, .i n]), encT (.tu false [x])] ++ [encT (.tu true [.st []]), encT (.tu false [.b, .i n]), encT (.li false [x, .i n]), encT (.tu false [x, .i n, .i 0]), encT (.tu false [.non, .non])]))) 3 sc_lbent.nd rfl (.inl rfl) (bn (vr 3 rfl) (pd_lst (ds := [encT (.tu true [.st []]), encT (.tu false [.b, .i n]), encT (.li false [x, .i n]), encT (.tu false [x, .i n, .i 0]), encT (.tu false [.non, .non])]) (acT (pd_tup (ds := [.str sCourse, .tuple []]) (acC pd_str (acT (pd_tup (ds := []) pma_nil (Nat.zero_le _)) pma_nil)) (by show 2 ≤ sizeLine; decide)) (acT (pd_tup (ds := [.str sExcess, .bool true, .int n]) (acC pd_str (acC pd_bl (acS (ix (x := .tuple [.str (nmT false), encI x, .int n]) (vr 1 rfl) pd_int (id_tup (d := .int n) rfl)) pma_nil))) (by show 3 ≤ sizeLine; decide)) (acF (pd_callT (x := "list") (by rfl) B.list (by decide +kernel) (acN (vr (r := .d (.tuple [.str (nmT false), encI x, .int n])) 1 rfl) pma_nil) (ll_lstT _)) (acB (bn (x := .tuple [.str (nmT false), encI x, .int n]) (y := .tuple [.int 0]) (vr 1 rfl) (pd_tup (ds := [.int 0]) (acC pd_int pma_nil) (by show 1 ≤ sizeLine; decide)) (bd_catT _ _ (by show 4 ≤ sizeLine; decide))) (acT (pd_tup (ds := [.str sExcess, .none, .none]) (acC pd_str (acC pd_non (acC pd_non pma_nil))) (by show 3 ≤ sizeLine; decide)) pma_nil))))) (by show 5 ≤ sizeLine; decide)) (bd_catL _ _ (by show 8 ≤ sizeLine; decide))) ?_)
      rintro r rfl
      refine sd_one (sd_ret (anyOf (R' := GoodR M L) C2 (hr.mono (by decide)) rfl (pd_any (R' := GoodR M L) (vr 3 rfl) (List.cons_ne_nil _ _) (by show 8 < 2 ^ 30; decide) fun y hy => ?_) (hst := se_Name) (hst2 := se_Name)) (done rfl))
      have bj : BdI (M + 1) (3 * L + 3) (.i j) := ⟨by omega, by omega⟩
      have al2 : ∀ {a b : Itm}, BdI (M + 1) (3 * L + 3) a → BdI (M + 1) (3 * L + 3) b → ∀ z ∈ [a, b], BdI (M + 1) (3 * L + 3) z := fun {a b} ha hb z hz => by
        rcases List.mem_cons.mp hz with q | q
        · rw [q]; exact ha
        · rw [List.mem_singleton.mp q]; exact hb
      have al1 : ∀ {a : Itm}, BdI (M + 1) (3 * L + 3) a → ∀ z ∈ [a], BdI (M + 1) (3 * L + 3) z := fun {a} ha z hz => by rw [List.mem_singleton.mp hz]; exact ha
      simp only [List.mem_append, List.mem_cons, List.not_mem_nil, or_false] at hy
      rcases hy with (rfl | rfl | rfl) | rfl | rfl | rfl | rfl | rfl
      · exact g_tu (by simp) (al2 bx0 bn1) (by simp)
      · exact g_tu (by simp) (al2 bj bn0) (by simp)
      · exact g_tu (by simp) (al1 bx0) (by simp)
      · exact g_tu (by simp) (al1 s0) (by simp)
      · exact g_tu (by simp) (al2 (show BdI (M + 1) (3 * L + 3) .b from trivial) bn0) (by simp)
      · exact g_li (by simp) (al2 bx0 bn0)
      · exact g_tu (by simp) (fun z hz => by
          rcases List.mem_cons.mp hz with q | q
          · rw [q]; exact bx0
          · exact al2 bn0 z0 z q) (by simp)
      · exact g_tu (by simp) (al2 nn nn) (by simp)
    · have cond : ¬ (s = false ∧ ∃ n, is = [.i n]) := hE
      refine sd_cons (sd_if (P := fun b => b = false) ?_ (fun q => by cases q) fun _ => sd_nil ?_)
      · cases s with
        | true => exact PWD.tst (pwd_and (P := fun b => b = false) (P' := fun b => b = false) (ct (ix (vr 1 rfl) pd_int (id_tup (d := .str (nmT true)) (at_0 _ _))) pd_str (cd_eqS _ _)) (fun _ => rfl) fun q => by cases q)
        | false =>
          refine PWD.tst (pwd_and (P := fun b => b = true) (P' := fun b => b = false) (ct (ix (vr 1 rfl) pd_int (id_tup (d := .str (nmT false)) (at_0 _ _))) pd_str (cd_eqS _ _)) (fun q => by cases q) fun _ => ?_)
          match is, cond, hb with
          | [], _, _ => exact pwd_and (P := fun b => b = false) (P' := fun b => b = false) (ct (lenT (ds := [.str (nmT false), encI x]) B.len (vr 1 rfl)) pd_int (cd_eqI _ _)) (fun _ => rfl) fun q => by cases q
          | [y], cond, hb =>
            refine pwd_and (P := fun b => b = true) (P' := fun b => b = false) (ct (lenT (ds := [.str (nmT false), encI x, encI y]) B.len (vr 1 rfl)) pd_int (cd_eqI _ _)) (fun q => by cases q) fun _ => ?_
            refine pwd_and1 (PMT.mono (PD.tst (isI B.isinstance B.int (ix (x := .tuple [.str (nmT false), encI x, encI y]) (vr 1 rfl) pd_int (id_tup (d := encI y) rfl)))) fun b e => ?_)
            rw [e]
            cases y with
            | i n => exact absurd ⟨rfl, n, rfl⟩ cond
            | b => exact absurd rfl hb.2.2
            | _ => rfl
          | y :: z :: r, _, _ =>
            have e3 : (PyData.str (nmT false) :: encI x :: (y :: z :: r).map encI).length = r.length + 4 := by simp
            exact pwd_and (P := fun b => b = false) (P' := fun b => b = false) (PMT.mono (ct (lenT (ds := .str (nmT false) :: encI x :: (y :: z :: r).map encI) B.len (vr 1 rfl)) pd_int (cd_eqI _ _)) fun b hb => by rw [hb]; exact decide_eq_false (by rw [e3]; omega)) (fun _ => rfl) fun q => by cases q
      -- steps
      refine sd_cons (sd_asg (Re := fun r => r = .d (encI x)) 4 sc_lbent.nd rfl (.inl rfl) (ix (x := .tuple (.str (nmT s) :: encI x :: is.map encI)) (vr 1 rfl) pd_int (id_tup (d := encI x) (atI_nat (j := 1) rfl))) ?_)
      rintro r rfl
      by_cases hS : ∃ s0 ss, x = .st (s0 :: ss)
      · obtain ⟨sa, sb, rfl⟩ := hS
        generalize hss : sa :: sb = ss at *
        have hlen1 : 1 ≤ ss.length := by rw [← hss]; exact Nat.succ_le_succ (Nat.zero_le _)
        have hok : OkS M L ss := hb.2.1 (.st ss) List.mem_cons_self
        have up1 : ∀ {s : Stp}, BdS M s → BdS (M + 1) s := fun {s} q => q.up (by omega)
        have hok1 : OkS (M + 1) L ss := ⟨hok.1, fun s hs => up1 (hok.2 s hs)⟩
        have goodS : ∀ {ss' : List Stp}, OkS (M + 1) (3 * L + 3) ss' → GoodR M L (.d (encT (.tu s [.st ss']))) := fun {ss'} q => g_tu (by simp) (fun z hz => by rw [List.mem_singleton.mp hz]; exact q) (by simp)
        refine sd_cons (sd_if (P := fun b => b = false) (PWD.tst (pwd_or (P := fun b => b = false) (P' := fun b => b = false) (pdt_not (PD.tst (isT B.isinstance B.tuple (vr (r := .d (.tuple (ss.map encSt))) 4 rfl)))) (fun q => by cases q) fun _ => pwd_or1 (PMT.mono (ct (lenT (ds := ss.map encSt) B.len (vr 4 rfl)) pd_int (cd_eqI _ _)) fun b hb => by rw [hb]; exact decide_eq_false (by rw [List.length_map]; omega)))) (fun q => by cases q) fun _ => sd_nil ?_)
        refine sd_cons (sd_asg (Re := fun r => ∃ j : Int, r = .d (.int j) ∧ 0 ≤ j ∧ j < ((ss.map encSt).length : Int)) 5 sc_lbent.nd rfl (.inl rfl) (drw C1 hr1 rfl (lenT (ds := ss.map encSt) B.len (vr 4 rfl)) (by rw [List.length_map]; omega) (by rw [List.length_map]; have := hok.1; omega)) ?_)
        rintro r ⟨j, rfl, j0, j1⟩
        rw [List.length_map] at j1
        obtain ⟨k, rfl⟩ := Int.eq_ofNat_of_zero_le j0
        have hk : k < ss.length := by omega
        obtain ⟨sk, hsk⟩ : ∃ sk, ss[k]? = some sk := ⟨_, List.getElem?_eq_getElem hk⟩
        have hbk : BdS M sk := hok.2 sk (List.mem_of_getElem? hsk)
        refine sd_cons (sd_asg (Re := fun r => r = .d (encSt sk)) 6 sc_lbent.nd rfl (.inl rfl) (ix (x := .tuple (ss.map encSt)) (vr 4 rfl) (vr (r := .d (.int (k : Nat))) 5 rfl) (id_tup (d := encSt sk) (at_map hsk))) ?_)
        rintro r rfl
        refine sd_cons (sd_asg (Re := fun r => ∃ j : Int, r = .d (.int j) ∧ 0 ≤ j ∧ j < 8) 7 sc_lbent.nd rfl (.inl rfl) (drw C1 hr1 rfl pd_int (by decide) (by decide)) ?_)
        rintro r ⟨wy, rfl, w0, w1⟩
        -- the end
        refine sd_cons (sd_to (T := fun t' => ∃ r, t'[0]? = some (.hand h) ∧ t'[1]? = some (.v (.d (encT (.tu s (.st ss :: is))))) ∧ t'[4]? = some (.v r) ∧ StR (M + 1) (3 * L + 3) r) ?_ ?_)
        rotate_left
        · rintro t' ⟨r, h0, h1, h4, ss', rfl, ho⟩
          refine sd_one (sd_ret (Re := fun r => r = .d (encT (.tu s [.st ss']))) (pd_tup (ds := [.str (nmT s), .tuple (ss'.map encSt)]) (acS (ix (x := .tuple (.str (nmT s) :: .tuple (ss.map encSt) :: is.map encI)) (vr 1 h1) pd_int (id_tup (d := .str (nmT s)) (at_0 _ _))) (acN (vr 4 h4) pma_nil)) (by show 2 ≤ sizeLine; decide)) ?_)
          rintro r rfl
          exact done h0 _ (goodS ho)
        have eS : PyData.tuple (ss.map encSt) = .tuple (ss.map encSt) := rfl
        have hL3 : L + 1 + L ≤ 3 * L + 3 := by omega
        have b1 : BdS (M + 1) sk := up1 hbk
        have kk : ∀ (t' : Ty) (r : Dt), t'[0]? = some (.hand h) → t'[1]? = some (.v (.d (encT (.tu s (.st ss :: is))))) → t'[4]? = some (.v r) → StR (M + 1) (3 * L + 3) r → ∃ r, t'[0]? = some (.hand h) ∧ t'[1]? = some (.v (.d (encT (.tu s (.st ss :: is))))) ∧ t'[4]? = some (.v r) ∧ StR (M + 1) (3 * L + 3) r := fun t' r a b c d => ⟨r, a, b, c, d⟩
        -- 0
        refine sd_if (ct (vr (r := .d (.int wy)) 7 rfl) pd_int (cd_eqI _ _)) (fun _ => ?_) fun _ => ?_
        · refine sd_one (sd_asg (Re := StR (M + 1) (3 * L + 3)) 4 sc_lbent.nd rfl (.inl rfl) (pm_by (st_cat (st_to (vr 4 rfl) (vr (r := .d (.int (k : Nat))) 5 rfl)) (st_from (vr 4 rfl) (nat1 (vr (r := .d (.int (k : Nat))) 5 rfl))) (hok1.tk _) (hok1.dp _) (by omega)) (StR.of ((hok1.tk _).app (hok1.dp _)) (by omega))) fun r hr => ?_)
          exact kk _ r rfl rfl rfl hr
        -- 1
        refine sd_one (sd_if (ct (vr (r := .d (.int wy)) 7 rfl) pd_int (cd_eqI _ _)) (fun _ => ?_) fun _ => ?_)
        · refine sd_one (sd_asg (Re := StR (M + 1) (3 * L + 3)) 4 sc_lbent.nd rfl (.inl rfl) (pm_by (st_cat (st_cat (st_to (vr 4 rfl) (vr (r := .d (.int (k : Nat))) 5 rfl)) (pd_tup (ds := [encSt sk]) (acN (vr 6 rfl) pma_nil) (by show 1 ≤ sizeLine; decide)) (hok1.tk _) (OkS.one b1) (by omega)) (st_from (vr 4 rfl) (vr (r := .d (.int (k : Nat))) 5 rfl)) ((hok1.tk _).app (OkS.one b1)) (hok1.dp _) (by omega)) (StR.of (((hok1.tk _).app (OkS.one b1)).app (hok1.dp _)) (by omega))) fun r hr => ?_)
          exact kk _ r rfl rfl rfl hr
        -- 2
        refine sd_one (sd_if (ct (vr (r := .d (.int wy)) 7 rfl) pd_int (cd_eqI _ _)) (fun _ => ?_) fun _ => ?_)
        · refine sd_one (sd_asg (Re := StR (M + 1) (3 * L + 3)) 4 sc_lbent.nd rfl (.inl rfl) (pm_by (st_cat (st_cat (st_cat (st_to (vr 4 rfl) (vr (r := .d (.int (k : Nat))) 5 rfl)) (st_mid (vr 4 rfl) (nat1 (vr (r := .d (.int (k : Nat))) 5 rfl)) (nat2 (vr (r := .d (.int (k : Nat))) 5 rfl))) (hok1.tk _) ((hok1.dp _).tk _) (by omega)) (pd_tup (ds := [encSt sk]) (acN (vr 6 rfl) pma_nil) (by show 1 ≤ sizeLine; decide)) ((hok1.tk _).app ((hok1.dp _).tk _)) (OkS.one b1) (by omega)) (st_from (vr 4 rfl) (nat2 (vr (r := .d (.int (k : Nat))) 5 rfl))) (((hok1.tk _).app ((hok1.dp _).tk _)).app (OkS.one b1)) (hok1.dp _) (by omega)) (StR.of ((((hok1.tk _).app ((hok1.dp _).tk _)).app (OkS.one b1)).app (hok1.dp _)) (by omega))) fun r hr => ?_)
          exact kk _ r rfl rfl rfl hr
        -- 3
        refine sd_one (sd_if (P := fun b => b = true → ∃ j n, sk = .wr j n) ?_ (fun q => ?_) fun _ => ?_)
        · refine PWD.tst (pwd_and (ct (vr (r := .d (.int wy)) 7 rfl) pd_int (cd_eqI _ _)) (fun _ q => by cases q) fun _ => pwd_and (PD.tst (isT B.isinstance B.tuple (vr (r := .d (encSt sk)) 6 rfl))) (fun _ q => by cases q) fun q => ?_)
          cases sk with
          | wr j n => exact pwd_and (ct (lenT (ds := [.str "write", .int j, .int n]) B.len (vr 6 rfl)) pd_int (cd_eqI _ _)) (fun _ q => by cases q) fun _ => pwd_and1 (PMT.mono (PD.tst (isI B.isinstance B.int (ix (x := .tuple [.str "write", .int j, .int n]) (vr 6 rfl) pd_int (id_tup (d := .int n) rfl)))) fun _ _ _ => ⟨j, n, rfl⟩)
          | go j => exact pwd_and (P := fun b => b = false) (ct (lenT (ds := [.str "go", .int j]) B.len (vr 6 rfl)) pd_int (cd_eqI _ _)) (fun _ q => by cases q) fun q => by cases q
          | go1 => exact pwd_and (P := fun b => b = false) (ct (lenT (ds := [.str "go"]) B.len (vr 6 rfl)) pd_int (cd_eqI _ _)) (fun _ q => by cases q) fun q => by cases q
          | non => cases q
          | lgo => cases q
        · obtain ⟨j, n, rfl⟩ := q rfl
          have hjn : (-M ≤ j ∧ j ≤ M) ∧ -M ≤ n ∧ n ≤ M := hbk
          have w1 : BdS (M + 1) (.wr j (n - 1)) := ⟨⟨by omega, by omega⟩, by omega, by omega⟩
          have w2 : BdS (M + 1) (.wr j 1) := ⟨⟨by omega, by omega⟩, by omega, by omega⟩
          refine sd_cons (sd_asg (Re := fun r => r = .d (.tuple ([Stp.wr j (n - 1), Stp.wr j 1].map encSt))) 8 sc_lbent.nd rfl (.inl rfl) (pd_tup (ds := [encSt (.wr j (n - 1)), encSt (.wr j 1)]) (acT (pd_tup (ds := [.str "write", .int j, .int (n - 1)]) (acC pd_str (acS (ix (x := .tuple [.str "write", .int j, .int n]) (vr 6 rfl) pd_int (id_tup (d := .int j) rfl)) (acB (bn (x := .int n) (y := .int 1) (ix (x := .tuple [.str "write", .int j, .int n]) (vr 6 rfl) pd_int (id_tup (d := .int n) rfl)) pd_int (bd_sub _ _)) pma_nil))) (by show 3 ≤ sizeLine; decide)) (acT (pd_tup (ds := [.str "write", .int j, .int 1]) (acC pd_str (acS (ix (x := .tuple [.str "write", .int j, .int n]) (vr 6 rfl) pd_int (id_tup (d := .int j) rfl)) (acC pd_int pma_nil))) (by show 3 ≤ sizeLine; decide)) pma_nil)) (by show 2 ≤ sizeLine; decide)) ?_)
          rintro r rfl
          refine sd_one (sd_asg (Re := StR (M + 1) (3 * L + 3)) 4 sc_lbent.nd rfl (.inl rfl) (pm_bin (Ra := StR (M + 1) (L + 2)) (Rb := fun _ r => r = .d (.tuple ((ss.drop (min (k + 1) ss.length)).map encSt))) (pm_bin (Ra := fun r => r = .d (.tuple ((ss.take (min k ss.length)).map encSt))) (Rb := fun _ => StR (M + 1) 2) (st_to (vr 4 rfl) (vr (r := .d (.int (k : Nat))) 5 rfl)) (fun _ _ => anyOf (R' := StR (M + 1) 2) C2 (hr.mono (by decide)) rfl (pd_any (R' := StR (M + 1) 2) (pd_lst (ds := [.tuple ([Stp.wr j (n - 1), Stp.wr j 1].map encSt), .tuple ([Stp.wr j 1, Stp.wr j (n - 1)].map encSt), .tuple ([Stp.wr j (n - 1)].map encSt)]) (acN (vr 8 rfl) (acS (pd_rev (ds := [Stp.wr j (n - 1), Stp.wr j 1].map encSt) (vr 8 rfl)) (acS (PD.as (pd_slT (ds := [Stp.wr j (n - 1), Stp.wr j 1].map encSt) (vr 8 rfl) pdo_none (pdo_some pd_int)) (by rfl)) pma_nil))) (by show 3 ≤ sizeLine; decide)) (List.cons_ne_nil _ _) (by show 3 < 2 ^ 30; decide) fun y hy => ?_) (hst := se_Name) (hst2 := se_List) (hpl := hp_List)) (fun r s e1 ⟨o, e2, ho⟩ => ⟨_, _, _, e1, e2, bd_cs (hok1.tk _) ho (by omega), StR.of ((hok1.tk _).app ho) (Nat.le_refl _)⟩)) (fun _ _ => st_from (vr 4 rfl) (nat1 (vr (r := .d (.int (k : Nat))) 5 rfl))) (fun r s ⟨o, e1, ho⟩ e2 => ⟨_, _, _, e1, e2, bd_cs ho (hok1.dp _) (by omega), StR.of (ho.app (hok1.dp _)) (by omega)⟩)) fun r hr => ?_)
          · simp only [List.mem_cons, List.not_mem_nil, or_false] at hy
            rcases hy with rfl | rfl | rfl
            · exact StR.of ((OkS.one w1).app (OkS.one w2)) (Nat.le_refl _)
            · exact StR.of ((OkS.one w2).app (OkS.one w1)) (Nat.le_refl _)
            · exact StR.of (OkS.one w1) (by decide)
          exact kk _ r rfl rfl rfl hr
        -- 4
        refine sd_one (sd_if (ct (vr (r := .d (.int wy)) 7 rfl) pd_int (cd_eqI _ _)) (fun _ => ?_) fun _ => ?_)
        · refine sd_cons (sd_asg (Re := fun r => ∃ j : Int, r = .d (.int j) ∧ 0 ≤ j ∧ j < (nd : Int) + 1) 8 sc_lbent.nd rfl (.inl rfl) (drw C1 hr1 rfl (bn (x := .int (nd : Int)) (y := .int 1) (vr 2 rfl) pd_int (bd_add _ _)) (by omega) (by omega)) ?_)
          rintro r ⟨j, rfl, j0', j1'⟩
          refine sd_cons (sd_asg (Re := fun r => r = .d (.list [encSt (.go j), encSt (.wr j 1), encSt .go1, encSt .non, encSt .lgo])) 9 sc_lbent.nd rfl (.inl rfl) (pd_lst (ds := [encSt (.go j), encSt (.wr j 1), encSt .go1, encSt .non, encSt .lgo]) (acT (pd_tup (ds := [.str "go", .int j]) (acC pd_str (acN (vr (r := .d (.int j)) 8 rfl) pma_nil)) (by show 2 ≤ sizeLine; decide)) (acT (pd_tup (ds := [.str "write", .int j, .int 1]) (acC pd_str (acN (vr (r := .d (.int j)) 8 rfl) (acC pd_int pma_nil))) (by show 3 ≤ sizeLine; decide)) (acT (pd_tup (ds := [.str "go"]) (acC pd_str pma_nil) (by show 1 ≤ sizeLine; decide)) (acC pd_non (acL (pd_lst (ds := [.str "go", .int 0]) (acC pd_str (acC pd_int pma_nil)) (by show 2 ≤ sizeLine; decide)) pma_nil))))) (by show 5 ≤ sizeLine; decide)) ?_)
          rintro r rfl
          refine sd_one (sd_asg (Re := StR (M + 1) (3 * L + 3)) 4 sc_lbent.nd rfl (.inl rfl) (pm_bin (Ra := StR (M + 1) (L + 1)) (Rb := fun _ r => r = .d (.tuple ((ss.drop (min k ss.length)).map encSt))) (pm_bin (Ra := fun r => r = .d (.tuple ((ss.take (min k ss.length)).map encSt))) (Rb := fun _ => StR (M + 1) 1) (st_to (vr 4 rfl) (vr (r := .d (.int (k : Nat))) 5 rfl)) (fun _ _ => pm_tup (P := fun rs => ∃ q, rs = [.d (encSt q)] ∧ BdS (M + 1) q) (pma_cons (Rs := fun _ rs => rs = []) (R := fun r => ∃ q, r = .d (encSt q) ∧ BdS (M + 1) q) (anyOf (R' := fun r => ∃ q, r = .d (encSt q) ∧ BdS (M + 1) q) C2 (hr.mono (by decide)) rfl (pd_any (R' := fun r => ∃ q, r = .d (encSt q) ∧ BdS (M + 1) q) (vr 9 rfl) (List.cons_ne_nil _ _) (by show 5 < 2 ^ 30; decide) fun y hy => ?_) (hst := se_Name) (hst2 := se_Name)) (fun _ _ => pma_nil) (fun r rs ⟨q, e, b⟩ e2 => ⟨q, by rw [e, e2], b⟩) se_Call) (fun rs ⟨q, e, b⟩ => ⟨[encSt q], e, by show 1 ≤ sizeLine; decide, StR.of (OkS.one b) (Nat.le_refl _)⟩)) (fun r s e1 ⟨o, e2, ho⟩ => ⟨_, _, _, e1, e2, bd_cs (hok1.tk _) ho (by omega), StR.of ((hok1.tk _).app ho) (Nat.le_refl _)⟩)) (fun _ _ => st_from (vr 4 rfl) (vr (r := .d (.int (k : Nat))) 5 rfl)) (fun r s ⟨o, e1, ho⟩ e2 => ⟨_, _, _, e1, e2, bd_cs ho (hok1.dp _) (by omega), StR.of (ho.app (hok1.dp _)) (by omega)⟩)) fun r hr => ?_)
          · simp only [List.mem_cons, List.not_mem_nil, or_false] at hy
            rcases hy with rfl | rfl | rfl | rfl | rfl
            · exact ⟨_, rfl, show -(M + 1) ≤ j ∧ j ≤ M + 1 from ⟨by omega, by omega⟩⟩
            · exact ⟨_, rfl, show (-(M + 1) ≤ j ∧ j ≤ M + 1) ∧ -(M + 1) ≤ 1 ∧ 1 ≤ M + 1 from ⟨⟨by omega, by omega⟩, by omega, by omega⟩⟩
            · exact ⟨_, rfl, trivial⟩
            · exact ⟨_, rfl, trivial⟩
            · exact ⟨_, rfl, trivial⟩
          exact kk _ r rfl rfl rfl hr
        -- 5
        refine sd_one (sd_if (ct (vr (r := .d (.int wy)) 7 rfl) pd_int (cd_eqI _ _)) (fun _ => ?_) fun _ => ?_)
        · refine sd_one (sd_ret (anyOf (R' := GoodR M L) C2 (hr.mono (by decide)) rfl (pd_any (R' := GoodR M L) (pd_lst (ds := [encT (.tu true [.sl ss]), encT (.li true [.st ss]), encT (.tu true [.st ss, .i 0]), encT (.tu false [.st ss])]) (acT (pd_tup (ds := [.str sCourse, .list (ss.map encSt)]) (acC pd_str (acF (pd_callT (x := "list") (by rfl) B.list (by decide +kernel) (acN (vr (r := .d (.tuple (ss.map encSt))) 4 rfl) pma_nil) (ll_lstT _)) pma_nil)) (by show 2 ≤ sizeLine; decide)) (acL (pd_lst (ds := [.str sCourse, .tuple (ss.map encSt)]) (acC pd_str (acN (vr 4 rfl) pma_nil)) (by show 2 ≤ sizeLine; decide)) (acT (pd_tup (ds := [.str sCourse, .tuple (ss.map encSt), .int 0]) (acC pd_str (acN (vr 4 rfl) (acC pd_int pma_nil))) (by show 3 ≤ sizeLine; decide)) (acT (pd_tup (ds := [.str sExcess, .tuple (ss.map encSt)]) (acC pd_str (acN (vr 4 rfl) pma_nil)) (by show 2 ≤ sizeLine; decide)) pma_nil)))) (by show 4 ≤ sizeLine; decide)) (List.cons_ne_nil _ _) (by show 4 < 2 ^ 30; decide) fun y hy => ?_) (hst := se_Name) (hst2 := se_List) (hpl := hp_List)) (done rfl))
          have bs : BdI (M + 1) (3 * L + 3) (.st ss) := hok1.bd (by omega)
          have bl : BdI (M + 1) (3 * L + 3) (.sl ss) := hok1.bdl (by omega)
          simp only [List.mem_cons, List.not_mem_nil, or_false] at hy
          rcases hy with rfl | rfl | rfl | rfl
          · exact g_tu (by simp) (fun z hz => by rw [List.mem_singleton.mp hz]; exact bl) (by simp)
          · exact g_li (by simp) (fun z hz => by rw [List.mem_singleton.mp hz]; exact bs)
          · exact g_tu (by simp) (fun z hz => by
              rcases List.mem_cons.mp hz with q | q
              · rw [q]; exact bs
              · rw [List.mem_singleton.mp q]; exact z0) (by simp)
          · exact g_tu (by simp) (fun z hz => by rw [List.mem_singleton.mp hz]; exact bs) (by simp)
        -- 6
        refine sd_one (sd_if (ct (vr (r := .d (.int wy)) 7 rfl) pd_int (cd_eqI _ _)) (fun _ => ?_) fun _ => sd_nil (kk _ _ rfl rfl rfl (StR.of hok1 (by omega))))
        · refine sd_one (sd_asg (Re := StR (M + 1) (3 * L + 3)) 4 sc_lbent.nd rfl (.inl rfl) (pm_by (PD.as (x := .tuple (ss.reverse.map encSt)) (pd_rev (ds := ss.map encSt) (vr 4 rfl)) (by rw [List.map_reverse])) (StR.of hok1.rv (by omega))) fun r hr => ?_)
          exact kk _ r rfl rfl rfl hr
      · have hcase : isTup (encI x) = false ∨ encI x = .tuple [] := by
          cases x with
          | st ss =>
            cases ss with
            | nil => exact .inr rfl
            | cons a r => exact absurd ⟨a, r, rfl⟩ hS
          | _ => exact .inl rfl
        refine sd_cons (sd_if (P := fun b => b = true) ?_ (fun _ => ?_) fun q => by cases q)
        · rcases hcase with hc | hc
          · exact PWD.tst (pwd_or (P' := fun b => b = true) (pdt_not (PD.tst (isT B.isinstance B.tuple (vr (r := .d (encI x)) 4 rfl)))) (fun _ => rfl) fun q => by rw [hc] at q; cases q)
          · exact PWD.tst (pwd_or (P' := fun b => b = true) (pdt_not (PD.tst (isT B.isinstance B.tuple (vr (r := .d (encI x)) 4 rfl)))) (fun _ => rfl) fun _ => pwd_or1 (ct (lenT (ds := []) B.len (PD.as (d := encI x) (vr (r := .d (encI x)) 4 rfl) hc)) pd_int (cd_eqI _ _)))
        · refine sd_one (sd_ret (anyOf (R' := GoodR M L) C2 (hr.mono (by decide)) rfl (pd_any (R' := GoodR M L) (pd_lst (ds := [encT (.tu true [.sl []]), encT (.tu true [.st [.go 0]]), encT (.tu false [.i 0, .i 0]), encT (.tu true [.non]), encT (.tu s (x :: is))]) (acT (pd_tup (ds := [.str sCourse, .list []]) (acC pd_str (acL (pd_lst (ds := []) pma_nil (Nat.zero_le _)) pma_nil)) (by show 2 ≤ sizeLine; decide)) (acT (pd_tup (ds := [.str sCourse, .tuple [goD 0]]) (acC pd_str (acT (pd_tup (ds := [goD 0]) (acT (pd_tup (ds := [.str "go", .int 0]) (acC pd_str (acC pd_int pma_nil)) (by show 2 ≤ sizeLine; decide)) pma_nil) (by show 1 ≤ sizeLine; decide)) pma_nil)) (by show 2 ≤ sizeLine; decide)) (acT (pd_tup (ds := [.str sExcess, .int 0, .int 0]) (acC pd_str (acC pd_int (acC pd_int pma_nil))) (by show 3 ≤ sizeLine; decide)) (acT (pd_tup (ds := [.str sCourse, .none]) (acC pd_str (acC pd_non pma_nil)) (by show 2 ≤ sizeLine; decide)) (acN (vr (r := .d (encT (.tu s (x :: is)))) 1 rfl) pma_nil))))) (by show 5 ≤ sizeLine; decide)) (List.cons_ne_nil _ _) (by show 5 < 2 ^ 30; decide) fun y hy => ?_) (hst := se_Name) (hst2 := se_List) (hpl := hp_List)) (done rfl))
          simp only [List.mem_cons, List.not_mem_nil, or_false] at hy
          rcases hy with rfl | rfl | rfl | rfl | rfl
          · exact g_tu (by simp) (fun z hz => by rw [List.mem_singleton.mp hz]; exact l0) (by simp)
          · exact g_tu (by simp) (fun z hz => by rw [List.mem_singleton.mp hz]; exact sg) (by simp)
          · exact g_tu (by simp) (fun z hz => by
              rcases List.mem_cons.mp hz with q | q
              · rw [q]; exact z0
              · rw [List.mem_singleton.mp q]; exact z0) (by simp)
          · exact g_tu (by simp) (fun z hz => by rw [List.mem_singleton.mp hz]; exact nn) (by simp)
          · exact g_tu hb.1 (fun z hz => bu (hb.2.1 z hz)) hb.2.2
  · have hcase : isTup (encT g) = false ∨ ∃ ds, encT g = .tuple ds ∧ ds.length < 2 := by
      cases g with
      | tu s is =>
        cases is with
        | nil => exact .inr ⟨_, rfl, by show 1 < 2; decide⟩
        | cons x is => exact absurd ⟨s, x, is, rfl⟩ hA
      | dp => exact .inr ⟨[deepD 29], deep30_eq, Nat.lt_succ_self 1⟩
      | _ => exact .inl rfl
    refine sd_cons (sd_if (P := fun b => b = true) ?_ (fun _ => ?_) fun q => by cases q)
    · rcases hcase with hc | ⟨ds, hc, hl2⟩
      · exact PWD.tst (pwd_or (P' := fun b => b = true) (pdt_not (PD.tst (isT B.isinstance B.tuple (vr (r := .d (encT g)) 1 rfl)))) (fun _ => rfl) fun q => by rw [hc] at q; cases q)
      · refine PWD.tst (pwd_or (P' := fun b => b = true) (pdt_not (PD.tst (isT B.isinstance B.tuple (vr (r := .d (encT g)) 1 rfl)))) (fun _ => rfl) fun _ => pwd_or1 (PMT.mono (ct (lenT (ds := ds) B.len (PD.as (d := encT g) (vr (r := .d (encT g)) 1 rfl) hc)) pd_int (cd_lt _ _)) fun b hb => by rw [hb]; exact decide_eq_true (by omega)))
    · refine sd_one (sd_ret (anyOf (R' := GoodR M L) C2 (hr.mono (by decide)) rfl (pd_any (R' := GoodR M L) (pd_lst (ds := [.none, .tuple [.str "course"], .tuple [.str "excess", .int 0, .int 1], .tuple [.str "course", .tuple []], .dict [], .str "course", deep30]) (acC pd_non (acT (pd_tup (ds := [.str "course"]) (acC pd_str pma_nil) (by show 1 ≤ sizeLine; decide)) (acT (pd_tup (ds := [.str "excess", .int 0, .int 1]) (acC pd_str (acC pd_int (acC pd_int pma_nil))) (by show 3 ≤ sizeLine; decide)) (acT (pd_tup (ds := [.str "course", .tuple []]) (acC pd_str (acT (pd_tup (ds := []) pma_nil (Nat.zero_le _)) pma_nil)) (by show 2 ≤ sizeLine; decide)) (acD pd_dict0 (acC pd_str (acF (PD.as (x := deep30) (pd_cal (z := deepD 30) C3 hr1 (acC pd_int pma_nil) rfl ⟨rfl, rfl⟩) deep30_d) pma_nil))))))) (by show 7 ≤ sizeLine; decide)) (List.cons_ne_nil _ _) (by show 7 < 2 ^ 30; decide) fun x hx => ?_) (hst := se_Name) (hst2 := se_List) (hpl := hp_List)) (done rfl))
      simp only [List.mem_cons, List.not_mem_nil, or_false] at hx
      rcases hx with rfl | rfl | rfl | rfl | rfl | rfl | rfl
      · exact ⟨.non, rfl, trivial⟩
      · have e := enc_c []
        exact e ▸ g_tu (s := true) (by decide) (fun x hx => nomatch hx) (by simp)
      · have e := enc_e [.i 0, .i 1]
        exact e ▸ g_tu (s := false) (by decide) (fun x hx => by simp only [List.mem_cons, List.not_mem_nil, or_false] at hx; rcases hx with rfl | rfl <;> assumption) (by simp)
      · have e := enc_c [.st []]
        exact e ▸ g_tu (s := true) (by decide) (fun x hx => by rw [List.mem_singleton.mp hx]; exact s0) (by simp)
      · exact ⟨.em, rfl, trivial⟩
      · exact enc_cs ▸ ⟨.cs, rfl, trivial⟩
      · exact ⟨.dp, rfl, trivial⟩
end
end K33

-- part P1
set_option Elab.async false
set_option maxRecDepth 100000
set_option maxHeartbeats 4000000
set_option linter.all false
namespace K33
open PySem PySem.Spec PyProof.Rows L2 Fw
/-! ### a standing's deeds, in plain words -/
theorem vf_ord {hd : Int} : ∀ {la : Option Int} {ds : List Deed}, Vf hd la ds → ∀ (j : Nat) (y n : Int), ds[j]? = some (some y, n) → (∃ l, la = some l ∧ l + 1 ≤ y) ∧ y ≤ hd - 1 ∧ ∀ i, i < j → ∃ x m, ds[i]? = some (some x, m) ∧ x < y
  | _, [], _, j, y, n, h => by simp at h
  | la, (f, m) :: r, ⟨h1, _, _, h4⟩, 0, y, n, h => by
    have e : (f, m) = (some y, n) := by simpa using h
    cases e
    cases la with
    | none => cases h1
    | some l =>
      have q : (decide (l + 1 ≤ y) && decide (y ≤ hd - 1)) = true := h1
      rw [Bool.and_eq_true] at q
      exact ⟨⟨l, rfl, of_decide_eq_true q.1⟩, of_decide_eq_true q.2, fun i hi => absurd hi (Nat.not_lt_zero _)⟩
  | la, (f, m) :: r, ⟨h1, _, _, h4⟩, j + 1, y, n, h => by
    obtain ⟨⟨l', e1, e2⟩, hy, ih⟩ := vf_ord h4 j y n (by simpa using h)
    subst e1
    cases la with
    | none => cases h1
    | some l =>
      have q : (decide (l + 1 ≤ l') && decide (l' ≤ hd - 1)) = true := h1
      rw [Bool.and_eq_true] at q
      have q1 := of_decide_eq_true q.1
      refine ⟨⟨l, rfl, by omega⟩, hy, fun i hi => ?_⟩
      cases i with
      | zero => exact ⟨l', m, rfl, by omega⟩
      | succ i =>
        obtain ⟨x, m', e, hx⟩ := ih i (by omega)
        exact ⟨x, m', by simpa using e, hx⟩
theorem vf_need {hd : Int} : ∀ {la : Option Int} {ds : List Deed}, Vf hd la ds → ∀ d ∈ ds, 0 ≤ d.2
  | _, [], _, d, h => nomatch h
  | _, (f, m) :: r, ⟨_, h2, _, h4⟩, d, h => by
    rcases List.mem_cons.mp h with z | z
    · rw [z]; exact h2
    · exact vf_need h4 d z
structure Fk (c h : Int) (ds : List Deed) : Prop where
  ord : ∀ i j y, 0 ≤ i → i < j → fstAt ds j = some y → ∃ x, fstAt ds i = some x ∧ x < y
  bd : ∀ i x, fstAt ds i = some x → 0 ≤ x ∧ x < h ∧ h - x ≤ c
  nd : ∀ i, 0 ≤ needAt ds i
theorem fst_some {ds : List Deed} {i x : Int} (h : fstAt ds i = some x) : ∃ n, ds[i.toNat]? = some (some x, n) := by
  unfold fstAt at h
  cases e : ds[i.toNat]? with
  | none => rw [e] at h; cases h
  | some d =>
    rw [e] at h
    have h : d.1 = some x := h
    exact ⟨d.2, by rw [← h]⟩
theorem fst_of {ds : List Deed} {i x n : Int} {k : Nat} (h : ds[k]? = some (some x, n)) (e : i.toNat = k) : fstAt ds i = some x := by
  unfold fstAt
  rw [e, h]
  rfl
theorem fk_of {c h : Int} {ds : List Deed} (s : StOk c h ds) : Fk c h ds := by
  obtain ⟨c1, c2, h1, h2, hl, hv, hro⟩ := s
  refine ⟨fun i j y i0 hij e => ?_, fun i x e => ?_, fun i => ?_⟩
  · obtain ⟨n, e⟩ := fst_some e
    obtain ⟨_, _, k⟩ := vf_ord hv _ _ _ e
    obtain ⟨x, m, e2, hx⟩ := k i.toNat (by omega)
    exact ⟨x, fst_of e2 rfl, hx⟩
  · obtain ⟨n, e⟩ := fst_some e
    obtain ⟨⟨l, e1, hl⟩, hy, k⟩ := vf_ord hv _ _ _ e
    cases e1
    refine ⟨by omega, by omega, ?_⟩
    have first : ∃ x0 m, ds[0]? = some (some x0, m) ∧ x0 ≤ x := by
      by_cases q : i.toNat = 0
      · rw [q] at e; exact ⟨x, n, e, Int.le_refl _⟩
      · obtain ⟨x0, m, e0, hx⟩ := k 0 (by omega)
        exact ⟨x0, m, e0, by omega⟩
    obtain ⟨x0, m, e0, hx⟩ := first
    cases ds with
    | nil => simp at e0
    | cons d r =>
      have e0 : d = (some x0, m) := by simpa using e0
      subst e0
      have hro : h - x0 ≤ c := hro
      omega
  · unfold needAt
    cases e : ds[i.toNat]? with
    | none => exact Int.le_refl _
    | some d => exact vf_need hv d (List.mem_of_getElem? e)
theorem fk_le {c h : Int} {ds : List Deed} (K : Fk c h ds) {i j x y : Int} (i0 : 0 ≤ i) (hij : i ≤ j) (e1 : fstAt ds i = some x) (e2 : fstAt ds j = some y) : x ≤ y := by
  by_cases q : i = j
  · subst q; rw [e1] at e2; cases e2; exact Int.le_refl _
  · obtain ⟨x', e3, hx⟩ := K.ord i j y i0 (by omega) e2
    rw [e1] at e3; cases e3
    omega
theorem fk_none {c h : Int} {ds : List Deed} (K : Fk c h ds) {i j : Int} (i0 : 0 ≤ i) (hij : i ≤ j) (e1 : fstAt ds i = none) : fstAt ds j = none := by
  cases e2 : fstAt ds j with
  | none => rfl
  | some y =>
    by_cases q : i = j
    · subst q; rw [e1] at e2; cases e2
    · obtain ⟨x', e3, hx⟩ := K.ord i j y i0 (by omega) e2
      rw [e1] at e3; cases e3
theorem held_some {ds : List Deed} {l : List Int} {n k : Int} (lo : LotOk l n) (e : (heldL ds l).head? = some k) : k ∈ l ∧ (∃ x, fstAt ds k = some x) ∧ ∀ i ∈ l, ∀ x, fstAt ds i = some x → k ≤ i := by
  have hs : (heldL ds l).Pairwise (· < ·) := lo.1.filter _
  unfold heldL at e hs
  cases q : l.filter (fun i => (fstAt ds i).isSome) with
  | nil => rw [q] at e; cases e
  | cons k' r =>
    rw [q] at e hs
    cases e
    have hk : k ∈ l.filter (fun i => (fstAt ds i).isSome) := by rw [q]; exact List.mem_cons_self
    obtain ⟨h1, h2⟩ := List.mem_filter.mp hk
    refine ⟨h1, Option.isSome_iff_exists.mp h2, fun i hi x hx => ?_⟩
    have him : i ∈ l.filter (fun i => (fstAt ds i).isSome) := List.mem_filter.mpr ⟨hi, by rw [hx]; rfl⟩
    rw [q] at him
    rcases List.mem_cons.mp him with z | z
    · rw [z]; exact Int.le_refl _
    · exact Int.le_of_lt ((List.pairwise_cons.mp hs).1 i z)
theorem held_none {ds : List Deed} {l : List Int} (e : (heldL ds l).head? = none) : ∀ i ∈ l, fstAt ds i = none := fun i hi => by
  cases q : fstAt ds i with
  | none => rfl
  | some x =>
    have him : i ∈ heldL ds l := List.mem_filter.mpr ⟨hi, by rw [q]; rfl⟩
    rw [List.head?_eq_none_iff.mp e] at him
    cases him
theorem sum_nn {ds : List Deed} (hn : ∀ i, 0 ≤ needAt ds i) : ∀ (is : List Int), 0 ≤ sumN ds is
  | [] => Int.le_refl _
  | i :: is => by
    have := sum_nn hn is
    have := hn i
    show 0 ≤ needAt ds i + sumN ds is
    omega
theorem sum_sub {ds : List Deed} (hn : ∀ i, 0 ≤ needAt ds i) {a b : List Int} (s : a.Sublist b) : sumN ds a ≤ sumN ds b := by
  induction s with
  | slnil => exact Int.le_refl _
  | @cons a b x s ih =>
    have := hn x
    show sumN ds a ≤ needAt ds x + sumN ds b
    omega
  | @cons_cons a b x s ih =>
    show needAt ds x + sumN ds a ≤ needAt ds x + sumN ds b
    omega
theorem sum_mem {ds : List Deed} (hn : ∀ i, 0 ≤ needAt ds i) {b : List Int} {j : Int} (h : j ∈ b) : needAt ds j ≤ sumN ds b := by
  have q := sum_sub hn (List.singleton_sublist.mpr h)
  have e : sumN ds [j] = needAt ds j + 0 := rfl
  omega
theorem sum_app {ds : List Deed} (a b : List Int) : sumN ds (a ++ b) = sumN ds a + sumN ds b := by unfold sumN; rw [List.map_append, List.sum_append]
def AllOk (c h : Int) (ds : List Deed) (l : List Int) : Prop := ∀ j v, 0 ≤ j → j < (ds.length : Int) → doubtS h ds l j = some v → v ≤ c
def endAt (h : Int) (ds : List Deed) (l : List Int) (j : Int) : Int := h + sumN ds ((othersL ds l).filter fun i => decide (i ≤ j))
theorem room_at {c h : Int} {ds : List Deed} {l : List Int} {j : Int} (K : Fk c h ds) (lo : LotOk l ds.length) (ok : AllOk c h ds l) (hj : j ∈ othersL ds l) : (∀ i x, 0 ≤ i → i ∈ l ∨ j ≤ i → fstAt ds i = some x → endAt h ds l j - x ≤ c) ∧ needAt ds j ≤ c := by
  obtain ⟨j0, j1, j2⟩ := others_in hj
  have hsum : sumN ds ((othersL ds l).filter fun i => decide (i ≤ j)) ≤ sumN ds (othersL ds l) := sum_sub K.nd List.filter_sublist
  have hmem : needAt ds j ≤ sumN ds ((othersL ds l).filter fun i => decide (i ≤ j)) := sum_mem K.nd (List.mem_filter.mpr ⟨hj, decide_eq_true (Int.le_refl _)⟩)
  have nob : ∀ {k : Option Int}, (heldL ds l).head? = k → k ≠ some j → (∀ k', k = some k' → ¬ k' < j) → doubtS h ds l j = some (frontS h ds l j) := by
    intro k e h1 h2
    unfold doubtS
    rw [e, if_neg h1, if_neg]
    rintro (z | z)
    · exact j2 z
    · unfold behindS at z
      rw [e] at z
      cases k with
      | none => cases z
      | some k' => exact h2 k' rfl (of_decide_eq_true z)
  cases e : (heldL ds l).head? with
  | none =>
    have hno := held_none e
    have hd := ok j _ j0 j1 (nob e nofun fun k' q => nomatch q)
    cases ej : fstAt ds j with
    | none =>
      have ev : frontS h ds l j = needAt ds j := by unfold frontS; rw [ej]
      rw [ev] at hd
      refine ⟨fun i x i0 hi ei => ?_, hd⟩
      rcases hi with hi | hi
      · rw [hno i hi] at ei; cases ei
      · rw [fk_none K j0 hi ej] at ei; cases ei
    | some f =>
      have ev : frontS h ds l j = h - f + sumN ds ((othersL ds l).filter fun i => decide (i ≤ j)) := by unfold frontS; rw [ej]
      rw [ev] at hd
      have hf := K.bd j f ej
      refine ⟨fun i x i0 hi ei => ?_, by omega⟩
      unfold endAt
      rcases hi with hi | hi
      · rw [hno i hi] at ei; cases ei
      · have := fk_le K j0 hi ej ei
        omega
  | some k =>
    obtain ⟨hk, ⟨fk, ek⟩, hmin⟩ := held_some lo e
    have k0 := (lo.2 k hk).1
    have hne : k ≠ j := fun z => j2 (z ▸ hk)
    have hfk := K.bd k fk ek
    by_cases hkj : k < j
    · have hd := ok k (h - fk + sumN ds (othersL ds l)) k0 (lo.2 k hk).2 (by
        unfold doubtS
        rw [if_pos e, ek]
        rfl)
      refine ⟨fun i x i0 hi ei => ?_, by omega⟩
      unfold endAt
      have : fk ≤ x := by
        rcases hi with hi | hi
        · exact fk_le K k0 (hmin i hi x ei) ek ei
        · exact fk_le K k0 (by omega) ek ei
      omega
    · obtain ⟨f, ej, hff⟩ := K.ord j k fk j0 (by omega) ek
      have hd := ok j _ j0 j1 (nob e (fun z => hne (Option.some.inj z)) fun k' q => by cases q; exact hkj)
      have ev : frontS h ds l j = h - f + sumN ds ((othersL ds l).filter fun i => decide (i ≤ j)) := by unfold frontS; rw [ej]
      rw [ev] at hd
      have hf := K.bd j f ej
      refine ⟨fun i x i0 hi ei => ?_, by omega⟩
      unfold endAt
      have : f ≤ x := by
        rcases hi with hi | hi
        · exact fk_le K j0 (by have := hmin i hi x ei; omega) ej ei
        · exact fk_le K j0 hi ej ei
      omega
end K33

-- part P2
set_option Elab.async false
set_option maxRecDepth 100000
set_option maxHeartbeats 4000000
set_option linter.all false
namespace K33
open PySem PySem.Spec PyProof.Rows L2 Fw
/-! ### steps that run -/
def Run : Led → List PyData → Led → Prop
  | L, [], L' => L = L'
  | L, x :: xs, L' => (stepB L x).1 = true ∧ Run (stepB L x).2 xs L'
theorem Run.app : ∀ {a b : List PyData} {L M N : Led}, Run L a M → Run M b N → Run L (a ++ b) N
  | [], b, L, M, N, h, k => by cases h; exact k
  | x :: a, b, L, M, N, h, k => ⟨h.1, Run.app h.2 k⟩
theorem stL_cons (L : Led) (x : PyData) (xs : List PyData) (j : Nat) : stL L (x :: xs) (j + 1) = stL (stepB L x).2 xs j := rfl
theorem Run.good : ∀ {ss : List PyData} {L L' : Led}, Run L ss L' → (∀ j x, ss[j]? = some x → (stepB (stL L ss j) x).1 = true) ∧ stL L ss ss.length = L'
  | [], L, L', h => by cases h; exact ⟨fun j x e => by simp at e, rfl⟩
  | x :: xs, L, L', h => by
    obtain ⟨g1, g2⟩ := Run.good h.2
    refine ⟨fun j y e => ?_, ?_⟩
    · cases j with
      | zero =>
        have e : x = y := by simpa using e
        subst e
        exact h.1
      | succ j => rw [stL_cons]; exact g1 j y (by simpa using e)
    · rw [List.length_cons, stL_cons]; exact g2
theorem run_course {c h : Int} {ds : List Deed} {l : List Int} {ss : List PyData} {L' : Led} (hf : fitsB (led0 c h ds l) = true) (r : Run (led0 c h ds l) ss L') (e : L'.rest = []) : courseP c h ds l (.tuple ss) = true := by
  obtain ⟨g1, g2⟩ := r.good
  show (fitsB (led0 c h ds l) && (allB (led0 c h ds l) ss && decide (((stL (led0 c h ds l) ss ss.length).rest.length : Int) = 0))) = true
  rw [hf, allB_true fun j x _ q => g1 j x q, g2, e]
  rfl
theorem fits_of {L : Led} (h : ∀ p ∈ L.firsts, L.h - p.2 ≤ L.c) : fitsB L = true := by
  unfold fitsB
  cases e : L.firsts with
  | nil => rfl
  | cons p r =>
    have ne : (L.firsts.map (·.2)) ≠ [] := by rw [e]; exact List.cons_ne_nil _ _
    obtain ⟨q, hq, e2⟩ := List.mem_map.mp (minL_spec _ ne).1
    have q2 := h q hq
    rw [e2] at q2
    rw [← e, decide_eq_true q2, Bool.or_true]
theorem fits0 {c h : Int} {ds : List Deed} {l : List Int} (K : Fk c h ds) : fitsB (led0 c h ds l) = true := by
  refine fits_of fun p hp => ?_
  have hp : p ∈ firsts0 ds := hp
  rw [firsts0_eq] at hp
  obtain ⟨i, hi, e⟩ := List.mem_map.mp hp
  obtain ⟨_, h2⟩ := List.mem_filter.mp hi
  obtain ⟨x, hx⟩ := Option.isSome_iff_exists.mp h2
  subst e
  have q := (K.bd i x hx).2.2
  show h - (fstAt ds i).getD 0 ≤ c
  rw [hx]
  exact q
/-! ### the steps of a course -/
def restR (ds : List Deed) (l : List Int) (j : Int) : List (Int × Int) := ((othersL ds l).filter fun i => decide (j ≤ i)).map fun i => (i, needAt ds i)
theorem rest_0 (ds : List Deed) (l : List Int) : rest0 ds l = restR ds l 0 := by
  rw [rest0_eq]
  unfold restR
  show (othersL ds l).map _ = _
  congr 1
  rw [List.filter_eq_self.mpr]
  exact fun a ha => decide_eq_true (others_in ha).1
theorem rest_n (ds : List Deed) (l : List Int) : restR ds l ds.length = [] := by
  unfold restR
  rw [List.map_eq_nil_iff, List.filter_eq_nil_iff]
  intro a ha
  have := (others_in ha).2.1
  rw [decide_eq_true_eq]
  omega
theorem rest_get {ds : List Deed} {l : List Int} {j : Int} (hj : j ∈ othersL ds l) : getI (restR ds l j) j = some (needAt ds j) :=
  getI_map (List.mem_filter.mpr ⟨hj, decide_eq_true (Int.le_refl _)⟩)
theorem rest_dropI {ds : List Deed} {l : List Int} {j : Int} : dropI (restR ds l j) j = restR ds l (j + 1) := by
  unfold dropI restR
  rw [List.filter_map, List.filter_filter]
  congr 1
  apply List.filter_congr
  intro a _
  show (decide (a ≠ j) && decide (j ≤ a)) = decide (j + 1 ≤ a)
  rw [Bool.eq_iff_iff, Bool.and_eq_true, decide_eq_true_eq, decide_eq_true_eq, decide_eq_true_eq]
  omega
theorem rest_skip {ds : List Deed} {l : List Int} {j : Int} (hj : j ∉ othersL ds l) : restR ds l j = restR ds l (j + 1) := by
  unfold restR
  congr 1
  apply List.filter_congr
  intro a ha
  have : a ≠ j := fun z => hj (z ▸ ha)
  rw [Bool.eq_iff_iff, decide_eq_true_eq, decide_eq_true_eq]
  omega
theorem drop_put (l : List (Int × Int)) (k v : Int) : dropI (putI l k v) k = dropI l k := by
  unfold putI
  split
  · unfold dropI
    rw [List.filter_map]
    have e : l.filter ((fun p : Int × Int => decide (p.1 ≠ k)) ∘ fun p => if p.1 = k then (p.1, v) else p) = l.filter fun p => decide (p.1 ≠ k) := by
      apply List.filter_congr
      intro p _
      show decide ((if p.1 = k then (p.1, v) else p).1 ≠ k) = _
      by_cases q : p.1 = k
      · rw [if_pos q]
      · rw [if_neg q]
    rw [e]
    have e2 : ∀ p ∈ l.filter (fun p => decide (p.1 ≠ k)), (fun p : Int × Int => if p.1 = k then (p.1, v) else p) p = id p := fun p hp => by
      have q : p.1 ≠ k := of_decide_eq_true (List.mem_filter.mp hp).2
      show (if p.1 = k then (p.1, v) else p) = p
      rw [if_neg q]
    rw [List.map_congr_left e2, List.map_id]
  · unfold dropI
    rw [List.filter_append, List.filter_cons_of_neg (by simp), List.filter_nil, List.append_nil]
theorem getI_put {l : List (Int × Int)} {k v : Int} : getI (putI l k v) k = some v := by
  unfold putI getI
  induction l with
  | nil => simp
  | cons p r ih =>
    by_cases q : p.1 = k
    · simp [q]
    · by_cases z : r.any (fun p => decide (p.1 = k)) = true
      · rw [if_pos z] at ih
        have z2 : (p :: r).any (fun p => decide (p.1 = k)) = true := by rw [List.any_cons, z, Bool.or_true]
        rw [if_pos z2, List.map_cons, if_neg q, List.find?_cons_of_neg (by simpa using q)]
        exact ih
      · rw [if_neg z] at ih
        have z2 : ¬ (p :: r).any (fun p => decide (p.1 = k)) = true := by
          rw [List.any_cons]
          simpa [q] using z
        rw [if_neg z2, List.cons_append, List.find?_cons_of_neg (by simpa using q)]
        exact ih
structure LInv (c h : Int) (ds : List Deed) (l : List Int) (j : Int) (L : Led) : Prop where
  c : L.c = c
  h : L.h = h + sumN ds ((othersL ds l).filter fun i => decide (i < j))
  r : L.rest = restR ds l j
  f : ∀ p ∈ L.firsts, (p.1 ∈ l ∨ j ≤ p.1) ∧ 0 ≤ p.1 ∧ fstAt ds p.1 = some p.2
theorem linv0 (c h : Int) (ds : List Deed) (l : List Int) : LInv c h ds l 0 (led0 c h ds l) := by
  refine ⟨rfl, ?_, rest_0 ds l, fun p hp => ?_⟩
  · have e : (othersL ds l).filter (fun i => decide (i < 0)) = [] := by
      rw [List.filter_eq_nil_iff]
      intro a ha
      have := (others_in ha).1
      rw [decide_eq_true_eq]
      omega
    rw [e]
    show h = h + 0
    omega
  · have hp : p ∈ firsts0 ds := hp
    rw [firsts0_eq] at hp
    obtain ⟨i, hi, e⟩ := List.mem_map.mp hp
    obtain ⟨h1, h2⟩ := List.mem_filter.mp hi
    obtain ⟨x, hx⟩ := Option.isSome_iff_exists.mp h2
    subst e
    refine ⟨.inr (idxL_in h1).1, (idxL_in h1).1, ?_⟩
    show fstAt ds i = some ((fstAt ds i).getD 0)
    rw [hx]; rfl
theorem sum_step {ds : List Deed} {os : List Int} {j : Int} (hs : os.Pairwise (· < ·)) (hj : j ∈ os) : sumN ds (os.filter fun i => decide (i ≤ j)) = sumN ds (os.filter fun i => decide (i < j)) + needAt ds j := by
  induction os with
  | nil => cases hj
  | cons x os ih =>
    obtain ⟨h1, h2⟩ := List.pairwise_cons.mp hs
    rcases List.mem_cons.mp hj with z | z
    · subst z
      have e1 : os.filter (fun i => decide (i ≤ j)) = [] := by
        rw [List.filter_eq_nil_iff]
        intro a ha
        have := h1 a ha
        rw [decide_eq_true_eq]; omega
      have e2 : os.filter (fun i => decide (i < j)) = [] := by
        rw [List.filter_eq_nil_iff]
        intro a ha
        have := h1 a ha
        rw [decide_eq_true_eq]; omega
      rw [List.filter_cons_of_pos (by simp), List.filter_cons_of_neg (by simp), e1, e2]
      show needAt ds j + 0 = 0 + needAt ds j
      omega
    · have hx := h1 j z
      rw [List.filter_cons_of_pos (by rw [decide_eq_true_eq]; omega), List.filter_cons_of_pos (by rw [decide_eq_true_eq]; omega)]
      have := ih h2 z
      show needAt ds x + sumN ds (os.filter _) = needAt ds x + sumN ds (os.filter _) + needAt ds j
      omega
theorem idx_sorted (n : Nat) : (idxL n).Pairwise (· < ·) := List.Pairwise.map _ (fun a b h => by omega) List.pairwise_lt_range
theorem others_sorted (ds : List Deed) (l : List Int) : (othersL ds l).Pairwise (· < ·) := (idx_sorted _).filter _
theorem filt_next {os : List Int} {j : Int} : os.filter (fun i => decide (i ≤ j)) = os.filter (fun i => decide (i < j + 1)) := by
  apply List.filter_congr
  intro a _
  rw [Bool.eq_iff_iff, decide_eq_true_eq, decide_eq_true_eq]
  omega
theorem filt_skip {os : List Int} {j : Int} (hj : j ∉ os) : os.filter (fun i => decide (i < j)) = os.filter (fun i => decide (i < j + 1)) := by
  apply List.filter_congr
  intro a ha
  have : a ≠ j := fun z => hj (z ▸ ha)
  rw [Bool.eq_iff_iff, decide_eq_true_eq, decide_eq_true_eq]
  omega
theorem putI_mem {l : List (Int × Int)} {k v : Int} {p : Int × Int} (h : p ∈ putI l k v) : p ∈ l ∨ p = (k, v) := by
  unfold putI at h
  split at h
  · obtain ⟨q, hq, e⟩ := List.mem_map.mp h
    by_cases z : q.1 = k
    · rw [if_pos z] at e
      right
      rw [← e, z]
    · rw [if_neg z] at e
      left
      rw [← e]; exact hq
  · rcases List.mem_append.mp h with z | z
    · exact .inl z
    · exact .inr (List.mem_singleton.mp z)
theorem dropI_mem {l : List (Int × Int)} {k : Int} {p : Int × Int} (h : p ∈ dropI l k) : p ∈ l ∧ p.1 ≠ k := ⟨(List.mem_filter.mp h).1, of_decide_eq_true (List.mem_filter.mp h).2⟩
section
variable {c h : Int} {ds : List Deed} {l : List Int}
theorem go_run {L : Led} {j v : Int} (e : getI L.rest j = some v) (hv : v = 0) : Run L [goD j] (goL L j) := by
  have q : stepB L (goD j) = (decide (v = 0), goL L j) := stepB_at [] e
  exact ⟨by rw [q]; exact decide_eq_true hv, by rw [q]; rfl⟩
theorem wr_run {L : Led} {j v n : Int} (e : getI L.rest j = some v) (h1 : 1 ≤ n) (h2 : n ≤ v) (hf : fitsB (wrL L j v n) = true) : Run L [wrD j n] (wrL L j v n) := by
  have q : stepB L (wrD j n) = (fitsB (wrL L j v n), wrL L j v n) := by
    show (if sWrite == sWrite then match getI L.rest j with
      | some v => if 1 ≤ n ∧ n ≤ v then (fitsB (wrL L j v n), wrL L j v n) else (false, L)
      | none => (false, L) else (false, L)) = _
    rw [if_pos (by decide), e]
    show (if 1 ≤ n ∧ n ≤ v then _ else _) = _
    rw [if_pos ⟨h1, h2⟩]
  exact ⟨by rw [q]; exact hf, by rw [q]; rfl⟩
theorem one_run {j : Int} {d : Deed} {L : Led} (K : Fk c h ds) (lo : LotOk l ds.length) (ok : AllOk c h ds l) (I : LInv c h ds l j L) (j0 : 0 ≤ j) (j1 : j < ds.length) (hd : needAt ds j = d.2) : ∃ L', Run L (stepsAt l d j) L' ∧ LInv c h ds l (j + 1) L' := by
  by_cases hl : j ∈ l
  · have hno : j ∉ othersL ds l := fun z => (others_in z).2.2 hl
    refine ⟨L, by unfold stepsAt; rw [if_pos hl]; exact rfl, I.c, by rw [← filt_skip hno]; exact I.h, by rw [← rest_skip hno]; exact I.r, fun p hp => ?_⟩
    obtain ⟨h1, h2, h3⟩ := I.f p hp
    refine ⟨?_, h2, h3⟩
    rcases h1 with h1 | h1
    · exact .inl h1
    · by_cases z : p.1 = j
      · exact .inl (z ▸ hl)
      · exact .inr (by omega)
  · have hj : j ∈ othersL ds l := others_mem j0 j1 hl
    obtain ⟨ra, rb⟩ := room_at K lo ok hj
    have hg : getI L.rest j = some d.2 := by rw [I.r, rest_get hj, hd]
    have hE : endAt h ds l j = L.h + d.2 := by
      unfold endAt
      rw [sum_step (others_sorted ds l) hj, I.h, hd]
      omega
    have hnn := K.nd j
    have es : stepsAt l d j = (if 0 < d.2 then [wrD j d.2] else []) ++ [goD j] := by unfold stepsAt; rw [if_neg hl]
    rw [es]
    by_cases hp : 0 < d.2
    · rw [if_pos hp]
      have hfm : ∀ p ∈ (wrL L j d.2 d.2).firsts, p ∈ L.firsts ∨ p = (j, L.h) := fun p hp => by
        have hp : p ∈ (if (getI L.firsts j).isSome then L.firsts else putI L.firsts j L.h) := hp
        split at hp
        · exact .inl hp
        · exact putI_mem hp
      have hfit : fitsB (wrL L j d.2 d.2) = true := fits_of fun p hp => by
        show (L.h + d.2) - p.2 ≤ L.c
        rw [I.c]
        rcases hfm p hp with z | z
        · obtain ⟨h1, h2, h3⟩ := I.f p z
          have := ra p.1 p.2 h2 h1 h3
          omega
        · subst z
          show (L.h + d.2) - L.h ≤ c
          omega
      refine ⟨goL (wrL L j d.2 d.2) j, Run.app (wr_run hg (by omega) (Int.le_refl _) hfit) (go_run (v := d.2 - d.2) getI_put (by omega)), I.c, ?_, ?_, fun p hp => ?_⟩
      · show L.h + d.2 = _
        rw [← filt_next, sum_step (others_sorted ds l) hj, I.h, hd]
        omega
      · show dropI (putI L.rest j (d.2 - d.2)) j = _
        rw [drop_put, I.r, rest_dropI]
      · obtain ⟨h1, h2⟩ := dropI_mem (show p ∈ dropI (wrL L j d.2 d.2).firsts j from hp)
        rcases hfm p h1 with z | z
        · obtain ⟨h3, h4, h5⟩ := I.f p z
          exact ⟨h3.imp id fun z => by omega, h4, h5⟩
        · subst z; exact absurd rfl h2
    · rw [if_neg hp, List.nil_append]
      have hz : d.2 = 0 := by omega
      refine ⟨goL L j, go_run hg hz, I.c, ?_, ?_, fun p hp => ?_⟩
      · show L.h = _
        rw [← filt_next, sum_step (others_sorted ds l) hj, I.h, hd]
        omega
      · show dropI L.rest j = _
        rw [I.r, rest_dropI]
      · obtain ⟨h1, h2⟩ := dropI_mem (show p ∈ dropI L.firsts j from hp)
        obtain ⟨h3, h4, h5⟩ := I.f p h1
        exact ⟨h3.imp id fun z => by omega, h4, h5⟩
def flatS (l : List Int) (zs : List (Deed × Nat)) : List PyData := zs.flatMap fun p => stepsAt l p.1 p.2
theorem all_run (K : Fk c h ds) (lo : LotOk l ds.length) (ok : AllOk c h ds l) : ∀ (m j : Nat) (L : Led), j + m = ds.length → LInv c h ds l j L → ∃ L', Run L (flatS l (ds.zipIdx.drop j)) L' ∧ L'.rest = []
  | 0, j, L, e, I => by
    have ej : j = ds.length := by omega
    subst ej
    refine ⟨L, ?_, by rw [I.r]; exact rest_n ds l⟩
    rw [List.drop_of_length_le (by rw [List.length_zipIdx]; exact Nat.le_refl _)]
    exact rfl
  | m + 1, j, L, e, I => by
    have hj : j < ds.length := by omega
    have hz : ds.zipIdx[j]? = some (ds[j], j) := by rw [List.getElem?_zipIdx, List.getElem?_eq_getElem hj]; simp
    have hn : needAt ds (j : Int) = (ds[j]).2 := (zip_need (List.mem_of_getElem? hz)).1
    obtain ⟨L1, r1, I1⟩ := one_run K lo ok I (by omega) (by omega) hn
    obtain ⟨L2, r2, e2⟩ := all_run K lo ok m (j + 1) L1 (by omega) I1
    refine ⟨L2, ?_, e2⟩
    rw [drop_cons hz]
    exact Run.app r1 r2
theorem dfl_ok : ∀ (zs : List (Deed × Nat)) (acc : List PyData), (∀ p ∈ zs, ∀ v, doubtS h ds l (p.2 : Int) = some v → v ≤ c) → dfl c h ds l zs acc = coD (acc ++ flatS l zs)
  | [], acc, _ => by
    show coD acc = coD (acc ++ [])
    rw [List.append_nil]
  | (d, j) :: r, acc, hh => by
    have ih := dfl_ok r (acc ++ stepsAt l d j) fun p hp => hh p (List.mem_cons_of_mem _ hp)
    have e : coD (acc ++ flatS l ((d, j) :: r)) = coD ((acc ++ stepsAt l d j) ++ flatS l r) := by
      show coD (acc ++ (stepsAt l d j ++ flatS l r)) = _
      rw [List.append_assoc]
    rw [e, ← ih]
    show (match doubtS h ds l j with
      | some f => if c < f then exD j f else dfl c h ds l r (acc ++ stepsAt l d j)
      | none => dfl c h ds l r (acc ++ stepsAt l d j)) = _
    cases q : doubtS h ds l j with
    | none => rfl
    | some f =>
      have := hh (d, j) List.mem_cons_self f q
      show (if c < f then _ else _) = _
      rw [if_neg (by omega)]
theorem dfl_no : ∀ (zs : List (Deed × Nat)) (acc : List PyData), (∃ p ∈ zs, ∃ v, doubtS h ds l (p.2 : Int) = some v ∧ c < v) → ∃ p ∈ zs, ∃ v, doubtS h ds l (p.2 : Int) = some v ∧ c < v ∧ dfl c h ds l zs acc = exD p.2 v
  | [], acc, ⟨p, hp, _⟩ => nomatch hp
  | (d, j) :: r, acc, ⟨p, hp, v, e, hv⟩ => by
    have un : dfl c h ds l ((d, j) :: r) acc = (match doubtS h ds l j with
      | some f => if c < f then exD j f else dfl c h ds l r (acc ++ stepsAt l d j)
      | none => dfl c h ds l r (acc ++ stepsAt l d j)) := rfl
    cases q : doubtS h ds l j with
    | none =>
      have un : dfl c h ds l ((d, j) :: r) acc = dfl c h ds l r (acc ++ stepsAt l d j) := by rw [un, q]
      rcases List.mem_cons.mp hp with z | z
      · subst z
        rw [q] at e; cases e
      · obtain ⟨p', hp', v', e', hv', ee⟩ := dfl_no r (acc ++ stepsAt l d j) ⟨p, z, v, e, hv⟩
        exact ⟨p', List.mem_cons_of_mem _ hp', v', e', hv', by rw [un]; exact ee⟩
    | some f =>
      by_cases hf : c < f
      · refine ⟨(d, j), List.mem_cons_self, f, q, hf, ?_⟩
        rw [un, q]
        show (if c < f then _ else _) = _
        rw [if_pos hf]
      · have un : dfl c h ds l ((d, j) :: r) acc = dfl c h ds l r (acc ++ stepsAt l d j) := by
          rw [un, q]
          show (if c < f then _ else _) = _
          rw [if_neg hf]
        rcases List.mem_cons.mp hp with z | z
        · subst z
          rw [q] at e; cases e
          exact absurd hv hf
        · obtain ⟨p', hp', v', e', hv', ee⟩ := dfl_no r (acc ++ stepsAt l d j) ⟨p, z, v, e, hv⟩
          exact ⟨p', List.mem_cons_of_mem _ hp', v', e', hv', by rw [un]; exact ee⟩
/-! ### what doubtful tells -/
theorem told_ok (ok : AllOk c h ds l) : doubtfulD c h ds l = coD (flatS l ds.zipIdx) := by
  unfold doubtfulD
  rw [dfl_ok ds.zipIdx [] fun p hp v e => ?_, List.nil_append]
  obtain ⟨i, hi⟩ := List.getElem?_of_mem hp
  obtain ⟨e1, e2⟩ := zip_at hi
  have := (List.getElem?_eq_some_iff.mp e2).1
  exact ok p.2 v (by omega) (by omega) e
theorem told_no (no : ¬ AllOk c h ds l) : ∃ (j : Nat) (v : Int), j < ds.length ∧ doubtS h ds l j = some v ∧ c < v ∧ doubtfulD c h ds l = exD j v := by
  have ex : ∃ p ∈ ds.zipIdx, ∃ v, doubtS h ds l (p.2 : Int) = some v ∧ c < v := by
    apply Classical.byContradiction
    intro hn
    refine no fun j v j0 j1 e => ?_
    apply Classical.byContradiction
    intro hv
    have hj : j.toNat < ds.length := by omega
    have hz : ds.zipIdx[j.toNat]? = some (ds[j.toNat], j.toNat) := by rw [List.getElem?_zipIdx, List.getElem?_eq_getElem hj]; simp
    refine hn ⟨_, List.mem_of_getElem? hz, v, ?_, by omega⟩
    show doubtS h ds l ((j.toNat : Nat) : Int) = some v
    rw [Int.toNat_of_nonneg j0]; exact e
  obtain ⟨p, hp, v, e, hv, ee⟩ := dfl_no ds.zipIdx [] ex
  obtain ⟨i, hi⟩ := List.getElem?_of_mem hp
  obtain ⟨e1, e2⟩ := zip_at hi
  have := (List.getElem?_eq_some_iff.mp e2).1
  exact ⟨p.2, v, by omega, e, hv, ee⟩
theorem told_judged (K : Fk c h ds) (lo : LotOk l ds.length) : judgeP c h ds l (doubtfulD c h ds l) = true := by
  by_cases ok : AllOk c h ds l
  · obtain ⟨L', r, e⟩ := all_run K lo ok ds.length 0 _ (Nat.zero_add _) (linv0 c h ds l)
    have r : Run (led0 c h ds l) (flatS l ds.zipIdx) L' := r
    rw [told_ok ok]
    show ((sCourse == sCourse) && courseP c h ds l (.tuple (flatS l ds.zipIdx))) = true
    rw [run_course (fits0 K) r e]
    rfl
  · obtain ⟨j, v, hj, e, hv, ee⟩ := told_no ok
    rw [ee]
    show (!(sExcess == sCourse) && ((sExcess == sExcess) && ((decide (0 ≤ (j : Int)) && decide ((j : Int) ≤ (ds.length : Int) - 1)) && (decide (doubtS h ds l j = some v) && decide (c < v))))) = true
    rw [decide_eq_true (show 0 ≤ (j : Int) by omega), decide_eq_true (show (j : Int) ≤ (ds.length : Int) - 1 by omega), decide_eq_true e, decide_eq_true hv]
    decide
end
end K33

-- part P3
set_option Elab.async false
set_option maxRecDepth 100000
set_option maxHeartbeats 4000000
set_option linter.all false
namespace K33
open PySem PySem.Spec PyProof.Rows L2 Fw
/-! ### the flood and the sums -/
theorem least_held {hd rest : List Int} {places : List (Option Int)} {x : Int} (h : x ∈ hd) : leastOf hd rest places ≤ x :=
  (minL_spec _ (fun z => by rw [List.append_eq_nil_iff] at z; rw [z.1] at h; cases h)).2 x (List.mem_append.mpr (.inl h))
theorem least_place {hd rest : List Int} {places : List (Option Int)} {x : Int} {k : Nat} (hk : k < rest.length) (hx : places.getD k none = some x) (hr : 0 < rest.getD k 0) : leastOf hd rest places ≤ x := by
  have hm : x ∈ hd ++ ((idxL rest.length).filter fun k => (places.getD k.toNat none).isSome && decide (0 < rest.getD k.toNat 0)).map fun k => (places.getD k.toNat none).getD 0 := by
    refine List.mem_append.mpr (.inr (List.mem_map.mpr ⟨(k : Int), List.mem_filter.mpr ⟨List.mem_map.mpr ⟨k, List.mem_range.mpr hk, rfl⟩, ?_⟩, ?_⟩))
    · rw [show ((k : Int)).toNat = k from rfl, hx, decide_eq_true hr]; rfl
    · rw [show ((k : Int)).toNat = k from rfl, hx]; rfl
  exact (minL_spec _ (fun z => by rw [z] at hm; cases hm)).2 x hm
theorem least_from {hd rest : List Int} {places : List (Option Int)} (ne : hd ++ ((idxL rest.length).filter fun k => (places.getD k.toNat none).isSome && decide (0 < rest.getD k.toNat 0)).map (fun k => (places.getD k.toNat none).getD 0) ≠ []) :
    leastOf hd rest places ∈ hd ∨ ∃ k x, k < rest.length ∧ places.getD k none = some x ∧ 0 < rest.getD k 0 ∧ leastOf hd rest places = x := by
  rcases List.mem_append.mp (minL_spec _ ne).1 with z | z
  · exact .inl z
  · obtain ⟨k, hk, e⟩ := List.mem_map.mp z
    obtain ⟨h1, h2⟩ := List.mem_filter.mp hk
    rw [Bool.and_eq_true] at h2
    obtain ⟨x, hx⟩ := Option.isSome_iff_exists.mp h2.1
    have := idxL_in h1
    refine .inr ⟨k.toNat, x, by omega, hx, of_decide_eq_true h2.2, ?_⟩
    rw [hx] at e
    exact e.symm
def wsum : (Nat → Bool) → List Int → Int
  | _, [] => 0
  | J, x :: xs => (if J 0 then x else 0) + wsum (fun i => J (i + 1)) xs
theorem wsum_set : ∀ (J : Nat → Bool) (l : List Int) (a : Nat) (x : Int), a < l.length → wsum J (l.set a x) = wsum J l + (if J a then x - l.getD a 0 else 0)
  | J, [], a, x, h => absurd h (Nat.not_lt_zero _)
  | J, y :: l, 0, x, h => by
    show (if J 0 then x else 0) + wsum _ l = (if J 0 then y else 0) + wsum _ l + (if J 0 then x - y else 0)
    split <;> omega
  | J, y :: l, a + 1, x, h => by
    have ih := wsum_set (fun i => J (i + 1)) l a x (by simpa using h)
    show (if J 0 then y else 0) + wsum _ (l.set a x) = (if J 0 then y else 0) + wsum _ l + (if J (a + 1) then x - l.getD a 0 else 0)
    rw [ih]
    omega
theorem wsum_nn : ∀ (J : Nat → Bool) (l : List Int), (∀ x ∈ l, 0 ≤ x) → 0 ≤ wsum J l
  | J, [], _ => Int.le_refl _
  | J, y :: l, h => by
    have := wsum_nn (fun i => J (i + 1)) l fun x hx => h x (List.mem_cons_of_mem _ hx)
    have := h y List.mem_cons_self
    show 0 ≤ (if J 0 then y else 0) + wsum _ l
    split <;> omega
theorem wsum_le : ∀ (J : Nat → Bool) (l : List Int), (∀ x ∈ l, 0 ≤ x) → wsum J l ≤ l.sum
  | J, [], _ => Int.le_refl _
  | J, y :: l, h => by
    have := wsum_le (fun i => J (i + 1)) l fun x hx => h x (List.mem_cons_of_mem _ hx)
    have := h y List.mem_cons_self
    rw [List.sum_cons]
    show (if J 0 then y else 0) + wsum _ l ≤ _
    split <;> omega
theorem wsum_all : ∀ (l : List Int), wsum (fun _ => true) l = l.sum
  | [] => rfl
  | y :: l => by
    rw [List.sum_cons, ← wsum_all l]
    rfl
theorem wsum_map {g : Int → Int} {p : Int → Bool} : ∀ (os : List Int), wsum (fun i => p (os.getD i 0)) (os.map g) = ((os.filter p).map g).sum
  | [] => rfl
  | x :: os => by
    have ih := wsum_map (g := g) (p := p) os
    show (if p x then g x else 0) + wsum (fun i => p (os.getD i 0)) (os.map g) = _
    rw [ih]
    by_cases q : p x = true
    · rw [if_pos q, List.filter_cons_of_pos q, List.map_cons, List.sum_cons]
    · rw [if_neg q, List.filter_cons_of_neg q]; omega
theorem getD_set {α : Type} {l : List α} {a b : Nat} {x d : α} (h : a < l.length) : (l.set a x).getD b d = if a = b then x else l.getD b d := by
  rw [List.getD_eq_getElem?_getD, List.getD_eq_getElem?_getD]
  by_cases q : a = b
  · subst q
    rw [List.getElem?_set_self h, if_pos rfl]; rfl
  · rw [List.getElem?_set_ne q, if_neg q]
theorem getD_mem {l : List Int} {a : Nat} (h : a < l.length) : l.getD a 0 ∈ l := by
  rw [List.getD_eq_getElem?_getD, List.getElem?_eq_getElem h]
  exact List.getElem_mem h
theorem getD_map {α β : Type} {g : α → β} {l : List α} {a : Nat} {d : β} {e : α} (h : a < l.length) : (l.map g).getD a d = g (l.getD a e) := by
  rw [List.getD_eq_getElem?_getD, List.getD_eq_getElem?_getD, List.getElem?_map, List.getElem?_eq_getElem h]
  rfl
theorem next_some {c here : Int} {hd : List Int} {s s' : FState} {a : Nat} (e : nextAt c here hd s a = some s') : 0 < s.1.getD a 0 ∧ here + 1 - leastOf hd s.1 (s.2.set a (some ((s.2.getD a none).getD here))) ≤ c ∧ s' = (s.1.set a (s.1.getD a 0 - 1), s.2.set a (some ((s.2.getD a none).getD here))) := by
  unfold nextAt at e
  by_cases q : 0 < s.1.getD a 0
  · rw [if_pos q] at e
    split at e
    · rename_i w
      exact ⟨q, w, (Option.some.inj e).symm⟩
    · cases e
  · rw [if_neg q] at e; cases e
/-- places once known stay -/
theorem next_keep {c here : Int} {hd : List Int} {s s' : FState} {a : Nat} (ha : a < s.2.length) (e : nextAt c here hd s a = some s') {b : Nat} {x : Int} (hx : s.2.getD b none = some x) : s'.2.getD b none = some x := by
  obtain ⟨_, _, e3⟩ := next_some e
  subst e3
  show (s.2.set a (some ((s.2.getD a none).getD here))).getD b none = some x
  rw [getD_set ha]
  by_cases q : a = b
  · subst q; rw [if_pos rfl, hx]; rfl
  · rw [if_neg q]; exact hx
theorem reach_sum {c h : Int} {hd : List Int} {st0 s : FState} {n : Nat} {f : Int} (J : Nat → Bool) (s0 : Shape n st0.1.sum st0) (HL : ∀ (s : FState) a, Shape n st0.1.sum s → (∀ b x, st0.2.getD b none = some x → s.2.getD b none = some x) → a < n → J a = true → 0 < s.1.getD a 0 → ∀ here, leastOf hd s.1 (s.2.set a (some ((s.2.getD a none).getD here))) ≤ f)
    (r : Reach c h st0.1.sum hd st0 s) : Shape n st0.1.sum s ∧ (∀ b x, st0.2.getD b none = some x → s.2.getD b none = some x) ∧ wsum J st0.1 - wsum J s.1 ≤ st0.1.sum - s.1.sum ∧ (0 < wsum J st0.1 → wsum J s.1 = 0 → h + wsum J st0.1 - f ≤ c) := by
  induction r with
  | here => exact ⟨s0, fun b x e => e, by omega, fun h1 h2 => by omega⟩
  | @step s s' a r ha e ih =>
    obtain ⟨i1, i2, i3, i4⟩ := ih
    have ha' : a < n := by rw [← i1.l1]; exact ha
    obtain ⟨q1, q2, q3⟩ := next_shape i1 ha' e
    obtain ⟨e1, e2, e3⟩ := next_some e
    have k2 : ∀ b x, st0.2.getD b none = some x → s'.2.getD b none = some x := fun b x hb => next_keep (by rw [i1.l2]; exact ha') e (i2 b x hb)
    have hw : wsum J s'.1 = wsum J s.1 + (if J a then -1 else 0) := by
      rw [e3]
      show wsum J (s.1.set a (s.1.getD a 0 - 1)) = _
      rw [wsum_set J s.1 a _ ha]
      split <;> omega
    refine ⟨q1, k2, ?_, fun h1 h2 => ?_⟩
    · rw [hw]
      split <;> omega
    · by_cases hj : J a = true
      · rw [if_pos hj] at hw
        have hl := HL s a i1 i2 ha' hj e1 (h + st0.1.sum - s.1.sum)
        omega
      · rw [if_neg hj] at hw
        exact i4 h1 (by omega)
theorem reach_one {c h : Int} {hd : List Int} {st0 s : FState} {n a : Nat} (s0 : Shape n st0.1.sum st0) (ha : a < n) (hn : st0.2.getD a none = none)
    (r : Reach c h st0.1.sum hd st0 s) : Shape n st0.1.sum s ∧ (s.2.getD a none = none → s.1.getD a 0 = st0.1.getD a 0) ∧ (∀ p, s.2.getD a none = some p → st0.1.getD a 0 - s.1.getD a 0 ≤ h + st0.1.sum - s.1.sum - p) ∧ (0 < st0.1.getD a 0 → s.1.getD a 0 = 0 → st0.1.getD a 0 ≤ c) := by
  induction r with
  | here => exact ⟨s0, fun _ => rfl, fun p e => (by rw [hn] at e; cases e), fun h1 h2 => by omega⟩
  | @step s s' b r hb e ih =>
    obtain ⟨i1, i2, i3, i4⟩ := ih
    have hb' : b < n := by rw [← i1.l1]; exact hb
    obtain ⟨q1, q2, q3⟩ := next_shape i1 hb' e
    obtain ⟨e1, e2, e3⟩ := next_some e
    have f1 : s'.1.getD a 0 = if b = a then s.1.getD b 0 - 1 else s.1.getD a 0 := by rw [e3]; exact getD_set hb
    have f2 : s'.2.getD a none = if b = a then some ((s.2.getD b none).getD (h + st0.1.sum - s.1.sum)) else s.2.getD a none := by rw [e3]; exact getD_set (by rw [i1.l2]; exact hb')
    by_cases q : b = a
    · subst q
      rw [if_pos rfl] at f1 f2
      have hp : st0.1.getD b 0 - s.1.getD b 0 ≤ h + st0.1.sum - s.1.sum - (s.2.getD b none).getD (h + st0.1.sum - s.1.sum) := by
        cases z : s.2.getD b none with
        | none =>
          have := i2 z
          show _ ≤ _ - (h + st0.1.sum - s.1.sum)
          omega
        | some p => exact i3 p z
      have hl : leastOf hd s.1 (s.2.set b (some ((s.2.getD b none).getD (h + st0.1.sum - s.1.sum)))) ≤ (s.2.getD b none).getD (h + st0.1.sum - s.1.sum) :=
        least_place (k := b) hb (by rw [getD_set (by rw [i1.l2]; exact hb'), if_pos rfl]) e1
      refine ⟨q1, fun z => (by rw [f2] at z; cases z), fun p z => ?_, fun h1 h2 => ?_⟩
      · rw [f2] at z
        have z := Option.some.inj z
        omega
      · omega
    · rw [if_neg q] at f1 f2
      refine ⟨q1, fun z => (by rw [f2] at z; rw [f1]; exact i2 z), fun p z => ?_, fun h1 h2 => i4 h1 (by omega)⟩
      rw [f2] at z
      have := i3 p z
      omega
section
variable {c h : Int} {ds : List Deed} {l : List Int}
theorem nz_rest {s : FState} {n : Nat} {S : Int} (q : Shape n S s) (e : s.1.sum = 0) {a : Nat} (ha : a < n) : s.1.getD a 0 = 0 := by
  have h1 := wsum_le (fun i => decide (i = a)) s.1 q.pos
  have ha : a < s.1.length := by rw [q.l1]; exact ha
  have h2 : s.1.getD a 0 ≤ s.1.sum := by
    have : ∀ (xs : List Int) (a : Nat), (∀ x ∈ xs, 0 ≤ x) → a < xs.length → xs.getD a 0 ≤ xs.sum := by
      intro xs
      induction xs with
      | nil => intro a _ h; exact absurd h (Nat.not_lt_zero _)
      | cons y xs ih =>
        intro a hp h
        have hy := hp y List.mem_cons_self
        cases a with
        | zero =>
          have := sum_pos xs fun x hx => hp x (List.mem_cons_of_mem _ hx)
          rw [List.sum_cons]
          show y ≤ _
          omega
        | succ a =>
          have := ih a (fun x hx => hp x (List.mem_cons_of_mem _ hx)) (by simpa using h)
          rw [List.sum_cons]
          show xs.getD a 0 ≤ _
          omega
    exact this s.1 a q.pos ha
  have h3 := q.pos _ (getD_mem ha)
  omega
theorem flood_only (K : Fk c h ds) (lo : LotOk l ds.length) (hp : ∀ d ∈ ds, 0 ≤ d.2) (c1 : 0 ≤ c) (fl : FloodP c h ds l) : AllOk c h ds l := by
  obtain ⟨s, r, e0⟩ := fl
  intro j v j0 j1 e
  have s0 : Shape (othersL ds l).length (begin0 ds l).1.sum (begin0 ds l) := begin_shape hp
  have hW : (begin0 ds l).1.sum = sumN ds (othersL ds l) := rfl
  unfold doubtS at e
  by_cases q : (heldL ds l).head? = some j
  · rw [if_pos q] at e
    have e := Option.some.inj e
    obtain ⟨hk, ⟨f, ef⟩, _⟩ := held_some lo q
    rw [ef] at e
    have e : h - f + sumN ds (othersL ds l) = v := e
    have hb := K.bd j f ef
    have hf : f ∈ heldV ds l := List.mem_map.mpr ⟨j, List.mem_filter.mpr ⟨hk, by rw [ef]; rfl⟩, by rw [ef]; rfl⟩
    obtain ⟨_, _, _, g⟩ := reach_sum (f := f) (fun _ => true) s0 (fun s a _ _ _ _ _ here => least_held hf) r
    rw [wsum_all, wsum_all] at g
    have hnn := sum_nn K.nd (othersL ds l)
    by_cases z : 0 < sumN ds (othersL ds l)
    · have := g (by rw [hW]; exact z) e0
      rw [hW] at this
      omega
    · omega
  · rw [if_neg q] at e
    by_cases q2 : j ∈ l ∨ behindS ds l j = true
    · rw [if_pos q2] at e; cases e
    · rw [if_neg q2] at e
      have e := Option.some.inj e
      have hj : j ∈ othersL ds l := others_mem j0 j1 fun z => q2 (.inl z)
      obtain ⟨a, ea⟩ := List.getElem?_of_mem hj
      have ha : a < (othersL ds l).length := (List.getElem?_eq_some_iff.mp ea).1
      have eg : (othersL ds l).getD a 0 = j := by rw [List.getD_eq_getElem?_getD, ea]; rfl
      cases ef : fstAt ds j with
      | none =>
        have ev : frontS h ds l j = needAt ds j := by unfold frontS; rw [ef]
        rw [ev] at e
        have g1 : (begin0 ds l).1.getD a 0 = needAt ds j := by
          show ((othersL ds l).map (needAt ds)).getD a 0 = _
          rw [getD_map (e := 0) ha, eg]
        have g2 : (begin0 ds l).2.getD a none = none := by
          show ((othersL ds l).map (fstAt ds)).getD a none = _
          rw [getD_map (e := 0) ha, eg, ef]
        obtain ⟨q3, _, _, g⟩ := reach_one s0 ha g2 r
        rw [g1] at g
        have := K.nd j
        by_cases z : 0 < needAt ds j
        · have := g z (nz_rest q3 e0 ha)
          omega
        · omega
      | some f =>
        have ev : frontS h ds l j = h - f + sumN ds ((othersL ds l).filter fun i => decide (i ≤ j)) := by unfold frontS; rw [ef]
        rw [ev] at e
        have hb := K.bd j f ef
        have hws : wsum (fun i => decide ((othersL ds l).getD i 0 ≤ j)) (begin0 ds l).1 = sumN ds ((othersL ds l).filter fun i => decide (i ≤ j)) := wsum_map (g := needAt ds) (p := fun i => decide (i ≤ j)) (othersL ds l)
        obtain ⟨q3, _, _, g⟩ := reach_sum (f := f) (fun i => decide ((othersL ds l).getD i 0 ≤ j)) s0 (fun s b hs hk hb2 hJ hr here => by
          have hJ := of_decide_eq_true hJ
          have hm : (othersL ds l).getD b 0 ∈ othersL ds l := getD_mem hb2
          have h0 := (others_in hm).1
          have hx : ∃ x, fstAt ds ((othersL ds l).getD b 0) = some x ∧ x ≤ f := by
            by_cases z : (othersL ds l).getD b 0 = j
            · exact ⟨f, by rw [z]; exact ef, Int.le_refl _⟩
            · obtain ⟨x, e1, e2⟩ := K.ord _ j f h0 (by omega) ef
              exact ⟨x, e1, by omega⟩
          obtain ⟨x, e1, e2⟩ := hx
          have e3 : s.2.getD b none = some x := hk b x (by
            show ((othersL ds l).map (fstAt ds)).getD b none = _
            rw [getD_map (e := 0) hb2, e1])
          refine Int.le_trans (least_place (k := b) (x := x) (by rw [hs.l1]; exact hb2) ?_ hr) e2
          rw [getD_set (by rw [hs.l2]; exact hb2), if_pos rfl, e3]
          rfl) r
        rw [hws] at g
        have hz : wsum (fun i => decide ((othersL ds l).getD i 0 ≤ j)) s.1 = 0 := by
          have a1 := wsum_nn (fun i => decide ((othersL ds l).getD i 0 ≤ j)) s.1 q3.pos
          have a2 := wsum_le (fun i => decide ((othersL ds l).getD i 0 ≤ j)) s.1 q3.pos
          omega
        have hnn := sum_nn K.nd ((othersL ds l).filter fun i => decide (i ≤ j))
        by_cases z : 0 < sumN ds ((othersL ds l).filter fun i => decide (i ≤ j))
        · have := g z hz
          omega
        · omega
/-! ### and back: who writes in order -/
structure FAt (h : Int) (ds : List Deed) (l : List Int) (m : Nat) (w : Int) (s : FState) : Prop where
  l1 : s.1.length = (othersL ds l).length
  l2 : s.2.length = (othersL ds l).length
  z : ∀ a, a < m → s.1.getD a 0 = 0
  r : ∀ a, m < a → a < (othersL ds l).length → s.1.getD a 0 = needAt ds ((othersL ds l).getD a 0)
  rm : m < (othersL ds l).length → s.1.getD m 0 = needAt ds ((othersL ds l).getD m 0) - w
  p : ∀ a, m < a → a < (othersL ds l).length → s.2.getD a none = fstAt ds ((othersL ds l).getD a 0)
  pm : m < (othersL ds l).length → s.2.getD m none = fstAt ds ((othersL ds l).getD m 0) ∨ ∃ p, s.2.getD m none = some p ∧ h + sumN ds ((othersL ds l).take m) ≤ p
  sm : s.1.sum = sumN ds (othersL ds l) - sumN ds ((othersL ds l).take m) - w
theorem take_end (K : Fk c h ds) {m : Nat} (hm : m < (othersL ds l).length) : h + sumN ds ((othersL ds l).take m) + needAt ds ((othersL ds l).getD m 0) ≤ endAt h ds l ((othersL ds l).getD m 0) := by
  have hg : (othersL ds l)[m]? = some ((othersL ds l).getD m 0) := by rw [List.getD_eq_getElem?_getD, List.getElem?_eq_getElem hm]; rfl
  have e : sumN ds ((othersL ds l).take (m + 1)) = sumN ds ((othersL ds l).take m) + needAt ds ((othersL ds l).getD m 0) := by
    rw [take_succ hg, sum_app]
    show _ + (_ + 0) = _
    omega
  have ef : ((othersL ds l).take (m + 1)).filter (fun i => decide (i ≤ (othersL ds l).getD m 0)) = (othersL ds l).take (m + 1) := by
    rw [List.filter_eq_self]
    intro a ha
    rw [decide_eq_true_eq]
    rw [take_succ hg] at ha
    rcases List.mem_append.mp ha with z | z
    · have hp : ((othersL ds l).take (m + 1)).Pairwise (· < ·) := (others_sorted ds l).sublist (List.take_sublist _ _)
      rw [take_succ hg] at hp
      exact Int.le_of_lt ((List.pairwise_append.mp hp).2.2 a z _ (List.mem_singleton.mpr rfl))
    · rw [List.mem_singleton.mp z]; exact Int.le_refl _
  have hs : sumN ds ((othersL ds l).take (m + 1)) ≤ sumN ds ((othersL ds l).filter fun i => decide (i ≤ (othersL ds l).getD m 0)) := by
    rw [← ef]
    exact sum_sub K.nd ((List.take_sublist (m + 1) (othersL ds l)).filter _)
  unfold endAt
  omega
theorem os_le {a b : Nat} (hab : a ≤ b) (hb : b < (othersL ds l).length) : (othersL ds l).getD a 0 ≤ (othersL ds l).getD b 0 := by
  by_cases q : a = b
  · subst q; exact Int.le_refl _
  · have hp := List.pairwise_iff_getElem.mp (others_sorted ds l) a b (by omega) hb (by omega)
    rw [List.getD_eq_getElem?_getD, List.getD_eq_getElem?_getD, List.getElem?_eq_getElem (by omega), List.getElem?_eq_getElem hb]
    exact Int.le_of_lt hp
theorem flood_step (K : Fk c h ds) (lo : LotOk l ds.length) (c1 : 1 ≤ c) (ok : AllOk c h ds l) {m : Nat} {w : Int} {s : FState} (hm : m < (othersL ds l).length) (hw : 0 ≤ w) (hwn : w < needAt ds ((othersL ds l).getD m 0)) (I : FAt h ds l m w s) :
    ∃ s', nextAt c (h + sumN ds (othersL ds l) - s.1.sum) (heldV ds l) s m = some s' ∧ FAt h ds l m (w + 1) s' := by
  have hj := getD_mem hm
  obtain ⟨ra, rb⟩ := room_at K lo ok hj
  have hE := take_end K hm
  have hhere : h + sumN ds (othersL ds l) - s.1.sum = h + sumN ds ((othersL ds l).take m) + w := by rw [I.sm]; omega
  have hm1 : m < s.1.length := by rw [I.l1]; exact hm
  have hm2 : m < s.2.length := by rw [I.l2]; exact hm
  have hpos : 0 < s.1.getD m 0 := by rw [I.rm hm]; omega
  generalize hH : h + sumN ds (othersL ds l) - s.1.sum = here
  rw [hH] at hhere
  have hpl : ∀ b, (s.2.set m (some ((s.2.getD m none).getD here))).getD b none = if m = b then some ((s.2.getD m none).getD here) else s.2.getD b none := fun b => getD_set hm2
  have hroom : here + 1 - leastOf (heldV ds l) s.1 (s.2.set m (some ((s.2.getD m none).getD here))) ≤ c := by
    rcases least_from (hd := heldV ds l) (rest := s.1) (places := s.2.set m (some ((s.2.getD m none).getD here))) (fun z => by
      rw [List.append_eq_nil_iff] at z
      have hmem : (m : Int) ∈ (idxL s.1.length).filter fun k => ((s.2.set m (some ((s.2.getD m none).getD here))).getD k.toNat none).isSome && decide (0 < s.1.getD k.toNat 0) := by
        refine List.mem_filter.mpr ⟨List.mem_map.mpr ⟨m, List.mem_range.mpr hm1, rfl⟩, ?_⟩
        rw [show ((m : Int)).toNat = m from rfl, hpl, if_pos rfl, decide_eq_true hpos]
        rfl
      rw [List.map_eq_nil_iff.mp z.2] at hmem
      cases hmem) with q | ⟨k, x, hk, hx, hr, e⟩
    · obtain ⟨i, hi, e⟩ := List.mem_map.mp q
      obtain ⟨h1, h2⟩ := List.mem_filter.mp hi
      obtain ⟨x, hx⟩ := Option.isSome_iff_exists.mp h2
      rw [hx] at e
      have e : x = leastOf _ _ _ := e
      rw [← e]
      have := ra i x (lo.2 i h1).1 (.inl h1) hx
      omega
    · rw [e]
      rw [hpl] at hx
      by_cases z : m = k
      · rw [if_pos z] at hx
        have hx := Option.some.inj hx
        rcases I.pm hm with y | ⟨p, y, hp⟩
        · rw [y] at hx
          cases f : fstAt ds ((othersL ds l).getD m 0) with
          | none =>
            rw [f] at hx
            have hx : here = x := hx
            omega
          | some f0 =>
            rw [f] at hx
            have hx : f0 = x := hx
            have := ra _ f0 (others_in hj).1 (.inr (Int.le_refl _)) f
            omega
        · rw [y] at hx
          have hx : p = x := hx
          omega
      · rw [if_neg z] at hx
        have hk' : k < (othersL ds l).length := by rw [← I.l1]; exact hk
        have hmk : m < k := by
          apply Classical.byContradiction
          intro q
          have := I.z k (by omega)
          omega
        rw [I.p k hmk hk'] at hx
        have := ra _ x (others_in (getD_mem hk')).1 (.inr (os_le (Nat.le_of_lt hmk) hk')) hx
        omega
  refine ⟨(s.1.set m (s.1.getD m 0 - 1), s.2.set m (some ((s.2.getD m none).getD here))), by unfold nextAt; rw [if_pos hpos, if_pos hroom], ?_⟩
  have hr : ∀ b, (s.1.set m (s.1.getD m 0 - 1)).getD b 0 = if m = b then s.1.getD m 0 - 1 else s.1.getD b 0 := fun b => getD_set hm1
  refine ⟨by show (s.1.set _ _).length = _; rw [List.length_set]; exact I.l1, by show (s.2.set _ _).length = _; rw [List.length_set]; exact I.l2, fun a ha => ?_, fun a ha hb => ?_, fun _ => ?_, fun a ha hb => ?_, fun _ => ?_, ?_⟩
  · show (s.1.set m (s.1.getD m 0 - 1)).getD a 0 = 0
    rw [hr, if_neg (by omega)]; exact I.z a ha
  · show (s.1.set m (s.1.getD m 0 - 1)).getD a 0 = _
    rw [hr, if_neg (by omega)]; exact I.r a ha hb
  · show (s.1.set m (s.1.getD m 0 - 1)).getD m 0 = _
    rw [hr, if_pos rfl, I.rm hm]; omega
  · show (s.2.set m _).getD a none = _
    rw [hpl, if_neg (by omega)]; exact I.p a ha hb
  · show (s.2.set m _).getD m none = _ ∨ ∃ p, (s.2.set m _).getD m none = some p ∧ _
    rw [hpl, if_pos rfl]
    rcases I.pm hm with y | ⟨p, y, hp⟩
    · rw [y]
      cases f : fstAt ds ((othersL ds l).getD m 0) with
      | none => exact .inr ⟨here, rfl, by omega⟩
      | some f0 => exact .inl rfl
    · rw [y]; exact .inr ⟨p, rfl, hp⟩
  · show (s.1.set m (s.1.getD m 0 - 1)).sum = _
    rw [sum_set hm1, I.sm]; omega
theorem flood_run (K : Fk c h ds) (lo : LotOk l ds.length) (c1 : 1 ≤ c) (ok : AllOk c h ds l) {m : Nat} (hm : m < (othersL ds l).length) : ∀ (k : Nat) (w : Int) (s : FState), 0 ≤ w → w + k = needAt ds ((othersL ds l).getD m 0) → FAt h ds l m w s → Reach c h (begin0 ds l).1.sum (heldV ds l) (begin0 ds l) s →
    ∃ s', FAt h ds l m (needAt ds ((othersL ds l).getD m 0)) s' ∧ Reach c h (begin0 ds l).1.sum (heldV ds l) (begin0 ds l) s'
  | 0, w, s, hw, e, I, r => ⟨s, by rw [← e]; simpa using I, r⟩
  | k + 1, w, s, hw, e, I, r => by
    obtain ⟨s', e1, I'⟩ := flood_step K lo c1 ok hm hw (by omega) I
    exact flood_run K lo c1 ok hm k (w + 1) s' (by omega) (by omega) I' (Reach.step r (by rw [I.l1]; exact hm) e1)
theorem flood_all (K : Fk c h ds) (lo : LotOk l ds.length) (c1 : 1 ≤ c) (ok : AllOk c h ds l) : ∀ (k m : Nat) (s : FState), m + k = (othersL ds l).length → FAt h ds l m 0 s → Reach c h (begin0 ds l).1.sum (heldV ds l) (begin0 ds l) s →
    ∃ s', FAt h ds l (othersL ds l).length 0 s' ∧ Reach c h (begin0 ds l).1.sum (heldV ds l) (begin0 ds l) s'
  | 0, m, s, e, I, r => by
    have e : m = (othersL ds l).length := by omega
    subst e
    exact ⟨s, I, r⟩
  | k + 1, m, s, e, I, r => by
    have hm : m < (othersL ds l).length := by omega
    have hnn := K.nd ((othersL ds l).getD m 0)
    obtain ⟨s', I', r'⟩ := flood_run K lo c1 ok hm (needAt ds ((othersL ds l).getD m 0)).toNat 0 s (Int.le_refl _) (by omega) I r
    have hg : (othersL ds l)[m]? = some ((othersL ds l).getD m 0) := by rw [List.getD_eq_getElem?_getD, List.getElem?_eq_getElem hm]; rfl
    refine flood_all K lo c1 ok k (m + 1) s' (by omega) ⟨I'.l1, I'.l2, fun a ha => ?_, fun a ha hb => I'.r a (by omega) hb, fun hb => ?_, fun a ha hb => I'.p a (by omega) hb, fun hb => .inl (I'.p (m + 1) (by omega) hb), ?_⟩ r'
    · by_cases q : a = m
      · subst q
        have := I'.rm hm
        omega
      · exact I'.z a (by omega)
    · have := I'.r (m + 1) (by omega) hb
      omega
    · rw [I'.sm, take_succ hg, sum_app]
      show _ = _ - (_ + (_ + 0)) - 0
      omega
theorem flood_if (K : Fk c h ds) (lo : LotOk l ds.length) (c1 : 1 ≤ c) (ok : AllOk c h ds l) : FloodP c h ds l := by
  have g1 : ∀ a, a < (othersL ds l).length → (begin0 ds l).1.getD a 0 = needAt ds ((othersL ds l).getD a 0) := fun a ha => getD_map (e := 0) ha
  have g2 : ∀ a, a < (othersL ds l).length → (begin0 ds l).2.getD a none = fstAt ds ((othersL ds l).getD a 0) := fun a ha => getD_map (e := 0) ha
  obtain ⟨s', I, r⟩ := flood_all K lo c1 ok (othersL ds l).length 0 (begin0 ds l) (Nat.zero_add _) ⟨List.length_map _, List.length_map _, fun a ha => absurd ha (Nat.not_lt_zero _), fun a _ hb => g1 a hb, fun hb => by rw [g1 0 hb]; omega, fun a _ hb => g2 a hb, fun hb => .inl (g2 0 hb), by
    show sumN ds (othersL ds l) = sumN ds (othersL ds l) - 0 - 0
    omega⟩ .here
  refine ⟨s', r, ?_⟩
  rw [I.sm, List.take_length]
  omega
open Classical in
theorem flood_iff (K : Fk c h ds) (lo : LotOk l ds.length) (hp : ∀ d ∈ ds, 0 ≤ d.2) (c1 : 1 ≤ c) : floodB c h ds l = decide (AllOk c h ds l) := by
  by_cases ok : AllOk c h ds l
  · rw [floodB_true (flood_if K lo c1 ok), decide_eq_true ok]
  · rw [floodB_false fun q => ok (flood_only K lo hp (by omega) q), decide_eq_false ok]
end
end K33

-- part P4
set_option Elab.async false
set_option maxRecDepth 100000
set_option maxHeartbeats 4000000
set_option linter.all false
namespace K33
open PySem PySem.Spec PyProof.Rows L2 Fw
theorem loadsA_get {h : Int} : ∀ (ds : List Deed) (tot : Int) (j : Nat) (d : Deed), ds[j]? = some d → (d.1.isSome = true → ∀ i, i < j → ∃ x m, ds[i]? = some ((some x, m) : Deed)) → (loadsA h tot ds)[j]? = some (match d.1 with | none => d.2 | some f => h - f + (tot + ((ds.take (j + 1)).map (·.2)).sum))
  | [], tot, j, d, e, _ => by simp at e
  | (none, n0) :: r, tot, 0, d, e, _ => by
    have e : (none, n0) = d := by simpa using e
    subst e; rfl
  | (some f, n0) :: r, tot, 0, d, e, _ => by
    have e : (some f, n0) = d := by simpa using e
    subst e
    show some (h - f + (tot + n0)) = some (h - f + (tot + (n0 + 0)))
    rw [Int.add_zero]
  | (none, n0) :: r, tot, j + 1, d, e, k => by
    have ih := loadsA_get (h := h) r tot j d (by simpa using e) fun q i hi => by
      obtain ⟨x, m, z⟩ := k q 0 (by omega)
      simp at z
    show (loadsA h tot r)[j]? = _
    rw [ih]
    cases q : d.1 with
    | none => rfl
    | some f =>
      obtain ⟨x, m, z⟩ := k (by rw [q]; rfl) 0 (by omega)
      simp at z
  | (some f0, n0) :: r, tot, j + 1, d, e, k => by
    have ih := loadsA_get (h := h) r (tot + n0) j d (by simpa using e) fun q i hi => by
      obtain ⟨x, m, z⟩ := k q (i + 1) (by omega)
      exact ⟨x, m, by simpa using z⟩
    show (loadsA h (tot + n0) r)[j]? = _
    rw [ih]
    cases q : d.1 with
    | none => rfl
    | some f =>
      show some (h - f + (tot + n0 + ((r.take (j + 1)).map (·.2)).sum)) = some (h - f + (tot + (n0 + ((r.take (j + 1)).map (·.2)).sum)))
      congr 1
      omega
section
variable {c h : Int} {ds : List Deed} {l : List Int}
theorem sum_front {k : Nat} (hk : k ≤ ds.length) : sumN ds (idxL k) = ((ds.take k).map (·.2)).sum := by
  unfold sumN
  congr 1
  apply List.ext_getElem?
  intro i
  rw [List.getElem?_map, List.getElem?_map, List.getElem?_take]
  unfold idxL
  rw [List.getElem?_map]
  by_cases q : i < k
  · rw [List.getElem?_range q, if_pos q, List.getElem?_eq_getElem (by omega)]
    show some (needAt ds ((i : Nat) : Int)) = some (ds[i]).2
    unfold needAt
    rw [show ((i : Nat) : Int).toNat = i from rfl, List.getElem?_eq_getElem (by omega)]
    rfl
  · rw [if_neg q, List.getElem?_eq_none (by rw [List.length_range]; omega)]
    rfl
theorem idx_front {n j : Nat} (hj : j < n) : (idxL n).filter (fun i => decide (i ≤ (j : Int))) = idxL (j + 1) := by
  unfold idxL
  rw [List.filter_map]
  have e : (List.range n).filter ((fun i : Int => decide (i ≤ (j : Int))) ∘ fun i : Nat => (i : Int)) = List.range (j + 1) := by
    have e1 : (List.range n).filter ((fun i : Int => decide (i ≤ (j : Int))) ∘ fun i : Nat => (i : Int)) = (List.range n).filter (fun i => decide (i < j + 1)) := by
      apply List.filter_congr
      intro a _
      show decide ((a : Int) ≤ (j : Int)) = decide (a < j + 1)
      rw [Bool.eq_iff_iff, decide_eq_true_eq, decide_eq_true_eq]
      omega
    rw [e1]
    have e2 : n = (j + 1) + (n - (j + 1)) := by omega
    rw [e2, List.range_add, List.filter_append, List.filter_eq_self.mpr fun a ha => decide_eq_true (List.mem_range.mp ha), List.filter_eq_nil_iff.mpr, List.append_nil]
    intro a ha
    obtain ⟨b, _, e3⟩ := List.mem_map.mp ha
    rw [decide_eq_true_eq]
    omega
  rw [e]
theorem others_nil (ds : List Deed) : othersL ds [] = idxL ds.length := by
  unfold othersL
  rw [List.filter_eq_self]
  intro a _
  rfl
theorem doubt_nil {j : Nat} (K : Fk c h ds) (hj : j < ds.length) : (loadsA h 0 ds)[j]? = doubtS h ds [] (j : Int) := by
  have hd : doubtS h ds [] (j : Int) = some (frontS h ds [] (j : Int)) := by
    unfold doubtS
    rw [if_neg (show ¬ (heldL ds []).head? = some (j : Int) from nofun), if_neg]
    rintro (z | z)
    · cases z
    · cases z
  have e : ds[j]? = some ds[j] := List.getElem?_eq_getElem hj
  have ef : fstAt ds (j : Int) = (ds[j]).1 := by unfold fstAt; rw [show ((j : Nat) : Int).toNat = j from rfl, e]; rfl
  have en : needAt ds (j : Int) = (ds[j]).2 := by unfold needAt; rw [show ((j : Nat) : Int).toNat = j from rfl, e]; rfl
  rw [hd, loadsA_get ds 0 j ds[j] e fun q i hi => ?_]
  · unfold frontS
    rw [ef]
    cases z : (ds[j]).1 with
    | none => rw [en]
    | some f =>
      show some (h - f + (0 + ((ds.take (j + 1)).map (·.2)).sum)) = some (h - f + sumN ds ((othersL ds []).filter fun i => decide (i ≤ (j : Int))))
      rw [others_nil, idx_front hj, sum_front (by omega), Int.zero_add]
  · obtain ⟨y, hy⟩ := Option.isSome_iff_exists.mp q
    obtain ⟨x, hx, _⟩ := K.ord (i : Int) (j : Int) y (by omega) (by omega) (by rw [ef, hy])
    obtain ⟨m, hm⟩ := fst_some hx
    exact ⟨x, m, hm⟩
open Classical in
theorem easy_iff (K : Fk c h ds) : easyB c h ds = decide (AllOk c h ds []) := by
  unfold easyB
  rw [Bool.eq_iff_iff, decide_eq_true_eq, decide_eq_true_eq]
  constructor
  · intro q j v j0 j1 e
    have hj : j.toNat < ds.length := by omega
    have := doubt_nil K hj
    rw [Int.toNat_of_nonneg j0, e] at this
    exact q v (List.mem_of_getElem? this)
  · intro q x hx
    obtain ⟨j, e⟩ := List.getElem?_of_mem hx
    have hj : j < ds.length := by
      have := (List.getElem?_eq_some_iff.mp e).1
      rwa [loadsA_len] at this
    rw [doubt_nil K hj] at e
    exact q j x (by omega) (by omega) e
theorem sums_doubt (lo : LotOk l ds.length) {p : Int × Int} (hp : p ∈ sumsS h ds l) : 0 ≤ p.1 ∧ p.1 < ds.length ∧ doubtS h ds l p.1 = some p.2 := by
  rw [sumsS_eq] at hp
  rcases List.mem_append.mp hp with z | z
  · obtain ⟨i, hi, e⟩ := List.mem_map.mp z
    obtain ⟨h1, h2⟩ := List.mem_filter.mp hi
    obtain ⟨i0, i1, i2⟩ := others_in h1
    subst e
    refine ⟨i0, i1, ?_⟩
    show doubtS h ds l i = some (frontS h ds l i)
    unfold doubtS
    unfold aheadS at h2
    cases q : (heldL ds l).head? with
    | none =>
      rw [if_neg nofun, if_neg]
      rintro (w | w)
      · exact i2 w
      · unfold behindS at w; rw [q] at w; cases w
    | some k =>
      rw [q] at h2
      have h2 : i < k := of_decide_eq_true h2
      rw [if_neg (fun w => by have := Option.some.inj w; omega), if_neg]
      rintro (w | w)
      · exact i2 w
      · unfold behindS at w; rw [q] at w
        have := of_decide_eq_true w
        omega
  · unfold tailS at z
    cases q : (heldL ds l).head? with
    | none => rw [q] at z; cases z
    | some k =>
      rw [q] at z
      have z := List.mem_singleton.mp z
      subst z
      obtain ⟨hk, _, _⟩ := held_some lo q
      refine ⟨(lo.2 k hk).1, (lo.2 k hk).2, ?_⟩
      unfold doubtS
      rw [if_pos q]
open Classical in
theorem max_iff (lo : LotOk l ds.length) (c0 : 0 ≤ c) : decide (maxL (0 :: (sumsS h ds l).map (·.2)) ≤ c) = decide (AllOk c h ds l) := by
  rw [Bool.eq_iff_iff, decide_eq_true_eq, decide_eq_true_eq]
  obtain ⟨m1, m2⟩ := maxL_spec (0 :: (sumsS h ds l).map (·.2)) (List.cons_ne_nil _ _)
  constructor
  · intro q j v j0 j1 e
    have := getI_mem ((sums_get j0 j1).trans e)
    have := m2 v (List.mem_cons_of_mem _ (List.mem_map.mpr ⟨_, this, rfl⟩))
    omega
  · intro q
    rcases List.mem_cons.mp m1 with z | z
    · rw [z]; exact c0
    · obtain ⟨p, hp, e⟩ := List.mem_map.mp z
      obtain ⟨p0, p1, p2⟩ := sums_doubt lo hp
      have := q p.1 p.2 p0 p1 p2
      omega
theorem doubt_le (K : Fk c h ds) (h0 : 0 ≤ h) {j v : Int} (j0 : 0 ≤ j) (j1 : j < ds.length) (e : doubtS h ds l j = some v) : v ≤ h + sumN ds (othersL ds l) := by
  unfold doubtS at e
  by_cases q : (heldL ds l).head? = some j
  · rw [if_pos q] at e
    have e := Option.some.inj e
    have : 0 ≤ (fstAt ds j).getD 0 := by
      cases z : fstAt ds j with
      | none => exact Int.le_refl _
      | some f => exact (K.bd j f z).1
    omega
  · rw [if_neg q] at e
    by_cases q2 : j ∈ l ∨ behindS ds l j = true
    · rw [if_pos q2] at e; cases e
    · rw [if_neg q2] at e
      have e := Option.some.inj e
      have hj : j ∈ othersL ds l := others_mem j0 j1 fun z => q2 (.inl z)
      unfold frontS at e
      cases z : fstAt ds j with
      | none =>
        rw [z] at e
        have e : needAt ds j = v := e
        have := sum_mem K.nd hj
        omega
      | some f =>
        rw [z] at e
        have e : h - f + sumN ds ((othersL ds l).filter fun i => decide (i ≤ j)) = v := e
        have := (K.bd j f z).1
        have := sum_sub K.nd (List.filter_sublist (p := fun i => decide (i ≤ j)) (l := othersL ds l))
        omega
theorem sumN_le {B : Int} (hB : ∀ i, needAt ds i ≤ B) : ∀ (is : List Int), sumN ds is ≤ B * is.length
  | [] => by show (0 : Int) ≤ B * ((0 : Nat) : Int); simp
  | i :: is => by
    have := sumN_le hB is
    have := hB i
    have e : B * (((i :: is).length : Nat) : Int) = B * (is.length : Nat) + B := by rw [List.length_cons, Int.natCast_succ, Int.mul_add, Int.mul_one]
    show needAt ds i + sumN ds is ≤ _
    omega
theorem need_le {B : Int} (b0 : 0 ≤ B) (hn : ∀ d ∈ ds, 0 ≤ d.2 ∧ d.2 ≤ B) (i : Int) : needAt ds i ≤ B := by
  unfold needAt
  cases e : ds[i.toNat]? with
  | none => exact b0
  | some d => exact (hn d (List.mem_of_getElem? e)).2
theorem doubt_bd {B : Int} (K : Fk c h ds) (h0 : 0 ≤ h) (h1 : h ≤ 100) (b0 : 0 ≤ B) (hn : ∀ d ∈ ds, 0 ≤ d.2 ∧ d.2 ≤ B) (hl : ds.length ≤ 8) {j v : Int} (j0 : 0 ≤ j) (j1 : j < ds.length) (e : doubtS h ds l j = some v) : v ≤ 100 + B * 8 := by
  have a1 := doubt_le K h0 j0 j1 e
  have a2 := sumN_le (need_le b0 hn) (othersL ds l)
  have a3 := others_len ds l
  have a4 : B * ((othersL ds l).length : Int) ≤ B * 8 := Int.mul_le_mul_of_nonneg_left (by omega) b0
  omega
theorem bnd60 (K : Fk c h ds) (h0 : 0 ≤ h) (h1 : h ≤ 100) (c0 : 0 ≤ c) (hn : ∀ d ∈ ds, 0 ≤ d.2 ∧ d.2 ≤ 10 ^ 20) (hl : ds.length ≤ 8) : Bnd60 c h ds l :=
  ⟨c0, fun j n j0 j1 e => Int.le_trans (doubt_bd K h0 h1 (by decide) hn hl j0 j1 e) (by decide)⟩
/-! ### what is told, as a thing -/
def stepsT (l : List Int) (d : Deed) (j : Int) : List Stp := if j ∈ l then [] else (if 0 < d.2 then [.wr j d.2] else []) ++ [.go j]
def flatT (l : List Int) (zs : List (Deed × Nat)) : List Stp := zs.flatMap fun p => stepsT l p.1 p.2
theorem stepsT_enc (l : List Int) (d : Deed) (j : Int) : stepsAt l d j = (stepsT l d j).map encSt := by
  unfold stepsAt stepsT
  split
  · rfl
  · split <;> rfl
theorem flatT_enc (l : List Int) : ∀ zs, flatS l zs = (flatT l zs).map encSt
  | [] => rfl
  | (d, j) :: r => by
    show stepsAt l d j ++ flatS l r = (stepsT l d j ++ flatT l r).map encSt
    rw [List.map_append, ← stepsT_enc, ← flatT_enc l r]
theorem stepsT_len (l : List Int) (d : Deed) (j : Int) : (stepsT l d j).length ≤ 2 := by
  have := stepsAt_len l d j
  rw [stepsT_enc, List.length_map] at this
  exact this
theorem flatT_len (l : List Int) : ∀ zs, (flatT l zs).length ≤ 2 * zs.length
  | [] => Nat.le_refl _
  | (d, j) :: r => by
    have := stepsT_len l d j
    have := flatT_len l r
    show (stepsT l d j ++ flatT l r).length ≤ 2 * (r.length + 1)
    rw [List.length_append]
    omega
theorem flatT_bd {M : Int} (l : List Int) : ∀ zs, (∀ p ∈ zs, ((p.2 : Nat) : Int) ≤ M ∧ 0 ≤ p.1.2 ∧ p.1.2 ≤ M) → ∀ s ∈ flatT l zs, BdS M s
  | [], _, s, hs => nomatch hs
  | (d, j) :: r, hz, s, hs => by
    rcases List.mem_append.mp (show s ∈ stepsT l d j ++ flatT l r from hs) with z | z
    · obtain ⟨a1, a2, a3⟩ := hz (d, j) List.mem_cons_self
      have a1 : ((j : Nat) : Int) ≤ M := a1
      have a2 : 0 ≤ d.2 := a2
      have a3 : d.2 ≤ M := a3
      unfold stepsT at z
      split at z
      · cases z
      · rcases List.mem_append.mp z with w | w
        · split at w
          · rw [List.mem_singleton.mp w]
            exact ⟨⟨by omega, a1⟩, by omega, a3⟩
          · cases w
        · rw [List.mem_singleton.mp w]
          exact ⟨by omega, a1⟩
    · exact flatT_bd l r (fun p hp => hz p (List.mem_cons_of_mem _ hp)) s z
theorem stepOk_enc : ∀ s : Stp, StepOk (encSt s)
  | .wr j n => fun a r e => by cases e; exact ⟨_, rfl⟩
  | .go j => fun a r e => by cases e; exact ⟨_, rfl⟩
  | .go1 => fun a r e => by cases e; exact ⟨_, rfl⟩
  | .non => fun a r e => nomatch e
  | .lgo => fun a r e => nomatch e
theorem coOk_enc {M : Int} {L : Nat} {x : Itm} (hL : L < 2 ^ 20) (b : BdI M L x) : CoOk (encI x) := by
  intro ss e
  cases x with
  | st xs =>
    have e : xs.map encSt = ss := by cases e; rfl
    subst e
    refine ⟨fun s hs => ?_, by rw [List.length_map]; exact Nat.lt_of_le_of_lt b.1 hL⟩
    obtain ⟨s', _, e⟩ := List.mem_map.mp hs
    rw [← e]
    exact stepOk_enc s'
  | _ => cases e
theorem thOk_enc {M : Int} {L : Nat} {g : Tg} (hL : L < 2 ^ 20) (b : BdT M L g) : ThOk (encT g) := by
  intro a y r e
  cases g with
  | tu s is =>
    cases is with
    | nil => cases e
    | cons x is =>
      have e : PyData.tuple (.str (nmT s) :: encI x :: is.map encI) = .tuple (a :: y :: r) := e
      cases e
      exact coOk_enc hL (b.2.1 x List.mem_cons_self)
  | dp =>
    have e : deep30 = .tuple (a :: y :: r) := e
    rw [deep30_eq] at e
    cases e
  | _ => cases e
open Classical in
theorem told_enc {B : Int} (K : Fk c h ds) (c1 : 1 ≤ c) (h0 : 0 ≤ h) (h1 : h ≤ 100) (b0 : 0 ≤ B) (hn : ∀ d ∈ ds, 0 ≤ d.2 ∧ d.2 ≤ B) (hl : ds.length ≤ 8) : ∃ x : List Itm, doubtfulD c h ds l = encT (.tu (decide (AllOk c h ds l)) x) ∧ BdT (200 + B * 8) 16 (.tu (decide (AllOk c h ds l)) x) := by
  by_cases ok : AllOk c h ds l
  · rw [decide_eq_true ok]
    refine ⟨[.st (flatT l ds.zipIdx)], ?_, by show 1 ≤ 4; decide, fun x hx => ?_, nofun⟩
    · rw [told_ok ok, flatT_enc, enc_c]; rfl
    · rw [List.mem_singleton.mp hx]
      refine ⟨?_, flatT_bd l _ fun p hp => ?_⟩
      · have := flatT_len l ds.zipIdx
        rw [List.length_zipIdx] at this
        omega
      · obtain ⟨i, hi⟩ := List.getElem?_of_mem hp
        obtain ⟨e1, e2⟩ := zip_at hi
        have := (List.getElem?_eq_some_iff.mp e2).1
        have q := hn p.1 (List.mem_of_getElem? e2)
        refine ⟨by omega, q.1, by omega⟩
  · rw [decide_eq_false ok]
    obtain ⟨j, v, hj, e, hv, ee⟩ := told_no ok
    refine ⟨[.i j, .i v], by rw [ee, enc_e]; rfl, by show 2 ≤ 4; decide, fun x hx => ?_, by simp⟩
    have := doubt_bd K h0 h1 b0 hn hl (by omega) (by omega) e
    rcases List.mem_cons.mp hx with z | z
    · rw [z]; exact ⟨by omega, by omega⟩
    · rw [List.mem_singleton.mp z]; exact ⟨by omega, by omega⟩
end
end K33

-- part FwFor
set_option Elab.async false
set_option maxRecDepth 100000
set_option maxHeartbeats 4000000
set_option linter.all false
namespace Fw
open PySem PySem.Spec PyProof.Rows L2
section
variable {A : Type} {X : Cx} {e tg it : Expr} {body : List Stmt} {t : Ty} {R : Po} {pos p2 : Pos} {g : TG} {enc : A → PyData} {bs : A → List (Nat × PyData)} {Q : List A → Prop}
/-- a walk over one of many lists -/
def ItM (X : Cx) (tg it : Expr) (t : Ty) (enc : A → PyData) (Q : List A → Prop) : Prop := ∃ wi, PI X tg it wi ∧ ∀ (N : En) (sg : St) (F H : Hp) (R : It → Hp → Prop), StO N F H sg t → (∀ J F1 H1 ds, Q ds → StO N F1 H1 sg t → Same F F1 → WkD J F1 (ds.map enc) → R J H1) → wi sg H R
theorem itm_lst (h : PM X e t (fun r => ∃ ds : List A, r = .d (.list (ds.map enc)) ∧ Q ds)) : ItM X tg e t enc Q := ⟨_, pi_list (pe_of X e), fun N sg F H R S k => h N sg F H _ S fun v F1 H1 r1 S1 s1 d1 ⟨ds, hr1, hq⟩ => by
  subst hr1
  cases d1 with
  | lst g a => exact ⟨_, rfl, ⟨_, SqL.of (S1.fh _ _ g)⟩, k _ F1 H1 ds hq S1 s1 (wk_lst g a)⟩⟩
theorem sd_forM (Pv : List A → Nat → Ty → Prop) (hp : PassesOwn (model X.prog X.w) X.A X.env X.xe) (hc : X.calm = true) (hi : ItM X tg it t enc Q) (hg : PG X tg g) (ht : ∀ d, TgS g (enc d) (bs d)) (h0 : ∀ ds, Q ds → Pv ds 0 t)
    (hs : ∀ ds, Q ds → ∀ (i : Nat) d u, ds[i]? = some d → Pv ds i u → SDs X body (setsT u (bs d)) { R with nx := Pv ds (i + 1), ct := Pv ds (i + 1), bk := R.nx }) (hd : ∀ ds, Q ds → ∀ u, Pv ds ds.length u → R.nx u) (hf : ∀ x, foldedSetIterable it X.env x = pure x := by intro _; rfl) : SD X (.For tg it body [] pos) t R := fun N sg F H D S q => by
  obtain ⟨wi, hpi, hw⟩ := hi
  refine use_s (ps_for hp hc hpi hg (pb_of X body) hf) (hw N sg F H _ S fun J F1 H1 ds hq S1 s1 W => ?_)
  refine ⟨fun i m sg' H' => m = ds.length - i ∧ i ≤ ds.length ∧ ∃ F' u, StO N F' H' sg' u ∧ Same F1 F' ∧ Pv ds i u, ⟨_, rfl, Nat.zero_le _, F1, t, S1, Same.refl F1, h0 ds hq⟩, ?_⟩
  rintro i m sg2 H2 ⟨rfl, hil, F2, u, S2, s2, p2⟩
  by_cases hlt : i < ds.length
  · refine .inr ⟨W.go i H2 (by rw [List.length_map]; exact hlt) (s2.trans S2.fh), fun sg' H' => i + 1 ≤ ds.length ∧ ∃ F' u', StO N F' H' sg' u' ∧ Same F1 F' ∧ Pv ds (i + 1) u', fun sg' H' p' => ⟨ds.length - (i + 1), by omega, rfl, p'.1, p'.2⟩, fun x H3 y => ?_⟩
    obtain ⟨F3, d0, g3, hd0, dq3⟩ := W.yld i H2 x H3 (by rw [List.length_map]; exact hlt) (s2.trans S2.fh) y F2 s2 S2.fh
    obtain ⟨d, hd3, ed3⟩ : ∃ d, ds[i]? = some d ∧ enc d = d0 := by
      rw [List.getElem?_map] at hd0
      cases q : ds[i]? with
      | none => rw [q] at hd0; cases hd0
      | some d => rw [q] at hd0; exact ⟨d, rfl, Option.some.inj hd0⟩
    subst ed3
    have S3 := S2.grow g3
    have s3 : Same F1 F3 := s2.trans g3.ff
    refine ht d F3 H3 x sg2 _ S3.fh dq3 fun qs hb => ?_
    have S4 := S3.sets hb
    have base := S4.base
    refine hs ds hq i d u hd3 p2 _ _ F3 H3 _ base ⟨fun sg5 F5 H5 t5 S5 n5 => ⟨hlt, F5, t5, S4.back S5, s3.trans S5.f0, n5⟩, fun v F5 H5 sg5 t5 r S5 dr hr => q.rt v F5 H5 sg5 t5 r (S4.back S5) dr hr, fun sg5 F5 H5 t5 S5 n5 => q.nx sg5 F5 H5 t5 (S4.back S5) n5, fun sg5 F5 H5 t5 S5 n5 => ⟨hlt, F5, t5, S4.back S5, s3.trans S5.f0, n5⟩⟩
  · have ei : i = ds.length := by omega
    subst ei
    exact .inl ⟨by have q := W.stop H2 (s2.trans S2.fh); rw [List.length_map] at q; exact q, q.nx sg2 F2 H2 u S2 (hd ds hq u p2)⟩
/-- a slice of one of many lists -/
theorem pm_slL {lo hi : Option Expr} {l u : Option Int} {W : List PyData → Prop} (he : PM X e t (fun r => ∃ ds, r = .d (.list ds) ∧ W ds)) (hl : PDO X lo t l) (hu : PDO X hi t u) : PM X (.Subscript e (.Slice lo hi none p2) pos) t (fun r => ∃ ds, r = .d (.list (Fw.cutD ds l u)) ∧ W ds) := fun N sg F H Q S q => by
  obtain ⟨tl, pl, wl⟩ := hl
  obtain ⟨tu, pu, wu⟩ := hu
  refine use_e (pe_slice sl_list (pe_of X e) pl pu) (he N sg F H _ S fun v F1 H1 r1 S1 s1 d1 ⟨ds, hr1, hw⟩ => wl N sg F1 H1 _ S1 fun F2 H2 S2 s2 => wu N sg F2 H2 _ S2 fun F3 H3 S3 s3 => ?_)
  subst hr1
  cases d1 with
  | @lst a xs _ g h =>
    have g3 := S3.fh _ _ ((s2.trans s3) _ _ g)
    have h3 := h.up (s2.trans s3)
    refine ⟨a, xs, rfl, SqL.of g3, fun p hp => ?_⟩
    have sn := same_new (o := .lst (cutV xs l u)) (S3.fh.free hp)
    exact q _ _ _ (.d _) (S3.grow (Gr.new S3.fh hp)) (((s1.trans s2).trans s3).trans sn) (.lst upd_same ((cut_dq h3).up sn)) ⟨ds, rfl, hw⟩
end
end Fw

-- part T24
set_option Elab.async false
set_option maxRecDepth 100000
set_option maxHeartbeats 4000000
set_option linter.all false
namespace K33
open PySem PySem.Spec PyProof.Rows L2 Fw
open Classical in
noncomputable def okB (c h : Int) (ds : List Deed) (l : List Int) : Bool := decide (AllOk c h ds l)
section
variable {c h : Int} {ds : List Deed} {l : List Int}
theorem ok_max (lo : LotOk l ds.length) (c0 : 0 ≤ c) : decide (maxL (0 :: (sumsS h ds l).map (·.2)) ≤ c) = okB c h ds l := max_iff lo c0
theorem ok_flood (K : Fk c h ds) (lo : LotOk l ds.length) (hp : ∀ d ∈ ds, 0 ≤ d.2) (c1 : 0 ≤ c) (c2 : 1 ≤ c) : floodB c h ds l = okB c h ds l := flood_iff K lo hp c2
theorem ok_easy (K : Fk c h ds) : easyB c h ds = okB c h ds [] := easy_iff K
theorem ok_told {B : Int} (K : Fk c h ds) (c1 : 1 ≤ c) (h0 : 0 ≤ h) (h1 : h ≤ 100) (b0 : 0 ≤ B) (hn : ∀ d ∈ ds, 0 ≤ d.2 ∧ d.2 ≤ B) (hl : ds.length ≤ 8) : ∃ x : List Itm, doubtfulD c h ds l = encT (.tu (okB c h ds l) x) ∧ BdT (200 + B * 8) 16 (.tu (okB c h ds l) x) := told_enc K c1 h0 h1 b0 hn hl
end
theorem sums_len (h : Int) (ds : List Deed) (l : List Int) : (sumsS h ds l).length ≤ ds.length + 1 := by
  rw [sumsS_eq, List.length_append]
  have a := sumsA_len (h := h) (ds := ds) (l := l) (is := othersL ds l)
  have b := others_len ds l
  have e : (tailS h ds l).length ≤ 1 := by
    unfold tailS
    cases (heldL ds l).head? with
    | none => exact Nat.zero_le _
    | some k => exact Nat.le_refl _
  omega
section
variable {P : Program} {w : World} {K : PySem.W.Frag} {mg : Str → Option Value} {base : Heap}
abbrev s_lgreat : Stmt := top 49
abbrev n_lgreat1 : List Str := ["_law_parts", "_law_standing_here", "_law_lot", "_law_told", "_law_due"]
theorem sc_lgreat : FnScope ("_law_hand_here" :: n_lgreat1) ["_law_hand_here"] (defScope s_lgreat) := ⟨rfl, rfl, rfl, by decide +kernel, rfl, by decide +kernel, by decide +kernel⟩
/-- parts drawn -/
def PartsR (most need : Int) (r : Dt) : Prop := ∃ (c h : Int) (ds : List Deed), r = .d (partsD c h ds) ∧ (ds.length : Int) ≤ most ∧ (∀ d ∈ ds, 0 ≤ d.2 ∧ d.2 ≤ need) ∧ StOk c h ds ∧ h ≤ 100
theorem at_two (b : Bool) : atI [PyData.str sExcess, PyData.str sCourse] (if b then 1 else 0) = some (.str (nmT b)) := by cases b <;> rfl
theorem c_lgreat {C : Addr} (F : HasFn K mg "_law_great_right" s_lgreat ["_law_hand_here"]) (B : Bt mg) (T : StC K mg C) (Cstd : Cal P w K mg base "_law_standing" 2 ["_law_hand_here", "_law_most", "_law_need"] (spH 3 pre_std phi_std)) (Clots : Cal P w K mg base "_law_lots" 3 ["_law_hand_here", "_law_many"] (spH 2 pre_lots phi_lots))
    (Mst : MakC P w K mg base "Standing" C 6 ["self", "cells", "head", "deeds"] (spI C 3 ph_standing)) (Cdf : Cal P w K mg base "doubtful" 5 ["standing", "lot"] (spP 2 (ph_doubtful C))) (Cisd : Cal P w K mg base "is_doubtful" 5 ["standing", "lot", "thing"] (spP 3 (ph_is_doubtful C)))
    (Cld : Cal P w K mg base "_law_is_doubtful" 3 ["_law_parts", "_law_lot", "_law_thing"] (spP 3 ph_ldoubtful)) (Cls : Cal P w K mg base "_law_sums" 1 ["_law_parts", "_law_lot"] (spP 2 fun rs r => ∃ ks, r = .dk ks ∧ ph_lsums rs ks)) :
    Cal P w K mg base "_law_great_right" 8 ["_law_hand_here"] (spH 1 (fun rs => rs = []) (fun _ r => r = .d (.bool true))) := by
  refine cal_hand F sc_lgreat rfl fun f cdv A outer s H E hr rs hh hl e1 => ?_
  subst e1
  refine sd_cons (sd_asg (Re := PartsR 8 (10 ^ 20)) 1 sc_lgreat.nd rfl (.inl rfl) (pm_calH (h := hh) 0 Cstd (hr.mono (by decide)) rfl (ac pd_int (ac (bn pd_int pd_int (bd_pow 10 20 ⟨by decide, by decide, by decide⟩)) pma_nil)) (fun rs e => by
    subst e
    refine ⟨rfl, ⟨8, 10 ^ 20, rfl, by decide, by decide, by decide, by decide⟩, ?_⟩
    rintro r ⟨most, need, c, h, ds, e1, e2, e3⟩
    cases e1
    exact ⟨c, h, ds, e2, e3⟩)) ?_)
  rintro r ⟨c, h, ds, rfl, hlen, hnd, sok, h100⟩
  have K1 := fk_of sok
  obtain ⟨c1, c2, h0, h2, hl200, hvf, hro⟩ := id sok
  have hl8 : ds.length ≤ 8 := by omega
  have hp : ∀ d ∈ ds, 0 ≤ d.2 := fun d hd => (hnd d hd).1
  refine sd_cons (sd_asg (Re := fun r => r = stD C c h ds) 2 sc_lgreat.nd rfl (.inl rfl) (pm_mak Mst hr (acS (ix (x := .tuple [.int c, .int h, dsD ds]) (vr 1 rfl) pd_int (id_tup (d := .int c) rfl)) (acS (ix (x := .tuple [.int c, .int h, dsD ds]) (vr 1 rfl) pd_int (id_tup (d := .int h) rfl)) (acS (ix (x := .tuple [.int c, .int h, dsD ds]) (vr 1 rfl) pd_int (id_tup (d := dsD ds) rfl)) pma_nil))) rfl ⟨c, h, ds, rfl, sok, rfl⟩) ?_)
  rintro r rfl
  refine sd_cons (sd_forM (A := List Int) (enc := lotD) (bs := fun l => [(3, lotD l)]) (Q := fun lots => ∀ l ∈ lots, LotOk l ds.length) (fun _ _ t => ∃ u3 u4 u5, t = [.hand hh, .v (.d (partsD c h ds)), .v (stD C c h ds), u3, u4, u5]) PassesOwn.never rfl (itm_lst (PM.mono (pm_slL (W := fun xs => ∃ lots : List (List Int), xs = lots.map lotD ∧ ∀ l ∈ lots, LotOk l ds.length) (pm_calH (h := hh) 0 Clots (hr.mono (by decide)) rfl (ac (lenT (ds := ds.map encD) B.len (ix (x := .tuple [.int c, .int h, dsD ds]) (vr 1 rfl) pd_int (id_tup (d := dsD ds) rfl))) pma_nil) (fun rs e => by
    subst e
    rw [List.length_map]
    refine ⟨rfl, ⟨ds.length, rfl, hl8⟩, ?_⟩
    rintro r ⟨many, lots, e1, e2, e3, e4⟩
    have e1 : (ds.length : Int) = many := by cases e1; rfl
    exact ⟨_, e2, lots, rfl, fun l hl => by have := e3 l hl; rwa [← e1] at this⟩)) pdo_none (pdo_some pd_int)) (fun r ⟨xs, e, lots, e2, e3⟩ => by
      subst e2
      rw [show ((4 : Int)) = ((4 : Nat) : Int) from rfl, cut_to] at e
      exact ⟨_, e, fun l hl => e3 l (List.mem_of_mem_take hl)⟩))) (pg_name (i := 3) sc_lgreat.nd rfl (.inl rfl)) (fun _ => tg_name) (fun _ _ => ⟨_, _, _, rfl⟩) ?_ ?_)
  · rintro lots hq i l u hi ⟨u3, u4, u5, rfl⟩
    have lo : LotOk l ds.length := hq l (List.mem_of_getElem? hi)
    obtain ⟨x, ex, bx⟩ := ok_told (l := l) K1 c1 h0 h100 (B := 10 ^ 20) (by decide) hnd hl8
    have hj : judgeP c h ds l (encT (.tu (okB c h ds l) x)) = true := by rw [← ex]; exact told_judged K1 lo
    have hth : ThOk (encT (.tu (okB c h ds l) x)) := thOk_enc (by decide) bx
    refine sd_cons (sd_asg (Re := fun r => r = .d (encT (.tu (okB c h ds l) x))) 4 sc_lgreat.nd rfl (.inl rfl) (pd_cal Cdf (hr.mono (by decide)) (ac (vr (r := stD C c h ds) 2 rfl) (ac (vr (r := .d (lotD l)) 3 rfl) pma_nil)) rfl ⟨c, h, ds, l, rfl, hl200, hp, lo, by rw [ex]⟩) ?_)
    rintro r rfl
    refine sd_cons (sd_asg (Re := fun r => r = .d (.bool (okB c h ds l))) 5 sc_lgreat.nd rfl (.inl rfl) (PD.as (cp (x := .int (maxL (0 :: (sumsS h ds l).map (·.2)))) (y := .int c) (pd_callB (x := "max") (id := "max") (by rfl) B.max (by decide +kernel) (acB (PD.as (x := .list ((0 :: (sumsS h ds l).map (·.2)).map PyData.int)) (bn (x := .list [.int 0]) (y := .list (((sumsS h ds l).map (·.2)).map PyData.int)) (pd_lst (ds := [.int 0]) (acC pd_int pma_nil) (by show 1 ≤ sizeLine; decide)) (PD.as (pd_listVals (ks := kdI (sumsS h ds l)) (pk_of (pm_cal Cls (hr.mono (by decide)) (ac (vr (r := .d (partsD c h ds)) 1 rfl) (ac (vr (r := .d (lotD l)) 3 rfl) pma_nil)) (fun rs e => by subst e; exact ⟨rfl, _, ⟨_, rfl, c, h, ds, l, rfl, hl200, lo, rfl⟩, rfl⟩))) B.list) (by rw [kd_snd])) (bd_catL _ _ ?_)) (by rfl)) pma_nil) (ll_max (by rfl) _ (List.cons_ne_nil _ _))) (ix (x := .tuple [.int c, .int h, dsD ds]) (vr 1 rfl) pd_int (id_tup (d := .int c) rfl)) (cd_le _ _)) (by rw [ok_max lo (by omega)])) ?_)
    · rw [List.length_map, List.length_map]
      exact Nat.le_trans (Nat.add_le_add_left (sums_len h ds l) 1) (Nat.le_trans (show 1 + (ds.length + 1) ≤ 10 by omega) (by decide))
    rintro r rfl
    refine sd_cons (sd_if (P := fun b => b = false) (PWD.tst (pwd_or (P := fun b => b = false) (P' := fun b => b = false) (PMT.mono (ct (ix (x := .tuple (.str (nmT (okB c h ds l)) :: x.map encI)) (vr 4 rfl) pd_int (id_tup (d := .str (nmT (okB c h ds l))) (at_0 _ _))) (ix (pd_lst (ds := [.str sExcess, .str sCourse]) (acC pd_str (acC pd_str pma_nil)) (by show 2 ≤ sizeLine; decide)) (iIB B.int (vr (r := .d (.bool (okB c h ds l))) 5 rfl)) (id_lst (d := .str (nmT (okB c h ds l))) (at_two _))) (cd_neS _ _)) fun b hb => by rw [hb, beq_self_eq_true]; rfl) (fun q => by cases q) fun _ => pwd_or1 (PMT.mono (pdt_not (PD.tst (pd_cal (z := .bool (judgeP c h ds l (encT (.tu (okB c h ds l) x)))) Cld (hr.mono (by decide)) (ac (vr (r := .d (partsD c h ds)) 1 rfl) (ac (vr (r := .d (lotD l)) 3 rfl) (ac (vr (r := .d (encT (.tu (okB c h ds l) x))) 4 rfl) pma_nil))) rfl ⟨c, h, ds, l, _, rfl, hl200, lo, hth, fits0 K1, bnd60 K1 h0 h100 (by omega) hnd hl8, rfl⟩))) fun b hb => by rw [hb, hj]; rfl))) (fun q => by cases q) fun _ => sd_nil ?_)
    refine sd_one (sd_if (P := fun b => b = false) (PMT.mono (ct (pd_cal (z := .bool (judgeP c h ds l (encT (.tu (okB c h ds l) x)))) Cisd (hr.mono (by decide)) (ac (vr (r := stD C c h ds) 2 rfl) (ac (vr (r := .d (lotD l)) 3 rfl) (ac (vr (r := .d (encT (.tu (okB c h ds l) x))) 4 rfl) pma_nil))) rfl ⟨c, h, ds, l, _, rfl, hl200, lo, hth, rfl⟩) pd_bl (cd_notB _ _)) fun b hb => by rw [hb, hj]; rfl) (fun q => by cases q) fun _ => sd_nil ?_)
    exact ⟨_, _, _, rfl⟩
  · rintro lots hq u ⟨u3, u4, u5, rfl⟩
    refine sd_one (sd_ret pd_bl ?_)
    rintro r rfl
    exact ⟨.inl rfl, rfl⟩
end
end K33

-- part FwRepr
set_option Elab.async false
set_option maxRecDepth 100000
set_option maxHeartbeats 4000000
set_option linter.all false
namespace Fw
open PySem PySem.Spec PyProof.Rows L2
section
variable {X : Cx}
theorem ll_repr {d : PyData} (hg : X.A.guards = some []) (hu : X.A.units + (d.depth + 1) < cLine) (hs : d.showable = true) (hd : d = .dict [] ∨ d.hasDict = false) (hsz : d.shown.length ≤ sizeLine) : CallD X (.builtin "repr") [.d d] (.str d.shown) := fun F H vs Q e h k => by
  cases h with
  | @cons v _ _ _ h1 h2 =>
    cases h2
    have h1 : Dq F v d := h1
    unfold crOf
    intro pins s sg us I r
    obtain ⟨u, rfl, ru⟩ := vals1 r
    have fin : ∀ (h' : Heap) (t : Tok) (tk : Nat), (∀ b o, s.heap.get? b = some o → h'.get? b = some o) → EP X pins sg Q (.str d.shown t) { s with heap := h', toks := tk } := fun h' t tk hk => ⟨.str d.shown, H, I.kept (t' := tk) hk, ⟨t, rfl⟩, k _ F H (Gr.refl e) (.str _)⟩
    rcases hd with rfl | hd
    · cases h1 with
      | @dct a ha =>
        cases ru
        obtain ⟨hz, lo, vs', kv, hdo⟩ := dk_of I.hok (e _ _ ha)
        cases kv
        obtain ⟨o, es, ep, g1, g2, g3, g4, g5, g6⟩ := hdo
        have he : es.toList = [] := by
          cases q : es.toList with
          | nil => rfl
          | cons a b => rw [q] at g5; cases g5
        refine repr_of_reads' (Reads.dict g1 g2.1 g3 (kvs := []) (by rw [he]; exact .nil) (by rw [he]; exact .nil)) hs (fun _ z => ?_) hg hu (fun _ _ q => q) (fun h' u tk hk => fin h' u tk hk) hsz
        rw [List.append_nil] at z
        have z := List.mem_singleton.mp z
        rw [← z] at lo
        exact absurd lo (by simp)
    · have dp := Dq.dp (K := X.K) e d v hd h1
      obtain ⟨as, rd⟩ := Dp.reads I d v u dp ru
      cases d with
      | none =>
        cases h1; cases ru
        exact PySem.P.repr_of_none (fin s.heap _ _ fun _ _ q => q)
      | bool b =>
        cases h1; cases ru
        refine PySem.P.repr_of_bool ?_
        have q := fin s.heap s.toks (s.toks + 1) fun _ _ q => q
        cases b <;> exact q
      | int i =>
        cases h1; obtain ⟨t, rfl⟩ := ru
        exact PySem.P.repr_of_int (of_decide_eq_true hs) (fin s.heap _ _ fun _ _ q => q)
      | str x =>
        cases h1; obtain ⟨t, rfl⟩ := ru
        exact PySem.P.repr_of_str (fin s.heap _ _ fun _ _ q => q) hsz
      | list ds =>
        cases h1; cases ru
        exact repr_of_reads' rd hs (fun q => by rw [hd] at q; cases q) hg hu (fun _ _ q => q) (fun h' u tk hk => fin h' u tk hk) hsz
      | tuple ds =>
        cases h1; cases ru
        exact repr_of_reads' rd hs (fun q => by rw [hd] at q; cases q) hg hu (fun _ _ q => q) (fun h' u tk hk => fin h' u tk hk) hsz
      | dict kvs => cases hd
end
end Fw

-- part T25a
set_option Elab.async false
set_option maxRecDepth 100000
set_option maxHeartbeats 4000000
set_option linter.all false
namespace K33
open PySem PySem.Spec PyProof.Rows L2 Fw
/-! ### things that may be shown -/
structure Nice (B D : Nat) (d : PyData) : Prop where
  s : d.showable = true
  l : d.leavesShort 13 = true
  n : d.hasDict = false
  b : d.bulk ≤ B
  d : d.depth ≤ D
structure NiceA (B D : Nat) (ds : List PyData) : Prop where
  s : PyData.showableAll ds = true
  l : PyData.leavesShortAll 13 ds = true
  n : PyData.hasDictAll ds = false
  b : PyData.bulkAll ds ≤ B
  d : PyData.depthAll ds ≤ D
theorem Nice.mono {B D B' D' : Nat} {d : PyData} (h : Nice B D d) (hb : B ≤ B') (hd : D ≤ D') : Nice B' D' d := ⟨h.s, h.l, h.n, Nat.le_trans h.b hb, Nat.le_trans h.d hd⟩
theorem NiceA.nil {D : Nat} : NiceA 0 D [] := ⟨by simp only [PyData.showableAll], by simp only [PyData.leavesShortAll], by simp only [PyData.hasDictAll], by simp only [PyData.bulkAll]; exact Nat.le_refl _, by simp only [PyData.depthAll]; exact Nat.zero_le _⟩
theorem NiceA.cons {B C D : Nat} {d : PyData} {ds : List PyData} (h : Nice B D d) (k : NiceA C D ds) : NiceA (B + 1 + C) D (d :: ds) :=
  ⟨by simp only [PyData.showableAll, h.s, k.s]; rfl, by simp only [PyData.leavesShortAll, h.l, k.l]; rfl, by simp only [PyData.hasDictAll, h.n, k.n]; rfl, by simp only [PyData.bulkAll]; have := h.b; have := k.b; omega, by simp only [PyData.depthAll]; exact Nat.max_le.mpr ⟨h.d, k.d⟩⟩
theorem NiceA.tup {B D : Nat} {ds : List PyData} (h : NiceA B D ds) : Nice B (D + 1) (.tuple ds) :=
  ⟨by simp only [PyData.showable]; exact h.s, by simp only [PyData.leavesShort]; exact h.l, by simp only [PyData.hasDict]; exact h.n, by simp only [PyData.bulk]; exact h.b, by simp only [PyData.depth]; have := h.d; omega⟩
theorem NiceA.lst {B D : Nat} {ds : List PyData} (h : NiceA B D ds) : Nice B (D + 1) (.list ds) :=
  ⟨by simp only [PyData.showable]; exact h.s, by simp only [PyData.leavesShort]; exact h.l, by simp only [PyData.hasDict]; exact h.n, by simp only [PyData.bulk]; exact h.b, by simp only [PyData.depth]; have := h.d; omega⟩
theorem NiceA.map {α : Type} {f : α → PyData} {B D : Nat} : ∀ {xs : List α}, (∀ x ∈ xs, Nice B D (f x)) → NiceA ((B + 1) * xs.length) D (xs.map f)
  | [], _ => NiceA.nil
  | x :: xs, h => by
    have q := NiceA.cons (h x List.mem_cons_self) (NiceA.map (xs := xs) fun y hy => h y (List.mem_cons_of_mem _ hy))
    have e : B + 1 + (B + 1) * xs.length = (B + 1) * (x :: xs).length := by rw [List.length_cons, Nat.mul_add, Nat.mul_one]; omega
    rw [e] at q
    exact q
theorem nice_int {M i : Int} (hM : M < 10 ^ 12) (h0 : -M ≤ i) (h1 : i ≤ M) : Nice 0 0 (.int i) := by
  have ha : i.natAbs < 10 ^ 12 := by omega
  refine ⟨?_, ?_, by simp only [PyData.hasDict], by simp only [PyData.bulk]; exact Nat.le_refl _, by simp only [PyData.depth]; exact Nat.le_refl _⟩
  · simp only [PyData.showable]
    rw [decide_eq_true_eq]
    by_cases q : i.natAbs = 0
    · rw [q]; decide
    · have h2 : i.natAbs < 2 ^ 100 := Nat.lt_trans ha (by decide)
      have := (Nat.log2_lt q).mpr h2
      omega
  · simp only [PyData.leavesShort]
    refine decide_eq_true ?_
    simp only [PyData.shown]
    have e := int_text_length_le10 (k := 12) (by decide) ha
    rw [PySem.ofString_length]
    exact e
theorem nice_bool (b : Bool) : Nice 0 0 (.bool b) := ⟨by simp only [PyData.showable], by simp only [PyData.leavesShort], by simp only [PyData.hasDict], by simp only [PyData.bulk]; exact Nat.le_refl _, by simp only [PyData.depth]; exact Nat.le_refl _⟩
theorem nice_none : Nice 0 0 .none := ⟨by simp only [PyData.showable], by simp only [PyData.leavesShort], by simp only [PyData.hasDict], by simp only [PyData.bulk]; exact Nat.le_refl _, by simp only [PyData.depth]; exact Nat.le_refl _⟩
theorem nice_str {x : Str} {B : Nat} (h : (x.cps.toList.all fun c => decide (c < 16 ^ 8)) = true) (k : x.cps.size ≤ B) : Nice B 0 (.str x) := ⟨by simp only [PyData.showable], by simp only [PyData.leavesShort]; exact h, by simp only [PyData.hasDict], by simp only [PyData.bulk]; exact k, by simp only [PyData.depth]; exact Nat.le_refl _⟩
theorem nice_write : Nice 6 0 (.str ("write" : Str)) := nice_str (by decide +kernel) (by decide +kernel)
theorem nice_go : Nice 6 0 (.str ("go" : Str)) := nice_str (by decide +kernel) (by decide +kernel)
theorem nice_nm (s : Bool) : Nice 6 0 (.str (nmT s)) := by
  cases s
  · exact nice_str (x := sExcess) (by decide +kernel) (by decide +kernel)
  · exact nice_str (x := sCourse) (by decide +kernel) (by decide +kernel)
theorem nice_step {M : Int} (hM : M < 10 ^ 12) {s : Stp} (b : BdS M s) : Nice 9 1 (encSt s) := by
  cases s with
  | wr j n =>
    have b : (-M ≤ j ∧ j ≤ M) ∧ -M ≤ n ∧ n ≤ M := b
    exact (NiceA.tup (NiceA.cons nice_write (NiceA.cons (nice_int hM b.1.1 b.1.2) (NiceA.cons (nice_int hM b.2.1 b.2.2) NiceA.nil)))).mono (by decide) (by decide)
  | go j =>
    have b : -M ≤ j ∧ j ≤ M := b
    exact (NiceA.tup (NiceA.cons nice_go (NiceA.cons (nice_int hM b.1 b.2) NiceA.nil))).mono (by decide) (by decide)
  | go1 => exact (NiceA.tup (NiceA.cons nice_go NiceA.nil)).mono (by decide) (by decide)
  | non => exact nice_none.mono (by decide) (by decide)
  | lgo => exact (NiceA.lst (NiceA.cons nice_go (NiceA.cons (nice_int (M := 0) (by decide) (by decide) (by decide)) NiceA.nil))).mono (by decide) (by decide)
theorem nice_item {M : Int} {L : Nat} (hM : M < 10 ^ 12) {x : Itm} (b : BdI M L x) : Nice (10 * L) 2 (encI x) := by
  cases x with
  | i n =>
    have b : -M ≤ n ∧ n ≤ M := b
    exact (nice_int hM b.1 b.2).mono (Nat.zero_le _) (by decide)
  | b => exact (nice_bool true).mono (Nat.zero_le _) (by decide)
  | non => exact nice_none.mono (Nat.zero_le _) (by decide)
  | st ss => exact (NiceA.tup (NiceA.map fun s hs => nice_step hM (b.2 s hs))).mono (Nat.mul_le_mul_left 10 b.1) (Nat.le_refl _)
  | sl ss => exact (NiceA.lst (NiceA.map fun s hs => nice_step hM (b.2 s hs))).mono (Nat.mul_le_mul_left 10 b.1) (Nat.le_refl _)
theorem nice_deep : ∀ n, Nice n (n + 1) (deepD n)
  | 0 => NiceA.tup NiceA.nil
  | n + 1 => (NiceA.tup (NiceA.cons (nice_deep n) NiceA.nil)).mono (by omega) (Nat.le_refl _)
theorem nice_thing {M : Int} {L : Nat} (hM : M < 10 ^ 12) (hL : L ≤ 1000) {g : Tg} (b : BdT M L g) (hg : g ≠ .em) : Nice 50000 31 (encT g) := by
  have dep : Nice 50000 31 deep30 := by
    rw [← deep30_d]
    exact (nice_deep 30).mono (by decide) (Nat.le_refl _)
  have bk : (10 * L + 1) * 4 ≤ 40004 := by omega
  have all : ∀ {is : List Itm} (s : Bool), is.length ≤ 4 → (∀ x ∈ is, BdI M L x) → NiceA 50000 2 (.str (nmT s) :: is.map encI) := fun {is} s h1 h2 => by
    have q := NiceA.cons ((nice_nm s).mono (Nat.le_refl _) (Nat.zero_le 2)) (NiceA.map (f := encI) (B := 10 * L) (D := 2) (xs := is) fun x hx => nice_item hM (h2 x hx))
    have e : (10 * L + 1) * is.length ≤ (10 * L + 1) * 4 := Nat.mul_le_mul_left _ h1
    exact ⟨q.s, q.l, q.n, by have := q.b; omega, q.d⟩
  cases g with
  | non => exact nice_none.mono (by decide) (by decide)
  | em => exact absurd rfl hg
  | cs => exact (nice_nm true).mono (by decide) (by decide)
  | dp => exact dep
  | tu s is => exact (NiceA.tup (all s b.1 b.2.1)).mono (Nat.le_refl _) (by decide)
  | li s is => exact (NiceA.lst (all s b.1 b.2)).mono (Nat.le_refl _) (by decide)
/-- what is needed that a thing be shown -/
theorem thing_repr {X : Cx} {M : Int} {L : Nat} (hM : M < 10 ^ 12) (hL : L ≤ 1000) {g : Tg} (b : BdT M L g) (hg : X.A.guards = some []) (hu : X.A.units + 40 < cLine) : CallD X (.builtin "repr") [.d (encT g)] (.str (encT g).shown) := by
  by_cases q : g = .em
  · subst q
    exact ll_repr (d := .dict []) hg (by simp only [PyData.depth, PyData.depthKv]; omega) (by simp only [PyData.showable, PyData.showableKv]) (.inl rfl) (by decide +kernel)
  · have N := nice_thing hM hL b q
    exact ll_repr hg (by have := N.d; omega) N.s (.inr N.n) (PyData.shown_fits_bulk (by decide) (by decide) N.l (Nat.le_trans N.b (by decide)))
end K33

-- part FwEnd
set_option Elab.async false
set_option maxRecDepth 100000
set_option maxHeartbeats 4000000
set_option linter.all false
namespace Fw
open PySem PySem.Spec PyProof.Rows L2
/-- a def of one parameter, called where nothing else runs: its body may know that nothing is being shown -/
theorem top_run {P : Program} {w : World} {K : PySem.W.Frag} {mg : Str → Option Value} {base : Heap} {k : Nat} {fa : Addr} {fd : FuncData} {y nm : Str} {st : Stmt} {N : List Str} {s0 : Shared} {H : Hp} {u : Value} {v : V} {Q : VK}
    (F : Fun K nm nm st fa fd) (S : FnScope N [y] (defScope st)) (room : Room (k + 1) callerA) (B : Env0 P w K mg base callerA [] s0 H) (bd : BindsTo s0 fd ⟨[u], []⟩ [(y, u)]) (ruv : RelV v u)
    (todo : ∀ cdv : Value, Room k (callerA.deeper (envOfC nm (defScope st) s0.heap.objs.size fa cdv)) → ∃ t, PSs (bx P w K mg base N nm st fa cdv callerA [] s0 H E0) (defBody st) t ∧ t { nx := fun _ H' => Q .non H', rt := Q } (L2.start N [v]) H) :
    codeAny (model P w) callerA (.call (.ref fa) ⟨[u], []⟩) (CR CX0 [] P w H s0 Q E0) s0 := by
  obtain ⟨oc, od, kV, doc, pm, an, cdv, ct, osl, rfl, look, hcode⟩ := F.ex
  have inK : K.In s0.heap := B.mod.kin.keeps fun p q z => (B.bs p q z).1
  have nolim : s0.heap.NoLimit := B.mod.nolimit.keeps fun p q z => (B.bs p q z).1
  have kinds : ∀ z ∈ [(y, u)], (defScope st).names.lookup z.1 = some .local ∨ ((defScope st).names.lookup z.1 = some .cell ∧ ((cellsFrom (s0.heap.objs.size + 1) (defScope st).names []).lookup z.1).isSome = true) := fun z hz => by
    obtain rfl := List.mem_singleton.mp hz
    rcases S.par y (List.mem_singleton.mpr rfl) with g | g
    · exact .inl g
    · exact .inr ⟨g, PySem.W.cellsFrom_some _ _ _ (.inl g)⟩
  refine codeAny_call_function room.depth (inK _ _ look) rfl S.co S.gen rfl (PySem.W.codeRec_of inK hcode) (bd _ _ _ _ ?_)
  refine wpAny_newFunctionEnv_cells S.kind kinds fun env0 henv s2 ic => ?_
  subst henv
  refine ⟨nolim.keeps ic.toInCall.keep, codeAny_func ?_⟩
  obtain ⟨t, wt, qt⟩ := todo cdv (room.deeper _)
  have J0 : Inv (cxOf CX0 P w K mg base N nm (defScope st) fa cdv callerA [] s0 H E0) [] (L2.start N [v]) H s2 := inv_start S room.hd B rfl (.cons ruv .nil) ic
  refine wpAny_mono (wt.nox.run [] s2 (L2.start N [v]) H _ J0 qt) (fun fl s3 h3 => ?_) fun _ _ bad => bad
  cases fl with
  | brk => exact h3.elim fun _ z => z.elim fun _ z => False.elim z.2
  | cont => exact h3.elim fun _ z => z.elim fun _ z => False.elim z.2
  | next =>
    obtain ⟨_, H3, J, qv⟩ := h3
    exact ⟨V.non, H3, J.os, J.bare, J.base, J.hok, rfl, qv⟩
  | ret r =>
    obtain ⟨x, _, H3, J, rx, qv⟩ := h3
    exact ⟨x, H3, J.os, J.bare, J.base, J.hok, rx, qv⟩
section
variable {P : Program} {w : World} {K : PySem.W.Frag} {mg mb : Str → Option Value} {k : Nat} {fa a : Addr} {fd : FuncData} {y nm : Str} {st : Stmt} {N : List Str} {s0 : Shared} {vs : List Value} {ns : List Int}
/-- the ground, seen by a heap H that knows of nothing but the script -/
theorem top_env (H : Hp) (inK : K.In s0.heap) (n1 : s0.heap.Ns mainGlobals mg) (n2 : s0.heap.Ns builtinsNs mb) (n3 : ∀ x : Str, x ≠ "__name__" → mb x = bootBuiltins x) (n4 : s0.heap.NoLimit) (n5 : s0.gens = #[]) (hs : s0.heap.get? a = some { cls := .type "list", data := .seq vs.toArray })
    (hk : HOk P w H s0.heap) (only : ∀ b, H b ≠ none → b = a) (out : H a ≠ none → K.lookup a = none) : K.In (hidT s0.heap H) ∧ (hidT s0.heap H).Ns mainGlobals mg ∧ Env0 P w K mg (hidT s0.heap H) callerA [] s0 H := by
  have free : ∀ b o, s0.heap.get? b = some o → (∀ es ep, o.data = .dict es ep → H b = none) := fun b o e es ep d => by
    cases q : H b with
    | none => rfl
    | some z =>
      obtain rfl := only b (by rw [q]; exact nofun)
      rw [hs] at e
      cases e
      cases d
  have keepNs : ∀ (b : Addr) (m : Str → Option Value), s0.heap.Ns b m → (hidT s0.heap H).Ns b m := fun b m h => by
    obtain ⟨o, es, ep, e, d, r⟩ := h
    exact ⟨o, es, ep, hidT_get e (free b o e es ep d), d, r⟩
  have inB : K.In (hidT s0.heap H) := fun b o e => hidT_get (inK b o e) (by
    cases q : H b with
    | none => rfl
    | some z =>
      obtain rfl := only b (by rw [q]; exact nofun)
      have := out (by rw [q]; exact nofun)
      rw [this] at e
      cases e)
  refine ⟨inB, keepNs _ _ n1, ⟨rfl, ⟨inB, keepNs _ _ n1, ⟨mb, keepNs _ _ n2, n3⟩, ?_⟩, fun b o e => of_hidT e, Nat.le_of_eq (hidT_size _ _), trivial, fun b z => ?_, hk, .of_eq n5⟩⟩
  · obtain ⟨mc, c1, c2⟩ := n4
    exact ⟨mc, keepNs _ _ c1, c2⟩
  · have z : b ∈ ([] : List Addr) := z
    cases z
/-- the law's own def is called with the script: the whole promise -/
theorem top_law (F : Fun K nm nm st fa fd) (S : FnScope N [y] (defScope st)) (inK : K.In s0.heap) (n1 : s0.heap.Ns mainGlobals mg) (n2 : s0.heap.Ns builtinsNs mb) (n3 : ∀ x : Str, x ≠ "__name__" → mb x = bootBuiltins x) (n4 : s0.heap.NoLimit) (n5 : s0.gens = #[])
    (hs : s0.heap.get? a = some { cls := .type "list", data := .seq vs.toArray }) (hi : IntsAre vs ns) (hl : ns.length ≤ sizeLine) (room : Room (k + 1) callerA) (bd : BindsTo s0 fd ⟨[.ref a], []⟩ [(y, .ref a)]) (hN : 1 ≤ N.length)
    (body : ∀ (base : Heap) (cdv : Value) (H : Hp), K.In base → base.Ns mainGlobals mg → Room k (callerA.deeper (envOfC nm (defScope st) s0.heap.objs.size fa cdv)) → SDs (bx P w K mg base N nm st fa cdv callerA [] s0 H E0) (defBody st) (startT N [.sc K ns]) ⟨fun _ => False, fun r _ => r = .d (.bool true), fun _ => False, fun _ => False⟩) :
    codeAny (model P w) callerA (.call (.ref fa) ⟨[.ref a], []⟩) (fun r s' => r = .ok (.ret (.bool true)) ∧ OldK s0.heap s'.heap ∧ s'.os = s0.os ∧ AllBare s'.gens) s0 := by
  have rv := vals_ints hi
  have lenV := hi.length
  have core : ∀ H : Hp, (∀ b, H b = none ∨ ∃ o xs, H b = some (.frz o (.lst xs))) → SqL K H a (ns.map V.int) → HOk P w H s0.heap → (∀ b, H b ≠ none → b = a) → (H a ≠ none → K.lookup a = none) →
      codeAny (model P w) callerA (.call (.ref fa) ⟨[.ref a], []⟩) (fun r s' => r = .ok (.ret (.bool true)) ∧ OldK s0.heap s'.heap ∧ s'.os = s0.os ∧ AllBare s'.gens) s0 := by
    intro H frz sq hk only out
    obtain ⟨inB, nsB, B⟩ := top_env (P := P) (w := w) H inK n1 n2 n3 n4 n5 hs hk only out
    have S1 : StO ⟨H, H, fun _ => False⟩ H H (L2.start N [.ref a]) (startT N [.sc K ns]) := start_sto (Same.refl H) (.cons ⟨a, rfl, sq⟩ .nil) hN
    refine codeAny_mono (top_run (Q := fun v _ => v = .bl true) F S room B bd (v := .ref a) rfl fun cdv hr => ⟨_, pb_of _ _, body _ cdv H inB nsB hr _ _ H H _ S1 ⟨fun _ _ _ _ _ z => z.elim, fun v F' H' sg t r _ dv e => ?_, fun _ _ _ _ _ z => z.elim, fun _ _ _ _ _ z => z.elim⟩⟩) fun r s' h => ?_
    · subst e
      cases dv
      rfl
    · cases r with
      | error e => exact False.elim h
      | ok fl =>
        cases fl with
        | ret u =>
          obtain ⟨v, H', os, bare, un, hok', ru, qv⟩ := h
          have qv : v = .bl true := qv
          subst qv
          obtain rfl : u = Value.bool true := ru
          refine ⟨rfl, OldK.of_keep fun b o e => ?_, os, bare⟩
          rcases frz b with z | ⟨ob, xs, z⟩
          · exact un.keep b o e z (fun m => by have m : b ∈ ([] : List Addr) := m; cases m) (by simp)
          · have z2 := un.frzs b ob _ z
            obtain ⟨e1, _⟩ := hk b _ z
            obtain ⟨e2, _⟩ := hok' b _ z2
            rw [e] at e1
            cases e1
            exact e2
        | _ => exact False.elim h
  cases hk : K.lookup a with
  | some o =>
    have e := inK a o hk
    rw [hs] at e
    cases e
    refine core (fun _ => none) (fun _ => .inl rfl) (.inr ⟨_, vs.toArray, _, hk, rfl, rfl, rfl, by rw [List.size_toArray, lenV]; exact hl, by simpa using rv⟩) (fun _ _ z => nomatch (show (none : Option HO) = some _ from z)) (fun _ z => absurd rfl z) fun z => absurd rfl z
  | none =>
    have at1 : ∀ b, (if b = a then some (HO.frz { cls := .type "list", data := .seq vs.toArray } (.lst (ns.map V.int))) else none) ≠ none → b = a := fun b z => by
      by_cases q : b = a
      · exact q
      · exact absurd (if_neg q) z
    refine core (fun b => if b = a then some (.frz { cls := .type "list", data := .seq vs.toArray } (.lst (ns.map V.int))) else none) (fun b => ?_) (.inl (.inr ⟨_, if_pos rfl⟩)) (fun b x z => ?_) at1 fun _ => hk
    · by_cases q : b = a
      · exact .inr ⟨_, _, if_pos q⟩
      · exact .inl (if_neg q)
    · have z : (if b = a then some (HO.frz { cls := .type "list", data := .seq vs.toArray } (.lst (ns.map V.int))) else none) = some x := z
      have q : b = a := at1 b (fun e => by rw [e] at z; cases z)
      subst q
      have z := (if_pos rfl).symm.trans z
      cases z
      exact ⟨hs, by rw [List.length_map]; exact hl, vs, _, rv, hs⟩
end
end Fw

-- part T25
set_option Elab.async false
set_option maxRecDepth 100000
set_option maxHeartbeats 4000000
set_option linter.all false
namespace K33
open PySem PySem.Spec PyProof.Rows L2 Fw
theorem lot_eqv (l : List Int) : PyData.eqv (lotD l) (.tuple []) = decide (l = []) := by
  cases l with
  | nil => decide +kernel
  | cons x r => show PyData.eqv (.tuple (.int x :: r.map PyData.int)) (.tuple []) = _; simp only [PyData.eqv, PyData.eqvAll]; rw [decide_eq_false (List.cons_ne_nil _ _)]
theorem lot_nodict (l : List Int) : (lotD l).hasDict = false := by
  show PyData.hasDict (.tuple (l.map PyData.int)) = false
  simp only [PyData.hasDict]
  induction l with
  | nil => simp only [List.map_nil, PyData.hasDictAll]
  | cons x r ih => simp only [List.map_cons, PyData.hasDictAll, PyData.hasDict, ih]; rfl
theorem lot_shaped (l : List Int) : SeqAt.shaped (lotD l) = true := by
  have h1 : ∀ l : List Int, PyData.canLayAll0 (l.map PyData.int) = true := fun l => by
    induction l with
    | nil => simp only [List.map_nil, PyData.canLayAll0]
    | cons x r ih => simp only [List.map_cons, PyData.canLayAll0, PyData.canLay0, ih]; rfl
  have h2 : ∀ l : List Int, PyData.depthAll (l.map PyData.int) = 0 := fun l => by
    induction l with
    | nil => simp only [List.map_nil, PyData.depthAll]
    | cons x r ih => simp only [List.map_cons, PyData.depthAll, PyData.depth, ih]; rfl
  show (PyData.canLay0 (.tuple (l.map PyData.int)) && decide (PyData.depth (.tuple (l.map PyData.int)) ≤ 64)) = true
  simp only [PyData.canLay0, PyData.depth, h1 l, h2 l]
  decide
def Lb : Nat → Nat
  | 0 => 20
  | n + 1 => 3 * Lb n + 3
section
variable {P : Program} {w : World} {K : PySem.W.Frag} {mg : Str → Option Value} {base : Heap}
abbrev s_law : Stmt := top 50
abbrev n_law : List Str := ["_law_script", "_law_hand_here", "_law_turn", "_law_parts", "_law_standing_here", "_law_lot", "_law_told", "_law_due", "_law_thing", "_law_change", "_law_kept"]
theorem sc_law : FnScope n_law ["_law_script"] (defScope s_law) := ⟨rfl, rfl, rfl, by decide +kernel, rfl, by decide +kernel, by decide +kernel⟩
theorem c_law {C : Addr} {fa : Addr} {cdv : Value} {s0 : Shared} {H : Hp} {ns : List Int} (B : Bt mg) (T : StC K mg C) (hns : ns.length ≤ 63) (hr : Room 8 (callerA.deeper (envOfC "law" (defScope s_law) s0.heap.objs.size fa cdv)))
    (Chand : Cal P w K mg base "_law_hand" 1 ["_law_script"] (spHd K)) (Cstd : Cal P w K mg base "_law_standing" 2 ["_law_hand_here", "_law_most", "_law_need"] (spH 3 pre_std phi_std)) (Clots : Cal P w K mg base "_law_lots" 3 ["_law_hand_here", "_law_many"] (spH 2 pre_lots phi_lots))
    (Mst : MakC P w K mg base "Standing" C 6 ["self", "cells", "head", "deeds"] (spI C 3 ph_standing)) (Cdf : Cal P w K mg base "doubtful" 5 ["standing", "lot"] (spP 2 (ph_doubtful C))) (Cisd : Cal P w K mg base "is_doubtful" 5 ["standing", "lot", "thing"] (spP 3 (ph_is_doubtful C)))
    (Cld : Cal P w K mg base "_law_is_doubtful" 3 ["_law_parts", "_law_lot", "_law_thing"] (spP 3 ph_ldoubtful)) (Cfl : Cal P w K mg base "_law_flood" 1 ["_law_parts", "_law_lot"] (spP 2 ph_lflood)) (Cea : Cal P w K mg base "is_easy" 5 ["standing"] (spP 1 (ph_easy C)))
    (Cfg : Cal P w K mg base "_law_flag" 1 ["_law_told", "_law_due"] (spP 2 ph_lflag)) (Cbt : ∀ (M : Int) (L : Nat), 8 ≤ M → L ≤ 1000 → Cal P w K mg base "_law_bent" 3 ["_law_hand_here", "_law_thing", "_law_deeds"] (spH 3 (pre_bent M L) (phi_bent M L)))
    (Cgr : Cal P w K mg base "_law_great_right" 8 ["_law_hand_here"] (spH 1 (fun rs => rs = []) (fun _ r => r = .d (.bool true)))) :
    SDs (bx P w K mg base n_law "law" s_law fa cdv callerA [] s0 H E0) (defBody s_law) (startT n_law [.sc K ns]) ⟨fun _ => False, fun r _ => r = .d (.bool true), fun _ => False, fun _ => False⟩ := by
  have hu64 : (callerA.deeper (envOfC "law" (defScope s_law) s0.heap.objs.size fa cdv)).units + 64 < cLine := hr.units
  have hgu : (callerA.deeper (envOfC "law" (defScope s_law) s0.heap.objs.size fa cdv)).guards = some [] := rfl
  refine sd_cons (sd_hand (ns := ns) 1 Chand (hr.mono (by decide)) sc_law.nd rfl (.inl rfl) (vr (r := .sc K ns) 0 rfl) hns fun D hD => ?_)
  refine sd_cons (sd_for (A := Int) (ds := idxL 3) (enc := PyData.int) (bs := fun d => [(2, .int d)]) (fun _ t => ∃ u2 u3 u4 u5 u6 u7 u8 u9 u10, t = [.v (.sc K ns), .hand D, u2, u3, u4, u5, u6, u7, u8, u9, u10]) PassesOwn.never rfl (by rw [← idxL_rng]; exact it_rng (n := 3) rfl B.range pd_int (by decide) (by decide)) (pg_name (i := 2) sc_law.nd rfl (.inl rfl)) (fun _ _ => tg_name) ⟨_, _, _, _, _, _, _, _, _, rfl⟩ ?_ ?_)
  rotate_left
  · rintro u ⟨u2, u3, u4, u5, u6, u7, u8, u9, u10, rfl⟩
    refine sd_one (sd_ret (Re := fun r => r = .d (.bool true)) (pm_calH (h := D) (P := fun rs => rs = []) 1 Cgr hr rfl pma_nil (fun rs e => ⟨by rw [e]; rfl, e, fun r hr => hr⟩)) fun r hr => hr)
  rintro i d u hi ⟨u2, u3, u4, u5, u6, u7, u8, u9, u10, rfl⟩
  refine sd_cons (sd_asg (Re := PartsR 5 2) 3 sc_law.nd rfl (.inl rfl) (pm_calH (h := D) 1 Cstd (hr.mono (by decide)) rfl (ac pd_int (ac pd_int pma_nil)) (fun rs e => by
    subst e
    refine ⟨rfl, ⟨5, 2, rfl, by decide, by decide, by decide, by decide⟩, ?_⟩
    rintro r ⟨most, need, c, h, ds, e1, e2, e3⟩
    cases e1
    exact ⟨c, h, ds, e2, e3⟩)) ?_)
  rintro r ⟨c, h, ds, rfl, hlen, hnd, sok, h100⟩
  have K1 := fk_of sok
  obtain ⟨c1, c2, h0, h2, hl200, hvf, hro⟩ := id sok
  have hl5 : ds.length ≤ 5 := by omega
  have hl8 : ds.length ≤ 8 := by omega
  have hp : ∀ d ∈ ds, 0 ≤ d.2 := fun d hd => (hnd d hd).1
  have hnd20 : ∀ d ∈ ds, 0 ≤ d.2 ∧ d.2 ≤ 10 ^ 20 := fun d hd => ⟨(hnd d hd).1, Int.le_trans (hnd d hd).2 (by decide)⟩
  refine sd_cons (sd_asg (Re := fun r => r = stD C c h ds) 4 sc_law.nd rfl (.inl rfl) (pm_mak Mst (hr.mono (by decide)) (acS (ix (x := .tuple [.int c, .int h, dsD ds]) (vr 3 rfl) pd_int (id_tup (d := .int c) rfl)) (acS (ix (x := .tuple [.int c, .int h, dsD ds]) (vr 3 rfl) pd_int (id_tup (d := .int h) rfl)) (acS (ix (x := .tuple [.int c, .int h, dsD ds]) (vr 3 rfl) pd_int (id_tup (d := dsD ds) rfl)) pma_nil))) rfl ⟨c, h, ds, rfl, sok, rfl⟩) ?_)
  rintro r rfl
  refine sd_one (sd_forM (A := List Int) (enc := lotD) (bs := fun l => [(5, lotD l)]) (Q := fun lots => ∀ l ∈ lots, LotOk l ds.length) (fun _ _ t => ∃ u5 u6 u7 u8 u9 u10, t = [.v (.sc K ns), .hand D, .v (.d (.int d)), .v (.d (partsD c h ds)), .v (stD C c h ds), u5, u6, u7, u8, u9, u10]) PassesOwn.never rfl (itm_lst (pm_calH (h := D) 1 Clots (hr.mono (by decide)) rfl (ac (lenT (ds := ds.map encD) B.len (ix (x := .tuple [.int c, .int h, dsD ds]) (vr 3 rfl) pd_int (id_tup (d := dsD ds) rfl))) pma_nil) (fun rs e => by
    subst e
    rw [List.length_map]
    refine ⟨rfl, ⟨ds.length, rfl, hl8⟩, ?_⟩
    rintro r ⟨many, lots, e1, e2, e3, e4⟩
    have e1 : (ds.length : Int) = many := by cases e1; rfl
    exact ⟨lots, e2, fun l hl => by have := e3 l hl; rwa [← e1] at this⟩))) (pg_name (i := 5) sc_law.nd rfl (.inl rfl)) (fun _ => tg_name) (fun _ _ => ⟨_, _, _, _, _, _, rfl⟩) ?_ ?_)
  rotate_left
  · rintro lots hq u ⟨u5, u6, u7, u8, u9, u10, rfl⟩
    exact ⟨_, _, _, _, _, _, _, _, _, rfl⟩
  rintro lots hq i l u hi ⟨u5, u6, u7, u8, u9, u10, rfl⟩
  have lo : LotOk l ds.length := hq l (List.mem_of_getElem? hi)
  obtain ⟨x, ex, bx⟩ := ok_told (l := l) K1 c1 h0 h100 (B := 2) (by decide) hnd hl8
  have hj : judgeP c h ds l (encT (.tu (okB c h ds l) x)) = true := by rw [← ex]; exact told_judged K1 lo
  have hth : ThOk (encT (.tu (okB c h ds l) x)) := thOk_enc (by decide) bx
  have b60 := bnd60 (l := l) K1 h0 h100 (by omega) hnd20 hl8
  refine sd_cons (sd_asg (Re := fun r => r = .d (encT (.tu (okB c h ds l) x))) 6 sc_law.nd rfl (.inl rfl) (pd_cal Cdf (hr.mono (by decide)) (ac (vr (r := stD C c h ds) 4 rfl) (ac (vr (r := .d (lotD l)) 5 rfl) pma_nil)) rfl ⟨c, h, ds, l, rfl, hl200, hp, lo, by rw [ex]⟩) ?_)
  rintro r rfl
  refine sd_cons (sd_asg (Re := fun r => r = .d (.bool (okB c h ds l))) 7 sc_law.nd rfl (.inl rfl) (pd_cal Cfl (hr.mono (by decide)) (ac (vr (r := .d (partsD c h ds)) 3 rfl) (ac (vr (r := .d (lotD l)) 5 rfl) pma_nil)) rfl ⟨c, h, ds, l, rfl, hl5, hnd, lo, by rw [ok_flood K1 lo hp (by omega) c1]⟩) ?_)
  rintro r rfl
  refine sd_cons (sd_if (P := fun b => b = false) (PWD.tst (pwd_or (P := fun b => b = false) (P' := fun b => b = false) (PMT.mono (ct (ix (x := .tuple (.str (nmT (okB c h ds l)) :: x.map encI)) (vr 6 rfl) pd_int (id_tup (d := .str (nmT (okB c h ds l))) (at_0 _ _))) (ix (pd_lst (ds := [.str sExcess, .str sCourse]) (acC pd_str (acC pd_str pma_nil)) (by show 2 ≤ sizeLine; decide)) (iIB B.int (vr (r := .d (.bool (okB c h ds l))) 7 rfl)) (id_lst (d := .str (nmT (okB c h ds l))) (at_two _))) (cd_neS _ _)) fun b hb => by rw [hb, beq_self_eq_true]; rfl) (fun q => by cases q) fun _ => pwd_or1 (PMT.mono (pdt_not (PD.tst (pd_cal (z := .bool (judgeP c h ds l (encT (.tu (okB c h ds l) x)))) Cld (hr.mono (by decide)) (ac (vr (r := .d (partsD c h ds)) 3 rfl) (ac (vr (r := .d (lotD l)) 5 rfl) (ac (vr (r := .d (encT (.tu (okB c h ds l) x))) 6 rfl) pma_nil))) rfl ⟨c, h, ds, l, _, rfl, hl200, lo, hth, fits0 K1, b60, rfl⟩))) fun b hb => by rw [hb, hj]; rfl))) (fun q => by cases q) fun _ => sd_nil ?_)
  refine sd_cons (sd_if (P := fun b => b = false) (PWD.tst (pwd_or (P := fun b => b = false) (P' := fun b => b = false) (PMT.mono (ct (pd_cal (z := .bool (judgeP c h ds l (encT (.tu (okB c h ds l) x)))) Cisd (hr.mono (by decide)) (ac (vr (r := stD C c h ds) 4 rfl) (ac (vr (r := .d (lotD l)) 5 rfl) (ac (vr (r := .d (encT (.tu (okB c h ds l) x))) 6 rfl) pma_nil))) rfl ⟨c, h, ds, l, _, rfl, hl200, lo, hth, rfl⟩) pd_bl (cd_notB _ _)) fun b hb => by rw [hb, hj]; rfl) (fun q => by cases q) fun _ => pwd_or1 (PWD.tst (pwd_and (P := fun b => b = decide (l = [])) (P' := fun b => b = false) (ct (vr (r := .d (lotD l)) 5 rfl) (pd_tup (ds := []) pma_nil (Nat.zero_le _)) (lot_eqv l ▸ cd_eq hu64 (lot_shaped l) (by decide +kernel) (lot_nodict l) (by decide +kernel))) (fun _ => rfl) fun q => pwd_and1 (PMT.mono (ct (pd_cal (z := .bool (easyB c h ds)) Cea (hr.mono (by decide)) (ac (vr (r := stD C c h ds) 4 rfl) pma_nil) rfl ⟨c, h, ds, rfl, hl200, rfl⟩) (vr (r := .d (.bool (okB c h ds l))) 7 rfl) (cd_neB _ _)) fun b hb => by
    have e : l = [] := of_decide_eq_true q.symm
    subst e
    rw [hb, ok_easy K1, beq_self_eq_true]
    rfl))))) (fun q => by cases q) fun _ => sd_nil ?_)
  refine sd_cons (sd_asg (Re := fun r => r = .d (encT (.tu (okB c h ds l) x))) 8 sc_law.nd rfl (.inl rfl) (vr (r := .d (encT (.tu (okB c h ds l) x))) 6 rfl) ?_)
  rintro r rfl
  refine sd_one (sd_for (A := Int) (ds := idxL 2) (enc := PyData.int) (bs := fun d => [(9, .int d)]) (fun i t => ∃ g u9 u10, BdT (300 + (i : Int)) (Lb i) g ∧ t = [.v (.sc K ns), .hand D, .v (.d (.int d)), .v (.d (partsD c h ds)), .v (stD C c h ds), .v (.d (lotD l)), .v (.d (encT (.tu (okB c h ds l) x))), .v (.d (.bool (okB c h ds l))), .v (.d (encT g)), u9, u10]) PassesOwn.never rfl (by rw [← idxL_rng]; exact it_rng (n := 2) rfl B.range pd_int (by decide) (by decide)) (pg_name (i := 9) sc_law.nd rfl (.inl rfl)) (fun _ _ => tg_name) ⟨_, _, _, bx.up (by decide) (by decide), rfl⟩ ?_ ?_)
  rotate_left
  · rintro u ⟨g, u9, u10, bg, rfl⟩
    exact ⟨_, _, _, _, _, _, rfl⟩
  rintro i2 d2 u hi2 ⟨g, u9, u10, bg, rfl⟩
  have hi2' : i2 < 2 := by have := (List.getElem?_eq_some_iff.mp hi2).1; rwa [idxL_len] at this
  have hLb : Lb i2 ≤ 63 ∧ Lb (i2 + 1) ≤ 192 := by
    match i2, hi2' with
    | 0, _ => exact ⟨by decide, by decide⟩
    | 1, _ => exact ⟨by decide, by decide⟩
  refine sd_cons (sd_asg (Re := GoodR (300 + (i2 : Int)) (Lb i2)) 8 sc_law.nd rfl (.inl rfl) (pm_calH (h := D) 1 (Cbt (300 + (i2 : Int)) (Lb i2) (by omega) (by omega)) (hr.mono (by decide)) rfl (ac (vr (r := .d (encT g)) 8 rfl) (ac (lenT (ds := ds.map encD) B.len (ix (x := .tuple [.int c, .int h, dsD ds]) (vr 3 rfl) pd_int (id_tup (d := dsD ds) rfl))) pma_nil)) (fun rs e => by
    subst e
    rw [List.length_map]
    exact ⟨rfl, ⟨g, ds.length, rfl, bg, hl8⟩, fun r hr => hr⟩)) ?_)
  rintro r ⟨g', rfl, bg'⟩
  have bg2 : BdT (300 + ((i2 + 1 : Nat) : Int)) (Lb (i2 + 1)) g' := bg'.up (by omega) (Nat.le_refl _)
  have thg : ThOk (encT g') := thOk_enc (by omega) bg2
  have rp : ∀ {X : Cx}, X.A = callerA.deeper (envOfC "law" (defScope s_law) s0.heap.objs.size fa cdv) → CallD X (.builtin "repr") [.d (encT g')] (.str (encT g').shown) := fun {X} e => thing_repr (M := 300 + ((i2 + 1 : Nat) : Int)) (by omega) (by omega) bg2 (by rw [e]; exact hgu) (by rw [e]; omega)
  refine sd_cons (sd_asg (Re := fun r => r = .d (.str (encT g').shown)) 10 sc_law.nd rfl (.inl rfl) (pd_callB (x := "repr") (id := "repr") (by rfl) B.repr (by decide +kernel) (ac (vr (r := .d (encT g')) 8 rfl) pma_nil) (rp rfl)) ?_)
  rintro r rfl
  refine sd_cons (sd_if (P := fun b => b = false) (PMT.mono (pdt_not (PD.tst (pd_cal (z := .bool (judgeP c h ds l (encT g') == judgeP c h ds l (encT g'))) Cfg (hr.mono (by decide)) (ac (pd_cal (z := .bool (judgeP c h ds l (encT g'))) Cisd (hr.mono (by decide)) (ac (vr (r := stD C c h ds) 4 rfl) (ac (vr (r := .d (lotD l)) 5 rfl) (ac (vr (r := .d (encT g')) 8 rfl) pma_nil))) rfl ⟨c, h, ds, l, _, rfl, hl200, lo, thg, rfl⟩) (ac (pd_cal (z := .bool (judgeP c h ds l (encT g'))) Cld (hr.mono (by decide)) (ac (vr (r := .d (partsD c h ds)) 3 rfl) (ac (vr (r := .d (lotD l)) 5 rfl) (ac (vr (r := .d (encT g')) 8 rfl) pma_nil))) rfl ⟨c, h, ds, l, _, rfl, hl200, lo, thg, fits0 K1, b60, rfl⟩) pma_nil)) rfl ⟨_, _, rfl, rfl⟩))) fun b hb => by rw [hb, beq_self_eq_true]; rfl) (fun q => by cases q) fun _ => sd_nil ?_)
  refine sd_one (sd_if (P := fun b => b = false) (PMT.mono (ct (pd_callB (x := "repr") (id := "repr") (by rfl) B.repr (by decide +kernel) (ac (vr (r := .d (encT g')) 8 rfl) pma_nil) (rp rfl)) (vr (r := .d (.str (encT g').shown)) 10 rfl) (cd_neS _ _)) fun b hb => by rw [hb, beq_self_eq_true]; rfl) (fun q => by cases q) fun _ => sd_nil ?_)
  exact ⟨g', _, _, bg2, rfl⟩
end
end K33

-- part T26
set_option Elab.async false
set_option maxRecDepth 100000
set_option maxHeartbeats 4000000
set_option linter.all false
namespace K33
open PySem PySem.Spec PyProof.Rows L2 Fw
/-! ### what the top has left, gathered -/
structure Txt (K : PySem.W.Frag) (mg : Str → Option Value) (Cs Cd : Addr) : Prop where
  B : Bt mg
  T : StC K mg Cs
  D : DbC K Cd
  f_is_integer : HasFn K mg "is_integer" s_is_integer ["thing"]
  f_is_within : HasFn K mg "is_within" s_is_within ["thing", "least", "most"]
  f_is_number : HasFn K mg "is_number" s_is_number ["thing", "most"]
  f_is_pair : HasFn K mg "is_pair" s_is_pair ["thing"]
  f_is_triple : HasFn K mg "is_triple" s_is_triple ["thing"]
  f_is_lot : HasFn K mg "is_lot" s_is_lot ["thing", "many"]
  f_is_first_behind : HasFn K mg "is_first_behind" s_is_first_behind ["head", "last", "thing"]
  f_is_waits : HasFn K mg "is_waits" s_is_waits ["many", "deed", "thing"]
  f_first_wrong : HasFn K mg "first_wrong" s_first_wrong ["head", "deeds"]
  f_waited_for : HasFn K mg "waited_for" s_waited_for ["waits", "lot"]
  f_first_in_ring : HasFn K mg "first_in_ring" s_first_in_ring ["waits"]
  f_is_too_far : HasFn K mg "is_too_far" s_is_too_far ["cells", "head", "deeds"]
  f_waits_of : HasFn K mg "waits_of" s_waits_of ["standing"]
  f_loads_of : HasFn K mg "loads_of" s_loads_of ["standing"]
  f_too_heavy : HasFn K mg "too_heavy" s_too_heavy ["standing"]
  f_easy : HasFn K mg "easy" s_easy ["standing"]
  f_is_easy : HasFn K mg "is_easy" s_is_easy ["standing"]
  f_check_doubt : HasFn K mg "check_doubt" s_check_doubt ["standing", "lot"]
  f_doubt_sum : HasFn K mg "doubt_sum" s_doubt_sum ["standing", "lot", "deed"]
  f_doubtful : HasFn K mg "doubtful" s_doubtful ["standing", "lot"]
  f_is_course_beside : HasFn K mg "is_course_beside" s_course ["standing", "lot", "thing"]
  f_is_doubtful : HasFn K mg "is_doubtful" s_is_doubtful ["standing", "lot", "thing"]
  f_law_hand : HasFn K mg "_law_hand" s_lhand ["_law_script"]
  f_law_draw : HasFn K mg "_law_draw" s_ldraw ["_law_hand_here", "_law_many"]
  f_law_any : HasFn K mg "_law_any" s_lany ["_law_hand_here", "_law_some"]
  f_law_is_int : HasFn K mg "_law_is_int" s_lint ["_law_thing", "_law_least", "_law_most"]
  f_law_flag : HasFn K mg "_law_flag" s_lflag ["_law_told", "_law_due"]
  f_law_deep : HasFn K mg "_law_deep" s_ldeep ["_law_many"]
  f_law_standing : HasFn K mg "_law_standing" s_lstd ["_law_hand_here", "_law_most", "_law_need"]
  f_law_sums : HasFn K mg "_law_sums" s_lsums ["_law_parts", "_law_lot"]
  f_law_is_course : HasFn K mg "_law_is_course" s_lcourse ["_law_parts", "_law_lot", "_law_thing"]
  f_law_is_doubtful : HasFn K mg "_law_is_doubtful" s_ldoubtful ["_law_parts", "_law_lot", "_law_thing"]
  f_law_flood : HasFn K mg "_law_flood" s_lflood ["_law_parts", "_law_lot"]
  f_law_bent : HasFn K mg "_law_bent" s_lbent ["_law_hand_here", "_law_thing", "_law_deeds"]
  f_law_lots : HasFn K mg "_law_lots" s_llots ["_law_hand_here", "_law_many"]
  f_law_great_right : HasFn K mg "_law_great_right" s_lgreat ["_law_hand_here"]
  k_Standing : HasCls K mg "Standing" "Standing.__init__" Cs s_standing ["self", "cells", "head", "deeds"]
  k_Doubt : HasCls K mg "Doubt" "Doubt.__init__" Cd s_doubt ["self", "standing", "lot"]
  m_fits : HasMth K "fits" "Doubt.fits" Cd s_fits ["self"]
  m_go : HasMth K "go" "Doubt.go" Cd s_go ["self", "deed"]
  m_step : HasMth K "step" "Doubt.step" Cd s_step ["self", "thing"]
  mC : ∃ tk : Tok, mg "MOST_CELLS" = some (.int (10 ^ 30) tk)
  mH : ∃ tk : Tok, mg "MOST_HEAD" = some (.int (10 ^ 40) tk)
  mD : ∃ tk : Tok, mg "MOST_DEEDS" = some (.int 200 tk)
section
variable {P : Program} {w : World} {K : PySem.W.Frag} {mg : Str → Option Value} {base : Heap}
theorem whole {Cs Cd fa : Addr} {cdv : Value} {s0 : Shared} {H : Hp} {ns : List Int} (X : Txt K mg Cs Cd) (hns : ns.length ≤ 63) (hr : Room 8 (callerA.deeper (envOfC "law" (defScope s_law) s0.heap.objs.size fa cdv))) :
    SDs (bx P w K mg base n_law "law" s_law fa cdv callerA [] s0 H E0) (defBody s_law) (startT n_law [.sc K ns]) ⟨fun _ => False, fun r _ => r = .d (.bool true), fun _ => False, fun _ => False⟩ := by
  obtain ⟨t1, mC⟩ := X.mC
  obtain ⟨t2, mH⟩ := X.mH
  obtain ⟨t3, mD⟩ := X.mD
  have a_is_integer := c_is_integer (P := P) (w := w) (base := base) X.f_is_integer X.B
  have a_is_within := c_is_within (P := P) (w := w) (base := base) X.f_is_within X.B a_is_integer
  have a_is_number := c_is_number (P := P) (w := w) (base := base) X.f_is_number a_is_within
  have a_is_pair := c_is_pair (P := P) (w := w) (base := base) X.f_is_pair X.B
  have a_is_triple := c_is_triple (P := P) (w := w) (base := base) X.f_is_triple X.B
  have a_is_lot := c_is_lot (P := P) (w := w) (base := base) X.f_is_lot X.B a_is_within
  have a_is_first_behind := c_is_first_behind (P := P) (w := w) (base := base) X.f_is_first_behind a_is_within
  have a_is_waits := c_is_waits (P := P) (w := w) (base := base) X.f_is_waits a_is_lot
  have a_first_wrong := c_first_wrong (P := P) (w := w) (base := base) X.f_first_wrong X.B mC a_is_triple a_is_first_behind a_is_number a_is_waits
  have a_waited_for := c_waited_for (P := P) (w := w) (base := base) X.f_waited_for X.B
  have a_first_in_ring := c_first_in_ring (P := P) (w := w) (base := base) X.f_first_in_ring X.B a_waited_for
  have a_is_too_far := c_is_too_far (P := P) (w := w) (base := base) X.f_is_too_far X.B
  have a_waits_of := c_waits_of (P := P) (w := w) (base := base) X.f_waits_of X.T
  have a_loads_of := c_loads_of (P := P) (w := w) (base := base) X.f_loads_of X.B X.T a_waits_of a_waited_for
  have a_too_heavy := c_too_heavy (P := P) (w := w) (base := base) X.f_too_heavy X.B X.T a_loads_of
  have a_easy := c_easy (P := P) (w := w) (base := base) X.f_easy X.B a_too_heavy
  have a_is_easy := c_is_easy (P := P) (w := w) (base := base) X.f_is_easy a_easy
  have a_Standing := c_standing (P := P) (w := w) (base := base) X.k_Standing X.B X.T mC mH mD a_is_within a_is_number a_first_wrong a_is_too_far a_first_in_ring
  have a_check_doubt := c_check_doubt (P := P) (w := w) (base := base) X.f_check_doubt X.B X.T a_is_lot
  have a_doubt_sum := c_doubt_sum (P := P) (w := w) (base := base) X.f_doubt_sum X.B X.T
  have a_doubtful := c_doubtful (P := P) (w := w) (base := base) X.f_doubtful X.B X.T a_check_doubt a_doubt_sum
  have a_fits := m_fits (P := P) (w := w) (base := base) X.m_fits X.B X.D
  have a_go := m_go (P := P) (w := w) (base := base) X.m_go X.B X.D
  have a_step := m_step (P := P) (w := w) (base := base) X.m_step X.B X.D a_is_pair a_is_triple a_is_integer a_is_within a_go a_fits
  have a_Doubt := c_doubt (P := P) (w := w) (base := base) X.k_Doubt X.B X.D X.T
  have a_is_course_beside := c_course (P := P) (w := w) (base := base) X.f_is_course_beside X.B X.D a_Doubt a_step a_fits
  have a_is_doubtful := c_is_doubtful (P := P) (w := w) (base := base) X.f_is_doubtful X.B X.T a_check_doubt a_doubt_sum a_is_course_beside a_is_within a_is_integer
  have a_law_hand := c_lhand (P := P) (w := w) (base := base) X.f_law_hand X.B
  have a_law_draw := c_ldraw (P := P) (w := w) (base := base) X.f_law_draw X.B
  have a_law_any := c_lany (P := P) (w := w) (base := base) X.f_law_any X.B a_law_draw
  have a_law_is_int := c_lint (P := P) (w := w) (base := base) X.f_law_is_int X.B
  have a_law_flag := c_lflag (P := P) (w := w) (base := base) X.f_law_flag X.B
  have a_law_deep := c_ldeep (P := P) (w := w) (base := base) X.f_law_deep X.B
  have a_law_standing := c_lstd (P := P) (w := w) (base := base) X.f_law_standing X.B a_law_draw
  have a_law_sums := c_lsums (P := P) (w := w) (base := base) X.f_law_sums X.B
  have a_law_is_course := c_lcourse (P := P) (w := w) (base := base) X.f_law_is_course X.B a_law_is_int
  have a_law_is_doubtful := c_ldoubtful (P := P) (w := w) (base := base) X.f_law_is_doubtful X.B a_law_is_int a_law_is_course a_law_sums
  have a_law_flood := c_lflood (P := P) (w := w) (base := base) X.f_law_flood X.B
  have a_law_lots := c_llots (P := P) (w := w) (base := base) X.f_law_lots X.B a_law_any
  have a_law_great_right := c_lgreat (P := P) (w := w) (base := base) X.f_law_great_right X.B X.T a_law_standing a_law_lots a_Standing a_doubtful a_is_doubtful a_law_is_doubtful a_law_sums
  exact c_law X.B X.T hns hr a_law_hand a_law_standing a_law_lots a_Standing a_doubtful a_is_doubtful a_law_is_doubtful a_law_flood a_is_easy a_law_flag (fun M L hM hL => c_lbent hM hL X.f_law_bent X.B a_law_draw a_law_any a_law_deep) a_law_great_right
end
end K33

-- part T27
set_option Elab.async false
set_option maxRecDepth 100000
set_option maxHeartbeats 0
set_option linter.all false
namespace K33
open PySem PySem.Spec PyProof.Rows L2 Fw
def hNames0 : List Str := ["RingError", "BadStanding", "Waiting", "NoLot", "is_integer", "is_within", "is_number", "is_pair", "is_triple", "is_lot", "MOST_CELLS", "MOST_HEAD", "MOST_DEEDS", "is_first_behind", "is_waits", "first_wrong", "waited_for", "first_in_ring", "is_too_far", "Standing", "waits_of", "loads_of", "too_heavy", "easy", "is_easy", "check_doubt", "doubt_sum", "doubtful", "Doubt", "is_course_beside"]
def hNames1 : List Str := ["is_doubtful", "_law_hand", "_law_draw", "_law_any", "_law_is_int", "_law_flag", "_law_deep", "_law_standing", "_law_sums", "_law_is_course", "_law_is_doubtful", "_law_flood", "_law_bent", "_law_lots", "_law_great_right"]
def hNames : List Str := hNames0 ++ hNames1
def hFa0 : List He.Fa := [.glo "is_integer", .keep "is_integer", .glo "is_within", .keep "is_within", .glo "is_number", .keep "is_number", .glo "is_pair", .keep "is_pair", .glo "is_triple", .keep "is_triple", .glo "is_lot", .keep "is_lot", .glo "is_first_behind", .keep "is_first_behind", .glo "is_waits", .keep "is_waits", .glo "first_wrong", .keep "first_wrong", .glo "waited_for", .keep "waited_for", .glo "first_in_ring", .keep "first_in_ring", .glo "is_too_far", .keep "is_too_far", .glo "waits_of", .keep "waits_of", .glo "loads_of", .keep "loads_of", .glo "too_heavy", .keep "too_heavy"]
def hFa1 : List He.Fa := [.glo "easy", .keep "easy", .glo "is_easy", .keep "is_easy", .glo "check_doubt", .keep "check_doubt", .glo "doubt_sum", .keep "doubt_sum", .glo "doubtful", .keep "doubtful", .glo "is_course_beside", .keep "is_course_beside", .glo "is_doubtful", .keep "is_doubtful", .glo "_law_hand", .keep "_law_hand", .glo "_law_draw", .keep "_law_draw", .glo "_law_any", .keep "_law_any", .glo "_law_is_int", .keep "_law_is_int", .glo "_law_flag", .keep "_law_flag", .glo "_law_deep", .keep "_law_deep", .glo "_law_standing", .keep "_law_standing", .glo "_law_sums", .keep "_law_sums"]
def hFa2 : List He.Fa := [.glo "_law_is_course", .keep "_law_is_course", .glo "_law_is_doubtful", .keep "_law_is_doubtful", .glo "_law_flood", .keep "_law_flood", .glo "_law_bent", .keep "_law_bent", .glo "_law_lots", .keep "_law_lots", .glo "_law_great_right", .keep "_law_great_right", .glo "law", .keep "law", .glo "Standing", .glo "Doubt", .free "isinstance", .free "int", .free "bool", .free "tuple", .free "str", .free "len", .free "enumerate", .free "list", .free "sorted", .free "range", .free "any", .free "all", .free "sum", .free "min"]
def hFa3 : List He.Fa := [.free "max", .free "dict", .free "abs", .free "repr", .int "MOST_CELLS" (10 ^ 30), .int "MOST_HEAD" (10 ^ 40), .int "MOST_DEEDS" 200, .cls "Standing", .cls "Doubt", .noat "Standing" "cells", .noat "Standing" "head", .noat "Standing" "deeds", .noat "Doubt" "cells", .noat "Doubt" "head", .noat "Doubt" "rest", .noat "Doubt" "firsts", .meth "Doubt" "fits", .meth "Doubt" "go", .meth "Doubt" "step", .meth "Doubt" "__init__", .meth "Standing" "__init__", .mkr "Standing", .mkr "Doubt"]
def hFa : List He.Fa := hFa0 ++ hFa1 ++ hFa2 ++ hFa3
def hFn0 : List He.FnD := [⟨("is_integer", none), "is_integer", "is_integer", defArgs s_is_integer, defBody s_is_integer, defScope s_is_integer⟩, ⟨("is_within", none), "is_within", "is_within", defArgs s_is_within, defBody s_is_within, defScope s_is_within⟩, ⟨("is_number", none), "is_number", "is_number", defArgs s_is_number, defBody s_is_number, defScope s_is_number⟩, ⟨("is_pair", none), "is_pair", "is_pair", defArgs s_is_pair, defBody s_is_pair, defScope s_is_pair⟩, ⟨("is_triple", none), "is_triple", "is_triple", defArgs s_is_triple, defBody s_is_triple, defScope s_is_triple⟩, ⟨("is_lot", none), "is_lot", "is_lot", defArgs s_is_lot, defBody s_is_lot, defScope s_is_lot⟩, ⟨("is_first_behind", none), "is_first_behind", "is_first_behind", defArgs s_is_first_behind, defBody s_is_first_behind, defScope s_is_first_behind⟩, ⟨("is_waits", none), "is_waits", "is_waits", defArgs s_is_waits, defBody s_is_waits, defScope s_is_waits⟩, ⟨("first_wrong", none), "first_wrong", "first_wrong", defArgs s_first_wrong, defBody s_first_wrong, defScope s_first_wrong⟩, ⟨("waited_for", none), "waited_for", "waited_for", defArgs s_waited_for, defBody s_waited_for, defScope s_waited_for⟩]
def hFn1 : List He.FnD := [⟨("first_in_ring", none), "first_in_ring", "first_in_ring", defArgs s_first_in_ring, defBody s_first_in_ring, defScope s_first_in_ring⟩, ⟨("is_too_far", none), "is_too_far", "is_too_far", defArgs s_is_too_far, defBody s_is_too_far, defScope s_is_too_far⟩, ⟨("waits_of", none), "waits_of", "waits_of", defArgs s_waits_of, defBody s_waits_of, defScope s_waits_of⟩, ⟨("loads_of", none), "loads_of", "loads_of", defArgs s_loads_of, defBody s_loads_of, defScope s_loads_of⟩, ⟨("too_heavy", none), "too_heavy", "too_heavy", defArgs s_too_heavy, defBody s_too_heavy, defScope s_too_heavy⟩, ⟨("easy", none), "easy", "easy", defArgs s_easy, defBody s_easy, defScope s_easy⟩, ⟨("is_easy", none), "is_easy", "is_easy", defArgs s_is_easy, defBody s_is_easy, defScope s_is_easy⟩, ⟨("check_doubt", none), "check_doubt", "check_doubt", defArgs s_check_doubt, defBody s_check_doubt, defScope s_check_doubt⟩, ⟨("doubt_sum", none), "doubt_sum", "doubt_sum", defArgs s_doubt_sum, defBody s_doubt_sum, defScope s_doubt_sum⟩, ⟨("doubtful", none), "doubtful", "doubtful", defArgs s_doubtful, defBody s_doubtful, defScope s_doubtful⟩]
def hFn2 : List He.FnD := [⟨("is_course_beside", none), "is_course_beside", "is_course_beside", defArgs s_course, defBody s_course, defScope s_course⟩, ⟨("is_doubtful", none), "is_doubtful", "is_doubtful", defArgs s_is_doubtful, defBody s_is_doubtful, defScope s_is_doubtful⟩, ⟨("_law_hand", none), "_law_hand", "_law_hand", defArgs s_lhand, defBody s_lhand, defScope s_lhand⟩, ⟨("_law_draw", none), "_law_draw", "_law_draw", defArgs s_ldraw, defBody s_ldraw, defScope s_ldraw⟩, ⟨("_law_any", none), "_law_any", "_law_any", defArgs s_lany, defBody s_lany, defScope s_lany⟩, ⟨("_law_is_int", none), "_law_is_int", "_law_is_int", defArgs s_lint, defBody s_lint, defScope s_lint⟩, ⟨("_law_flag", none), "_law_flag", "_law_flag", defArgs s_lflag, defBody s_lflag, defScope s_lflag⟩, ⟨("_law_deep", none), "_law_deep", "_law_deep", defArgs s_ldeep, defBody s_ldeep, defScope s_ldeep⟩, ⟨("_law_standing", none), "_law_standing", "_law_standing", defArgs s_lstd, defBody s_lstd, defScope s_lstd⟩, ⟨("_law_sums", none), "_law_sums", "_law_sums", defArgs s_lsums, defBody s_lsums, defScope s_lsums⟩]
def hFn3 : List He.FnD := [⟨("_law_is_course", none), "_law_is_course", "_law_is_course", defArgs s_lcourse, defBody s_lcourse, defScope s_lcourse⟩, ⟨("_law_is_doubtful", none), "_law_is_doubtful", "_law_is_doubtful", defArgs s_ldoubtful, defBody s_ldoubtful, defScope s_ldoubtful⟩, ⟨("_law_flood", none), "_law_flood", "_law_flood", defArgs s_lflood, defBody s_lflood, defScope s_lflood⟩, ⟨("_law_bent", none), "_law_bent", "_law_bent", defArgs s_lbent, defBody s_lbent, defScope s_lbent⟩, ⟨("_law_lots", none), "_law_lots", "_law_lots", defArgs s_llots, defBody s_llots, defScope s_llots⟩, ⟨("_law_great_right", none), "_law_great_right", "_law_great_right", defArgs s_lgreat, defBody s_lgreat, defScope s_lgreat⟩, ⟨("law", none), "law", "law", defArgs s_law, defBody s_law, defScope s_law⟩, ⟨("Standing", some "__init__"), "__init__", "Standing.__init__", defArgs s_standing, defBody s_standing, defScope s_standing⟩, ⟨("Doubt", some "__init__"), "__init__", "Doubt.__init__", defArgs s_doubt, defBody s_doubt, defScope s_doubt⟩, ⟨("Doubt", some "fits"), "fits", "Doubt.fits", defArgs s_fits, defBody s_fits, defScope s_fits⟩]
def hFn4 : List He.FnD := [⟨("Doubt", some "go"), "go", "Doubt.go", defArgs s_go, defBody s_go, defScope s_go⟩, ⟨("Doubt", some "step"), "step", "Doubt.step", defArgs s_step, defBody s_step, defScope s_step⟩]
def hFn : List He.FnD := hFn0 ++ hFn1 ++ hFn2 ++ hFn3 ++ hFn4
abbrev hRow : PySem.W.OpenRow := PySem.W.OpenLaw.row PySem.Challenge.rw_ringclaims_k33_whole_doubt_by_floods
abbrev hHook : PySem.W.Hook := He.hookE 5 hFa hFn
def hOb (s : PySem.W.SharedT) : He.Al := He.obsG 5 hFa hFn (HandSHeadRun.getT s)
theorem hOb_eq (s : PySem.W.SharedT) : hOb s = hHook.obs s.abs := He.obsG_eq (HandSHeadRun.getT_eq s)
theorem hRun (w : World) : HandSHeadRun.RunEq hRow (PySem.W.view hRow.prog [50]) hHook hOb 4000 hNames w := by
  intro os
  kernel_rfl
end K33

-- part T28
set_option Elab.async false
set_option maxRecDepth 100000
set_option maxHeartbeats 4000000
set_option linter.all false
namespace K33
open PySem PySem.Spec PyProof.Rows L2 Fw
section
variable {K : PySem.W.Frag} {h : Heap} {mg : Str → Option Value}
theorem e_is_integer (c : He.SaysE hFa hFn K) (X : K.In h) (G : h.Ns mainGlobals mg) : HasFn K mg "is_integer" s_is_integer ["thing"] := by
  obtain ⟨_, _, _, _, _, _, _, _, _, l1, l2⟩ := c.def_ 0 (d := ⟨("is_integer", none), "is_integer", "is_integer", defArgs s_is_integer, defBody s_is_integer, defScope s_is_integer⟩) rfl
  have F := fun_mk (st := s_is_integer) l1 l2 (He.keep_ok (c.fact 1 (f := .keep "is_integer") rfl))
  exact ⟨_, _, F, He.glo_ok X G (c.fact 0 (f := .glo "is_integer") rfl), F.binds fun _ _ _ _ _ _ us hl => match us, hl with | [_], _ => rfl⟩
theorem e_is_within (c : He.SaysE hFa hFn K) (X : K.In h) (G : h.Ns mainGlobals mg) : HasFn K mg "is_within" s_is_within ["thing", "least", "most"] := by
  obtain ⟨_, _, _, _, _, _, _, _, _, l1, l2⟩ := c.def_ 1 (d := ⟨("is_within", none), "is_within", "is_within", defArgs s_is_within, defBody s_is_within, defScope s_is_within⟩) rfl
  have F := fun_mk (st := s_is_within) l1 l2 (He.keep_ok (c.fact 3 (f := .keep "is_within") rfl))
  exact ⟨_, _, F, He.glo_ok X G (c.fact 2 (f := .glo "is_within") rfl), F.binds fun _ _ _ _ _ _ us hl => match us, hl with | [_, _, _], _ => rfl⟩
theorem e_is_number (c : He.SaysE hFa hFn K) (X : K.In h) (G : h.Ns mainGlobals mg) : HasFn K mg "is_number" s_is_number ["thing", "most"] := by
  obtain ⟨_, _, _, _, _, _, _, _, _, l1, l2⟩ := c.def_ 2 (d := ⟨("is_number", none), "is_number", "is_number", defArgs s_is_number, defBody s_is_number, defScope s_is_number⟩) rfl
  have F := fun_mk (st := s_is_number) l1 l2 (He.keep_ok (c.fact 5 (f := .keep "is_number") rfl))
  exact ⟨_, _, F, He.glo_ok X G (c.fact 4 (f := .glo "is_number") rfl), F.binds fun _ _ _ _ _ _ us hl => match us, hl with | [_, _], _ => rfl⟩
theorem e_is_pair (c : He.SaysE hFa hFn K) (X : K.In h) (G : h.Ns mainGlobals mg) : HasFn K mg "is_pair" s_is_pair ["thing"] := by
  obtain ⟨_, _, _, _, _, _, _, _, _, l1, l2⟩ := c.def_ 3 (d := ⟨("is_pair", none), "is_pair", "is_pair", defArgs s_is_pair, defBody s_is_pair, defScope s_is_pair⟩) rfl
  have F := fun_mk (st := s_is_pair) l1 l2 (He.keep_ok (c.fact 7 (f := .keep "is_pair") rfl))
  exact ⟨_, _, F, He.glo_ok X G (c.fact 6 (f := .glo "is_pair") rfl), F.binds fun _ _ _ _ _ _ us hl => match us, hl with | [_], _ => rfl⟩
theorem e_is_triple (c : He.SaysE hFa hFn K) (X : K.In h) (G : h.Ns mainGlobals mg) : HasFn K mg "is_triple" s_is_triple ["thing"] := by
  obtain ⟨_, _, _, _, _, _, _, _, _, l1, l2⟩ := c.def_ 4 (d := ⟨("is_triple", none), "is_triple", "is_triple", defArgs s_is_triple, defBody s_is_triple, defScope s_is_triple⟩) rfl
  have F := fun_mk (st := s_is_triple) l1 l2 (He.keep_ok (c.fact 9 (f := .keep "is_triple") rfl))
  exact ⟨_, _, F, He.glo_ok X G (c.fact 8 (f := .glo "is_triple") rfl), F.binds fun _ _ _ _ _ _ us hl => match us, hl with | [_], _ => rfl⟩
theorem e_is_lot (c : He.SaysE hFa hFn K) (X : K.In h) (G : h.Ns mainGlobals mg) : HasFn K mg "is_lot" s_is_lot ["thing", "many"] := by
  obtain ⟨_, _, _, _, _, _, _, _, _, l1, l2⟩ := c.def_ 5 (d := ⟨("is_lot", none), "is_lot", "is_lot", defArgs s_is_lot, defBody s_is_lot, defScope s_is_lot⟩) rfl
  have F := fun_mk (st := s_is_lot) l1 l2 (He.keep_ok (c.fact 11 (f := .keep "is_lot") rfl))
  exact ⟨_, _, F, He.glo_ok X G (c.fact 10 (f := .glo "is_lot") rfl), F.binds fun _ _ _ _ _ _ us hl => match us, hl with | [_, _], _ => rfl⟩
theorem e_is_first_behind (c : He.SaysE hFa hFn K) (X : K.In h) (G : h.Ns mainGlobals mg) : HasFn K mg "is_first_behind" s_is_first_behind ["head", "last", "thing"] := by
  obtain ⟨_, _, _, _, _, _, _, _, _, l1, l2⟩ := c.def_ 6 (d := ⟨("is_first_behind", none), "is_first_behind", "is_first_behind", defArgs s_is_first_behind, defBody s_is_first_behind, defScope s_is_first_behind⟩) rfl
  have F := fun_mk (st := s_is_first_behind) l1 l2 (He.keep_ok (c.fact 13 (f := .keep "is_first_behind") rfl))
  exact ⟨_, _, F, He.glo_ok X G (c.fact 12 (f := .glo "is_first_behind") rfl), F.binds fun _ _ _ _ _ _ us hl => match us, hl with | [_, _, _], _ => rfl⟩
theorem e_is_waits (c : He.SaysE hFa hFn K) (X : K.In h) (G : h.Ns mainGlobals mg) : HasFn K mg "is_waits" s_is_waits ["many", "deed", "thing"] := by
  obtain ⟨_, _, _, _, _, _, _, _, _, l1, l2⟩ := c.def_ 7 (d := ⟨("is_waits", none), "is_waits", "is_waits", defArgs s_is_waits, defBody s_is_waits, defScope s_is_waits⟩) rfl
  have F := fun_mk (st := s_is_waits) l1 l2 (He.keep_ok (c.fact 15 (f := .keep "is_waits") rfl))
  exact ⟨_, _, F, He.glo_ok X G (c.fact 14 (f := .glo "is_waits") rfl), F.binds fun _ _ _ _ _ _ us hl => match us, hl with | [_, _, _], _ => rfl⟩
theorem e_first_wrong (c : He.SaysE hFa hFn K) (X : K.In h) (G : h.Ns mainGlobals mg) : HasFn K mg "first_wrong" s_first_wrong ["head", "deeds"] := by
  obtain ⟨_, _, _, _, _, _, _, _, _, l1, l2⟩ := c.def_ 8 (d := ⟨("first_wrong", none), "first_wrong", "first_wrong", defArgs s_first_wrong, defBody s_first_wrong, defScope s_first_wrong⟩) rfl
  have F := fun_mk (st := s_first_wrong) l1 l2 (He.keep_ok (c.fact 17 (f := .keep "first_wrong") rfl))
  exact ⟨_, _, F, He.glo_ok X G (c.fact 16 (f := .glo "first_wrong") rfl), F.binds fun _ _ _ _ _ _ us hl => match us, hl with | [_, _], _ => rfl⟩
theorem e_waited_for (c : He.SaysE hFa hFn K) (X : K.In h) (G : h.Ns mainGlobals mg) : HasFn K mg "waited_for" s_waited_for ["waits", "lot"] := by
  obtain ⟨_, _, _, _, _, _, _, _, _, l1, l2⟩ := c.def_ 9 (d := ⟨("waited_for", none), "waited_for", "waited_for", defArgs s_waited_for, defBody s_waited_for, defScope s_waited_for⟩) rfl
  have F := fun_mk (st := s_waited_for) l1 l2 (He.keep_ok (c.fact 19 (f := .keep "waited_for") rfl))
  exact ⟨_, _, F, He.glo_ok X G (c.fact 18 (f := .glo "waited_for") rfl), F.binds fun _ _ _ _ _ _ us hl => match us, hl with | [_, _], _ => rfl⟩
theorem e_first_in_ring (c : He.SaysE hFa hFn K) (X : K.In h) (G : h.Ns mainGlobals mg) : HasFn K mg "first_in_ring" s_first_in_ring ["waits"] := by
  obtain ⟨_, _, _, _, _, _, _, _, _, l1, l2⟩ := c.def_ 10 (d := ⟨("first_in_ring", none), "first_in_ring", "first_in_ring", defArgs s_first_in_ring, defBody s_first_in_ring, defScope s_first_in_ring⟩) rfl
  have F := fun_mk (st := s_first_in_ring) l1 l2 (He.keep_ok (c.fact 21 (f := .keep "first_in_ring") rfl))
  exact ⟨_, _, F, He.glo_ok X G (c.fact 20 (f := .glo "first_in_ring") rfl), F.binds fun _ _ _ _ _ _ us hl => match us, hl with | [_], _ => rfl⟩
theorem e_is_too_far (c : He.SaysE hFa hFn K) (X : K.In h) (G : h.Ns mainGlobals mg) : HasFn K mg "is_too_far" s_is_too_far ["cells", "head", "deeds"] := by
  obtain ⟨_, _, _, _, _, _, _, _, _, l1, l2⟩ := c.def_ 11 (d := ⟨("is_too_far", none), "is_too_far", "is_too_far", defArgs s_is_too_far, defBody s_is_too_far, defScope s_is_too_far⟩) rfl
  have F := fun_mk (st := s_is_too_far) l1 l2 (He.keep_ok (c.fact 23 (f := .keep "is_too_far") rfl))
  exact ⟨_, _, F, He.glo_ok X G (c.fact 22 (f := .glo "is_too_far") rfl), F.binds fun _ _ _ _ _ _ us hl => match us, hl with | [_, _, _], _ => rfl⟩
theorem e_waits_of (c : He.SaysE hFa hFn K) (X : K.In h) (G : h.Ns mainGlobals mg) : HasFn K mg "waits_of" s_waits_of ["standing"] := by
  obtain ⟨_, _, _, _, _, _, _, _, _, l1, l2⟩ := c.def_ 12 (d := ⟨("waits_of", none), "waits_of", "waits_of", defArgs s_waits_of, defBody s_waits_of, defScope s_waits_of⟩) rfl
  have F := fun_mk (st := s_waits_of) l1 l2 (He.keep_ok (c.fact 25 (f := .keep "waits_of") rfl))
  exact ⟨_, _, F, He.glo_ok X G (c.fact 24 (f := .glo "waits_of") rfl), F.binds fun _ _ _ _ _ _ us hl => match us, hl with | [_], _ => rfl⟩
theorem e_loads_of (c : He.SaysE hFa hFn K) (X : K.In h) (G : h.Ns mainGlobals mg) : HasFn K mg "loads_of" s_loads_of ["standing"] := by
  obtain ⟨_, _, _, _, _, _, _, _, _, l1, l2⟩ := c.def_ 13 (d := ⟨("loads_of", none), "loads_of", "loads_of", defArgs s_loads_of, defBody s_loads_of, defScope s_loads_of⟩) rfl
  have F := fun_mk (st := s_loads_of) l1 l2 (He.keep_ok (c.fact 27 (f := .keep "loads_of") rfl))
  exact ⟨_, _, F, He.glo_ok X G (c.fact 26 (f := .glo "loads_of") rfl), F.binds fun _ _ _ _ _ _ us hl => match us, hl with | [_], _ => rfl⟩
theorem e_too_heavy (c : He.SaysE hFa hFn K) (X : K.In h) (G : h.Ns mainGlobals mg) : HasFn K mg "too_heavy" s_too_heavy ["standing"] := by
  obtain ⟨_, _, _, _, _, _, _, _, _, l1, l2⟩ := c.def_ 14 (d := ⟨("too_heavy", none), "too_heavy", "too_heavy", defArgs s_too_heavy, defBody s_too_heavy, defScope s_too_heavy⟩) rfl
  have F := fun_mk (st := s_too_heavy) l1 l2 (He.keep_ok (c.fact 29 (f := .keep "too_heavy") rfl))
  exact ⟨_, _, F, He.glo_ok X G (c.fact 28 (f := .glo "too_heavy") rfl), F.binds fun _ _ _ _ _ _ us hl => match us, hl with | [_], _ => rfl⟩
theorem e_easy (c : He.SaysE hFa hFn K) (X : K.In h) (G : h.Ns mainGlobals mg) : HasFn K mg "easy" s_easy ["standing"] := by
  obtain ⟨_, _, _, _, _, _, _, _, _, l1, l2⟩ := c.def_ 15 (d := ⟨("easy", none), "easy", "easy", defArgs s_easy, defBody s_easy, defScope s_easy⟩) rfl
  have F := fun_mk (st := s_easy) l1 l2 (He.keep_ok (c.fact 31 (f := .keep "easy") rfl))
  exact ⟨_, _, F, He.glo_ok X G (c.fact 30 (f := .glo "easy") rfl), F.binds fun _ _ _ _ _ _ us hl => match us, hl with | [_], _ => rfl⟩
theorem e_is_easy (c : He.SaysE hFa hFn K) (X : K.In h) (G : h.Ns mainGlobals mg) : HasFn K mg "is_easy" s_is_easy ["standing"] := by
  obtain ⟨_, _, _, _, _, _, _, _, _, l1, l2⟩ := c.def_ 16 (d := ⟨("is_easy", none), "is_easy", "is_easy", defArgs s_is_easy, defBody s_is_easy, defScope s_is_easy⟩) rfl
  have F := fun_mk (st := s_is_easy) l1 l2 (He.keep_ok (c.fact 33 (f := .keep "is_easy") rfl))
  exact ⟨_, _, F, He.glo_ok X G (c.fact 32 (f := .glo "is_easy") rfl), F.binds fun _ _ _ _ _ _ us hl => match us, hl with | [_], _ => rfl⟩
theorem e_check_doubt (c : He.SaysE hFa hFn K) (X : K.In h) (G : h.Ns mainGlobals mg) : HasFn K mg "check_doubt" s_check_doubt ["standing", "lot"] := by
  obtain ⟨_, _, _, _, _, _, _, _, _, l1, l2⟩ := c.def_ 17 (d := ⟨("check_doubt", none), "check_doubt", "check_doubt", defArgs s_check_doubt, defBody s_check_doubt, defScope s_check_doubt⟩) rfl
  have F := fun_mk (st := s_check_doubt) l1 l2 (He.keep_ok (c.fact 35 (f := .keep "check_doubt") rfl))
  exact ⟨_, _, F, He.glo_ok X G (c.fact 34 (f := .glo "check_doubt") rfl), F.binds fun _ _ _ _ _ _ us hl => match us, hl with | [_, _], _ => rfl⟩
theorem e_doubt_sum (c : He.SaysE hFa hFn K) (X : K.In h) (G : h.Ns mainGlobals mg) : HasFn K mg "doubt_sum" s_doubt_sum ["standing", "lot", "deed"] := by
  obtain ⟨_, _, _, _, _, _, _, _, _, l1, l2⟩ := c.def_ 18 (d := ⟨("doubt_sum", none), "doubt_sum", "doubt_sum", defArgs s_doubt_sum, defBody s_doubt_sum, defScope s_doubt_sum⟩) rfl
  have F := fun_mk (st := s_doubt_sum) l1 l2 (He.keep_ok (c.fact 37 (f := .keep "doubt_sum") rfl))
  exact ⟨_, _, F, He.glo_ok X G (c.fact 36 (f := .glo "doubt_sum") rfl), F.binds fun _ _ _ _ _ _ us hl => match us, hl with | [_, _, _], _ => rfl⟩
theorem e_doubtful (c : He.SaysE hFa hFn K) (X : K.In h) (G : h.Ns mainGlobals mg) : HasFn K mg "doubtful" s_doubtful ["standing", "lot"] := by
  obtain ⟨_, _, _, _, _, _, _, _, _, l1, l2⟩ := c.def_ 19 (d := ⟨("doubtful", none), "doubtful", "doubtful", defArgs s_doubtful, defBody s_doubtful, defScope s_doubtful⟩) rfl
  have F := fun_mk (st := s_doubtful) l1 l2 (He.keep_ok (c.fact 39 (f := .keep "doubtful") rfl))
  exact ⟨_, _, F, He.glo_ok X G (c.fact 38 (f := .glo "doubtful") rfl), F.binds fun _ _ _ _ _ _ us hl => match us, hl with | [_, _], _ => rfl⟩
theorem e_is_course_beside (c : He.SaysE hFa hFn K) (X : K.In h) (G : h.Ns mainGlobals mg) : HasFn K mg "is_course_beside" s_course ["standing", "lot", "thing"] := by
  obtain ⟨_, _, _, _, _, _, _, _, _, l1, l2⟩ := c.def_ 20 (d := ⟨("is_course_beside", none), "is_course_beside", "is_course_beside", defArgs s_course, defBody s_course, defScope s_course⟩) rfl
  have F := fun_mk (st := s_course) l1 l2 (He.keep_ok (c.fact 41 (f := .keep "is_course_beside") rfl))
  exact ⟨_, _, F, He.glo_ok X G (c.fact 40 (f := .glo "is_course_beside") rfl), F.binds fun _ _ _ _ _ _ us hl => match us, hl with | [_, _, _], _ => rfl⟩
theorem e_is_doubtful (c : He.SaysE hFa hFn K) (X : K.In h) (G : h.Ns mainGlobals mg) : HasFn K mg "is_doubtful" s_is_doubtful ["standing", "lot", "thing"] := by
  obtain ⟨_, _, _, _, _, _, _, _, _, l1, l2⟩ := c.def_ 21 (d := ⟨("is_doubtful", none), "is_doubtful", "is_doubtful", defArgs s_is_doubtful, defBody s_is_doubtful, defScope s_is_doubtful⟩) rfl
  have F := fun_mk (st := s_is_doubtful) l1 l2 (He.keep_ok (c.fact 43 (f := .keep "is_doubtful") rfl))
  exact ⟨_, _, F, He.glo_ok X G (c.fact 42 (f := .glo "is_doubtful") rfl), F.binds fun _ _ _ _ _ _ us hl => match us, hl with | [_, _, _], _ => rfl⟩
theorem e_law_hand (c : He.SaysE hFa hFn K) (X : K.In h) (G : h.Ns mainGlobals mg) : HasFn K mg "_law_hand" s_lhand ["_law_script"] := by
  obtain ⟨_, _, _, _, _, _, _, _, _, l1, l2⟩ := c.def_ 22 (d := ⟨("_law_hand", none), "_law_hand", "_law_hand", defArgs s_lhand, defBody s_lhand, defScope s_lhand⟩) rfl
  have F := fun_mk (st := s_lhand) l1 l2 (He.keep_ok (c.fact 45 (f := .keep "_law_hand") rfl))
  exact ⟨_, _, F, He.glo_ok X G (c.fact 44 (f := .glo "_law_hand") rfl), F.binds fun _ _ _ _ _ _ us hl => match us, hl with | [_], _ => rfl⟩
theorem e_law_draw (c : He.SaysE hFa hFn K) (X : K.In h) (G : h.Ns mainGlobals mg) : HasFn K mg "_law_draw" s_ldraw ["_law_hand_here", "_law_many"] := by
  obtain ⟨_, _, _, _, _, _, _, _, _, l1, l2⟩ := c.def_ 23 (d := ⟨("_law_draw", none), "_law_draw", "_law_draw", defArgs s_ldraw, defBody s_ldraw, defScope s_ldraw⟩) rfl
  have F := fun_mk (st := s_ldraw) l1 l2 (He.keep_ok (c.fact 47 (f := .keep "_law_draw") rfl))
  exact ⟨_, _, F, He.glo_ok X G (c.fact 46 (f := .glo "_law_draw") rfl), F.binds fun _ _ _ _ _ _ us hl => match us, hl with | [_, _], _ => rfl⟩
theorem e_law_any (c : He.SaysE hFa hFn K) (X : K.In h) (G : h.Ns mainGlobals mg) : HasFn K mg "_law_any" s_lany ["_law_hand_here", "_law_some"] := by
  obtain ⟨_, _, _, _, _, _, _, _, _, l1, l2⟩ := c.def_ 24 (d := ⟨("_law_any", none), "_law_any", "_law_any", defArgs s_lany, defBody s_lany, defScope s_lany⟩) rfl
  have F := fun_mk (st := s_lany) l1 l2 (He.keep_ok (c.fact 49 (f := .keep "_law_any") rfl))
  exact ⟨_, _, F, He.glo_ok X G (c.fact 48 (f := .glo "_law_any") rfl), F.binds fun _ _ _ _ _ _ us hl => match us, hl with | [_, _], _ => rfl⟩
theorem e_law_is_int (c : He.SaysE hFa hFn K) (X : K.In h) (G : h.Ns mainGlobals mg) : HasFn K mg "_law_is_int" s_lint ["_law_thing", "_law_least", "_law_most"] := by
  obtain ⟨_, _, _, _, _, _, _, _, _, l1, l2⟩ := c.def_ 25 (d := ⟨("_law_is_int", none), "_law_is_int", "_law_is_int", defArgs s_lint, defBody s_lint, defScope s_lint⟩) rfl
  have F := fun_mk (st := s_lint) l1 l2 (He.keep_ok (c.fact 51 (f := .keep "_law_is_int") rfl))
  exact ⟨_, _, F, He.glo_ok X G (c.fact 50 (f := .glo "_law_is_int") rfl), F.binds fun _ _ _ _ _ _ us hl => match us, hl with | [_, _, _], _ => rfl⟩
theorem e_law_flag (c : He.SaysE hFa hFn K) (X : K.In h) (G : h.Ns mainGlobals mg) : HasFn K mg "_law_flag" s_lflag ["_law_told", "_law_due"] := by
  obtain ⟨_, _, _, _, _, _, _, _, _, l1, l2⟩ := c.def_ 26 (d := ⟨("_law_flag", none), "_law_flag", "_law_flag", defArgs s_lflag, defBody s_lflag, defScope s_lflag⟩) rfl
  have F := fun_mk (st := s_lflag) l1 l2 (He.keep_ok (c.fact 53 (f := .keep "_law_flag") rfl))
  exact ⟨_, _, F, He.glo_ok X G (c.fact 52 (f := .glo "_law_flag") rfl), F.binds fun _ _ _ _ _ _ us hl => match us, hl with | [_, _], _ => rfl⟩
theorem e_law_deep (c : He.SaysE hFa hFn K) (X : K.In h) (G : h.Ns mainGlobals mg) : HasFn K mg "_law_deep" s_ldeep ["_law_many"] := by
  obtain ⟨_, _, _, _, _, _, _, _, _, l1, l2⟩ := c.def_ 27 (d := ⟨("_law_deep", none), "_law_deep", "_law_deep", defArgs s_ldeep, defBody s_ldeep, defScope s_ldeep⟩) rfl
  have F := fun_mk (st := s_ldeep) l1 l2 (He.keep_ok (c.fact 55 (f := .keep "_law_deep") rfl))
  exact ⟨_, _, F, He.glo_ok X G (c.fact 54 (f := .glo "_law_deep") rfl), F.binds fun _ _ _ _ _ _ us hl => match us, hl with | [_], _ => rfl⟩
theorem e_law_standing (c : He.SaysE hFa hFn K) (X : K.In h) (G : h.Ns mainGlobals mg) : HasFn K mg "_law_standing" s_lstd ["_law_hand_here", "_law_most", "_law_need"] := by
  obtain ⟨_, _, _, _, _, _, _, _, _, l1, l2⟩ := c.def_ 28 (d := ⟨("_law_standing", none), "_law_standing", "_law_standing", defArgs s_lstd, defBody s_lstd, defScope s_lstd⟩) rfl
  have F := fun_mk (st := s_lstd) l1 l2 (He.keep_ok (c.fact 57 (f := .keep "_law_standing") rfl))
  exact ⟨_, _, F, He.glo_ok X G (c.fact 56 (f := .glo "_law_standing") rfl), F.binds fun _ _ _ _ _ _ us hl => match us, hl with | [_, _, _], _ => rfl⟩
theorem e_law_sums (c : He.SaysE hFa hFn K) (X : K.In h) (G : h.Ns mainGlobals mg) : HasFn K mg "_law_sums" s_lsums ["_law_parts", "_law_lot"] := by
  obtain ⟨_, _, _, _, _, _, _, _, _, l1, l2⟩ := c.def_ 29 (d := ⟨("_law_sums", none), "_law_sums", "_law_sums", defArgs s_lsums, defBody s_lsums, defScope s_lsums⟩) rfl
  have F := fun_mk (st := s_lsums) l1 l2 (He.keep_ok (c.fact 59 (f := .keep "_law_sums") rfl))
  exact ⟨_, _, F, He.glo_ok X G (c.fact 58 (f := .glo "_law_sums") rfl), F.binds fun _ _ _ _ _ _ us hl => match us, hl with | [_, _], _ => rfl⟩
theorem e_law_is_course (c : He.SaysE hFa hFn K) (X : K.In h) (G : h.Ns mainGlobals mg) : HasFn K mg "_law_is_course" s_lcourse ["_law_parts", "_law_lot", "_law_thing"] := by
  obtain ⟨_, _, _, _, _, _, _, _, _, l1, l2⟩ := c.def_ 30 (d := ⟨("_law_is_course", none), "_law_is_course", "_law_is_course", defArgs s_lcourse, defBody s_lcourse, defScope s_lcourse⟩) rfl
  have F := fun_mk (st := s_lcourse) l1 l2 (He.keep_ok (c.fact 61 (f := .keep "_law_is_course") rfl))
  exact ⟨_, _, F, He.glo_ok X G (c.fact 60 (f := .glo "_law_is_course") rfl), F.binds fun _ _ _ _ _ _ us hl => match us, hl with | [_, _, _], _ => rfl⟩
theorem e_law_is_doubtful (c : He.SaysE hFa hFn K) (X : K.In h) (G : h.Ns mainGlobals mg) : HasFn K mg "_law_is_doubtful" s_ldoubtful ["_law_parts", "_law_lot", "_law_thing"] := by
  obtain ⟨_, _, _, _, _, _, _, _, _, l1, l2⟩ := c.def_ 31 (d := ⟨("_law_is_doubtful", none), "_law_is_doubtful", "_law_is_doubtful", defArgs s_ldoubtful, defBody s_ldoubtful, defScope s_ldoubtful⟩) rfl
  have F := fun_mk (st := s_ldoubtful) l1 l2 (He.keep_ok (c.fact 63 (f := .keep "_law_is_doubtful") rfl))
  exact ⟨_, _, F, He.glo_ok X G (c.fact 62 (f := .glo "_law_is_doubtful") rfl), F.binds fun _ _ _ _ _ _ us hl => match us, hl with | [_, _, _], _ => rfl⟩
theorem e_law_flood (c : He.SaysE hFa hFn K) (X : K.In h) (G : h.Ns mainGlobals mg) : HasFn K mg "_law_flood" s_lflood ["_law_parts", "_law_lot"] := by
  obtain ⟨_, _, _, _, _, _, _, _, _, l1, l2⟩ := c.def_ 32 (d := ⟨("_law_flood", none), "_law_flood", "_law_flood", defArgs s_lflood, defBody s_lflood, defScope s_lflood⟩) rfl
  have F := fun_mk (st := s_lflood) l1 l2 (He.keep_ok (c.fact 65 (f := .keep "_law_flood") rfl))
  exact ⟨_, _, F, He.glo_ok X G (c.fact 64 (f := .glo "_law_flood") rfl), F.binds fun _ _ _ _ _ _ us hl => match us, hl with | [_, _], _ => rfl⟩
theorem e_law_bent (c : He.SaysE hFa hFn K) (X : K.In h) (G : h.Ns mainGlobals mg) : HasFn K mg "_law_bent" s_lbent ["_law_hand_here", "_law_thing", "_law_deeds"] := by
  obtain ⟨_, _, _, _, _, _, _, _, _, l1, l2⟩ := c.def_ 33 (d := ⟨("_law_bent", none), "_law_bent", "_law_bent", defArgs s_lbent, defBody s_lbent, defScope s_lbent⟩) rfl
  have F := fun_mk (st := s_lbent) l1 l2 (He.keep_ok (c.fact 67 (f := .keep "_law_bent") rfl))
  exact ⟨_, _, F, He.glo_ok X G (c.fact 66 (f := .glo "_law_bent") rfl), F.binds fun _ _ _ _ _ _ us hl => match us, hl with | [_, _, _], _ => rfl⟩
theorem e_law_lots (c : He.SaysE hFa hFn K) (X : K.In h) (G : h.Ns mainGlobals mg) : HasFn K mg "_law_lots" s_llots ["_law_hand_here", "_law_many"] := by
  obtain ⟨_, _, _, _, _, _, _, _, _, l1, l2⟩ := c.def_ 34 (d := ⟨("_law_lots", none), "_law_lots", "_law_lots", defArgs s_llots, defBody s_llots, defScope s_llots⟩) rfl
  have F := fun_mk (st := s_llots) l1 l2 (He.keep_ok (c.fact 69 (f := .keep "_law_lots") rfl))
  exact ⟨_, _, F, He.glo_ok X G (c.fact 68 (f := .glo "_law_lots") rfl), F.binds fun _ _ _ _ _ _ us hl => match us, hl with | [_, _], _ => rfl⟩
theorem e_law_great_right (c : He.SaysE hFa hFn K) (X : K.In h) (G : h.Ns mainGlobals mg) : HasFn K mg "_law_great_right" s_lgreat ["_law_hand_here"] := by
  obtain ⟨_, _, _, _, _, _, _, _, _, l1, l2⟩ := c.def_ 35 (d := ⟨("_law_great_right", none), "_law_great_right", "_law_great_right", defArgs s_lgreat, defBody s_lgreat, defScope s_lgreat⟩) rfl
  have F := fun_mk (st := s_lgreat) l1 l2 (He.keep_ok (c.fact 71 (f := .keep "_law_great_right") rfl))
  exact ⟨_, _, F, He.glo_ok X G (c.fact 70 (f := .glo "_law_great_right") rfl), F.binds fun _ _ _ _ _ _ us hl => match us, hl with | [_], _ => rfl⟩
theorem e_law (c : He.SaysE hFa hFn K) (X : K.In h) (G : h.Ns mainGlobals mg) : HasFn K mg "law" s_law ["_law_script"] := by
  obtain ⟨_, _, _, _, _, _, _, _, _, l1, l2⟩ := c.def_ 36 (d := ⟨("law", none), "law", "law", defArgs s_law, defBody s_law, defScope s_law⟩) rfl
  have F := fun_mk (st := s_law) l1 l2 (He.keep_ok (c.fact 73 (f := .keep "law") rfl))
  exact ⟨_, _, F, He.glo_ok X G (c.fact 72 (f := .glo "law") rfl), F.binds fun _ _ _ _ _ _ us hl => match us, hl with | [_], _ => rfl⟩
theorem e_Standing (c : He.SaysE hFa hFn K) (X : K.In h) (G : h.Ns mainGlobals mg) : HasCls K mg "Standing" "Standing.__init__" (He.ga K "Standing") s_standing ["self", "cells", "head", "deeds"] := by
  obtain ⟨_, _, _, _, _, _, _, _, _, l1, l2⟩ := c.def_ 37 (d := ⟨("Standing", some "__init__"), "__init__", "Standing.__init__", defArgs s_standing, defBody s_standing, defScope s_standing⟩) rfl
  have F := fun_mk (st := s_standing) l1 l2 (He.meth_ok (c.fact 110 (f := .meth "Standing" "__init__") rfl)).kp
  exact ⟨_, _, F, He.mkr_ok (c.fact 111 (f := .mkr "Standing") rfl), He.glo_ok X G (c.fact 74 (f := .glo "Standing") rfl), F.binds fun _ _ _ _ _ _ us hl => match us, hl with | [_, _, _, _], _ => rfl⟩
theorem e_Doubt (c : He.SaysE hFa hFn K) (X : K.In h) (G : h.Ns mainGlobals mg) : HasCls K mg "Doubt" "Doubt.__init__" (He.ga K "Doubt") s_doubt ["self", "standing", "lot"] := by
  obtain ⟨_, _, _, _, _, _, _, _, _, l1, l2⟩ := c.def_ 38 (d := ⟨("Doubt", some "__init__"), "__init__", "Doubt.__init__", defArgs s_doubt, defBody s_doubt, defScope s_doubt⟩) rfl
  have F := fun_mk (st := s_doubt) l1 l2 (He.meth_ok (c.fact 109 (f := .meth "Doubt" "__init__") rfl)).kp
  exact ⟨_, _, F, He.mkr_ok (c.fact 112 (f := .mkr "Doubt") rfl), He.glo_ok X G (c.fact 75 (f := .glo "Doubt") rfl), F.binds fun _ _ _ _ _ _ us hl => match us, hl with | [_, _, _], _ => rfl⟩
theorem e_m_fits (c : He.SaysE hFa hFn K) : HasMth K "fits" "Doubt.fits" (He.ga K "Doubt") s_fits ["self"] := by
  obtain ⟨_, _, _, _, _, _, _, _, _, l1, l2⟩ := c.def_ 39 (d := ⟨("Doubt", some "fits"), "fits", "Doubt.fits", defArgs s_fits, defBody s_fits, defScope s_fits⟩) rfl
  have M := He.meth_ok (c.fact 106 (f := .meth "Doubt" "fits") rfl)
  have F := fun_mk (st := s_fits) l1 l2 M.kp
  exact ⟨_, _, F, M, F.binds fun _ _ _ _ _ _ us hl => match us, hl with | [_], _ => rfl⟩
theorem e_m_go (c : He.SaysE hFa hFn K) : HasMth K "go" "Doubt.go" (He.ga K "Doubt") s_go ["self", "deed"] := by
  obtain ⟨_, _, _, _, _, _, _, _, _, l1, l2⟩ := c.def_ 40 (d := ⟨("Doubt", some "go"), "go", "Doubt.go", defArgs s_go, defBody s_go, defScope s_go⟩) rfl
  have M := He.meth_ok (c.fact 107 (f := .meth "Doubt" "go") rfl)
  have F := fun_mk (st := s_go) l1 l2 M.kp
  exact ⟨_, _, F, M, F.binds fun _ _ _ _ _ _ us hl => match us, hl with | [_, _], _ => rfl⟩
theorem e_m_step (c : He.SaysE hFa hFn K) : HasMth K "step" "Doubt.step" (He.ga K "Doubt") s_step ["self", "thing"] := by
  obtain ⟨_, _, _, _, _, _, _, _, _, l1, l2⟩ := c.def_ 41 (d := ⟨("Doubt", some "step"), "step", "Doubt.step", defArgs s_step, defBody s_step, defScope s_step⟩) rfl
  have M := He.meth_ok (c.fact 108 (f := .meth "Doubt" "step") rfl)
  have F := fun_mk (st := s_step) l1 l2 M.kp
  exact ⟨_, _, F, M, F.binds fun _ _ _ _ _ _ us hl => match us, hl with | [_, _], _ => rfl⟩
theorem e_txt (c : He.SaysE hFa hFn K) (X : K.In h) (G : h.Ns mainGlobals mg) : Txt K mg (He.ga K "Standing") (He.ga K "Doubt") where
  B := ⟨He.free_ok X G (c.fact 76 (f := .free "isinstance") rfl), He.free_ok X G (c.fact 77 (f := .free "int") rfl), He.free_ok X G (c.fact 78 (f := .free "bool") rfl), He.free_ok X G (c.fact 79 (f := .free "tuple") rfl), He.free_ok X G (c.fact 80 (f := .free "str") rfl), He.free_ok X G (c.fact 81 (f := .free "len") rfl), He.free_ok X G (c.fact 82 (f := .free "enumerate") rfl), He.free_ok X G (c.fact 83 (f := .free "list") rfl), He.free_ok X G (c.fact 84 (f := .free "sorted") rfl), He.free_ok X G (c.fact 85 (f := .free "range") rfl), He.free_ok X G (c.fact 86 (f := .free "any") rfl), He.free_ok X G (c.fact 87 (f := .free "all") rfl), He.free_ok X G (c.fact 88 (f := .free "sum") rfl), He.free_ok X G (c.fact 89 (f := .free "min") rfl), He.free_ok X G (c.fact 90 (f := .free "max") rfl), He.free_ok X G (c.fact 91 (f := .free "dict") rfl), He.free_ok X G (c.fact 92 (f := .free "abs") rfl), He.free_ok X G (c.fact 93 (f := .free "repr") rfl)⟩
  T := ⟨He.cls_ok (c.fact 97 (f := .cls "Standing") rfl), He.noat_ok (c.fact 99 (f := .noat "Standing" "cells") rfl), He.noat_ok (c.fact 100 (f := .noat "Standing" "head") rfl), He.noat_ok (c.fact 101 (f := .noat "Standing" "deeds") rfl), He.glo_ok X G (c.fact 74 (f := .glo "Standing") rfl)⟩
  D := ⟨He.cls_ok (c.fact 98 (f := .cls "Doubt") rfl), He.noat_ok (c.fact 102 (f := .noat "Doubt" "cells") rfl), He.noat_ok (c.fact 103 (f := .noat "Doubt" "head") rfl), He.noat_ok (c.fact 104 (f := .noat "Doubt" "rest") rfl), He.noat_ok (c.fact 105 (f := .noat "Doubt" "firsts") rfl)⟩
  f_is_integer := e_is_integer c X G
  f_is_within := e_is_within c X G
  f_is_number := e_is_number c X G
  f_is_pair := e_is_pair c X G
  f_is_triple := e_is_triple c X G
  f_is_lot := e_is_lot c X G
  f_is_first_behind := e_is_first_behind c X G
  f_is_waits := e_is_waits c X G
  f_first_wrong := e_first_wrong c X G
  f_waited_for := e_waited_for c X G
  f_first_in_ring := e_first_in_ring c X G
  f_is_too_far := e_is_too_far c X G
  f_waits_of := e_waits_of c X G
  f_loads_of := e_loads_of c X G
  f_too_heavy := e_too_heavy c X G
  f_easy := e_easy c X G
  f_is_easy := e_is_easy c X G
  f_check_doubt := e_check_doubt c X G
  f_doubt_sum := e_doubt_sum c X G
  f_doubtful := e_doubtful c X G
  f_is_course_beside := e_is_course_beside c X G
  f_is_doubtful := e_is_doubtful c X G
  f_law_hand := e_law_hand c X G
  f_law_draw := e_law_draw c X G
  f_law_any := e_law_any c X G
  f_law_is_int := e_law_is_int c X G
  f_law_flag := e_law_flag c X G
  f_law_deep := e_law_deep c X G
  f_law_standing := e_law_standing c X G
  f_law_sums := e_law_sums c X G
  f_law_is_course := e_law_is_course c X G
  f_law_is_doubtful := e_law_is_doubtful c X G
  f_law_flood := e_law_flood c X G
  f_law_bent := e_law_bent c X G
  f_law_lots := e_law_lots c X G
  f_law_great_right := e_law_great_right c X G
  k_Standing := e_Standing c X G
  k_Doubt := e_Doubt c X G
  m_fits := e_m_fits c
  m_go := e_m_go c
  m_step := e_m_step c
  mC := He.int_ok X G (c.fact 94 (f := .int "MOST_CELLS" (10 ^ 30)) rfl)
  mH := He.int_ok X G (c.fact 95 (f := .int "MOST_HEAD" (10 ^ 40)) rfl)
  mD := He.int_ok X G (c.fact 96 (f := .int "MOST_DEEDS" 200) rfl)
end
theorem e_end {P : Program} {w : World} {K : PySem.W.Frag} {mg mb : Str → Option Value} {fa a : Addr} {s0 : Shared} {vs : List Value} {ns : List Int} (c : He.SaysE hFa hFn K) (X : K.In s0.heap) (n1 : s0.heap.Ns mainGlobals mg) (n2 : s0.heap.Ns builtinsNs mb) (n3 : ∀ x : Str, x ≠ "__name__" → mb x = bootBuiltins x) (n4 : s0.heap.NoLimit) (n5 : s0.gens = #[]) (hm : mg ("law" : Str) = some (.ref fa))
    (hs : s0.heap.get? a = some { cls := .type "list", data := .seq vs.toArray }) (hi : IntsAre vs ns) (hl : ns.length ≤ 63) : codeAny (model P w) callerA (.call (.ref fa) ⟨[.ref a], []⟩) (fun r s' => r = .ok (.ret (.bool true)) ∧ OldK s0.heap s'.heap ∧ s'.os = s0.os ∧ AllBare s'.gens) s0 := by
  obtain ⟨f, fd, F, g, b⟩ := e_law c X n1
  have e := hm.symm.trans g
  cases e
  exact top_law (k := 8) F sc_law X n1 n2 n3 n4 n5 hs hi (Nat.le_trans hl (by decide)) ⟨rfl, by decide, by decide⟩ (b s0 [.ref a] X rfl) (by decide) fun base cdv H _ _ hr => whole (e_txt c X n1) hl hr
end K33
open PySem PySem.W PySem.Calls PyProof.Rows
set_option maxHeartbeats 0 in
theorem PySem.Challenge.cw_ringclaims_k33_whole_doubt_by_floods_holds : PySem.Challenge.rw_ringclaims_k33_whole_doubt_by_floods.Holds := by
  w_on; o_law
  refine HandSHeadRun.head_any (r := K33.hRow) (q := view K33.hRow.prog [50]) (H := K33.hHook) (ob := K33.hOb) (M := 4000) (loose := K33.hNames) (d := HandSHeadRun.topDef K33.hRow.prog 50) (kwd := []) K33.hOb_eq (by kernel_rfl) (fun s => by kernel_rfl) K33.hRun (by kernel_rfl) (by kernel_rfl) (by kernel_rfl) (by rfl) (by first | assumption | decide +kernel) (by decide +kernel) ⟨rfl, rfl, rfl, rfl, rfl, by decide +kernel⟩ ?hw ?hc
  case hw => w_witness2
  case hc =>
    refine Att.attach_callB (l := PySem.Challenge.rw_ringclaims_k33_whole_doubt_by_floods) (n := 63) rfl (by kernel_rfl) fun w s0 s1 mg mb fa o pm cd doc a vs ns G Y ho hd hcd hmg hobj hints hlen hbits hg => ?_
    obtain ⟨K, KX, c⟩ := Y
    have en : (HandSHeadRun.topDef K33.hRow.prog 50).name = ("law" : PySem.Str) := by kernel_rfl
    rw [en] at hmg
    exact K33.e_end c KX G.T.g G.T.b G.T.builtins G.T.nolimit hg hmg hobj hints hlen
