import PyProof.Rows.All
import Wide.All
import OpenK.AllK
import Wide.FinOn
import PyProof.EqAt
import PyProof.EqKinds
import PyProof.TupleCall
import HandS.Base
import HandS.Call
import HandS.List
import HandS.Comp
import HandS.Iter
import HandS.Walk
import HandS.Exc
import HandS.Words
import HandS.WordsExc
import HandS.Wide
import HandS.Lambda
import HandS.HeadHook1
import HandS.TupAny
import HandS.IsInst
import HandS.Text
import HandS.TupMul
import PyProof.SumWalkG
import PyProof.SumAny
import KE.KTryMore
import HandS.ExcInit
import HandS.ExcField
import HandS.HotCalls
import HandS.TryMany
import HandS.Defaults
import HandS.More
import HandS.Star
import KE.GoesMore
import HandS.Zip0
import KE.GoesZip
import KE.GoesEnum
import HandS.Zip
import HandS.NoneIn
import HandS.Style
import HandS.Codes
import HandS.HeadEnd
import HandS.HeadHook4
import HandS.MakeKw
import HandS.Head0
import HandS.Head1
import PySem.Challenge.RW_endlessnets_k03_vectors_and_matrices
import HandS.Head2
import HandS.HeadHook2
import HandS.HeadHook3
import HandS.HeadWalk
import KE.KStateDown
import HandS.Ends
set_option Elab.async false
set_option linter.all false
set_option maxRecDepth 100000
set_option maxHeartbeats 4000000
namespace Z
open PySem PySem.Spec PyProof.Rows L2

/-! ### deep data -/
inductive D where
  | non | bl (b : Bool) | int (i : Int) | str (x : Str)
  | tup (ds : List D) | lst (ds : List D)
  | dct (ks : List Key) (ds : List D)
  | obj (C : Addr) (ns : List Str) (ds : List D)
  | scr (ns : List Int)
/-- what an owned place holds -/
inductive DO where
  | lst (ds : List D)
  | frz (ds : List D)
  | brw (ds : List D)
inductive U where
  | d (x : D)
  | o (k : Nat)
  | t (us : List U)
  | l (us : List U)

mutual
inductive At (K : PySem.W.Frag) (M : Addr → Prop) (H : Hp) : V → D → Prop
  | non : At K M H .non .non
  | bl (b : Bool) : At K M H (.bl b) (.bl b)
  | int (i : Int) : At K M H (.int i) (.int i)
  | str (x : Str) : At K M H (.str x) (.str x)
  | tup {a : Addr} {vs : List V} {ds : List D} : H a = some (.tup vs) → ¬ M a → Ats K M H vs ds → At K M H (.ref a) (.tup ds)
  | lst {a : Addr} {vs : List V} {ds : List D} : H a = some (.lst vs) → ¬ M a → Ats K M H vs ds → At K M H (.ref a) (.lst ds)
  | dct {a : Addr} {kvs : List (Key × V)} {ks : List Key} {ds : List D} : H a = some (.dK kvs) → ¬ M a → kvs.map (·.1) = ks → Ats K M H (kvs.map (·.2)) ds → At K M H (.ref a) (.dct ks ds)
  | obj {a C dx : Addr} {fs : List (Str × V)} {ns : List Str} {ds : List D} : H a = some (.ins C dx fs) → ¬ M a → fs.map (·.1) = ns → Ats K M H (fs.map (·.2)) ds → At K M H (.ref a) (.obj C ns ds)
  | scr {a : Addr} {ns : List Int} : Rd H a (.lst (ns.map V.int)) → ¬ M a → At K M H (.ref a) (.scr ns)
  | scrK {a : Addr} {ns : List Int} : (∀ H', SqL K H' a (ns.map V.int)) → At K M H (.ref a) (.scr ns)
inductive Ats (K : PySem.W.Frag) (M : Addr → Prop) (H : Hp) : List V → List D → Prop
  | nil : Ats K M H [] []
  | cons {v : V} {d : D} {vs : List V} {ds : List D} : At K M H v d → Ats K M H vs ds → Ats K M H (v :: vs) (d :: ds)
end
section
variable {K : PySem.W.Frag} {M M' : Addr → Prop} {H H' : Hp}
mutual
theorem At.imp (h : ∀ a o, ¬ M a → H a = some o → (∀ ps, o ≠ .tbl ps) → H' a = some o ∧ ¬ M' a) : ∀ {v : V} {d : D}, At K M H v d → At K M' H' v d
  | _, _, .non => .non
  | _, _, .bl b => .bl b
  | _, _, .int i => .int i
  | _, _, .str x => .str x
  | _, _, .tup e m r => let ⟨e', m'⟩ := h _ _ m e (fun _ z => by cases z); .tup e' m' (Ats.imp h r)
  | _, _, .lst e m r => let ⟨e', m'⟩ := h _ _ m e (fun _ z => by cases z); .lst e' m' (Ats.imp h r)
  | _, _, .dct e m k r => let ⟨e', m'⟩ := h _ _ m e (fun _ z => by cases z); .dct e' m' k (Ats.imp h r)
  | _, _, .obj e m k r => let ⟨e', m'⟩ := h _ _ m e (fun _ z => by cases z); .obj e' m' k (Ats.imp h r)
  | _, _, .scr (.inl e) m => let ⟨e', m'⟩ := h _ _ m e (fun _ z => by cases z); .scr (.inl e') m'
  | _, _, .scr (.inr ⟨o, e⟩) m => let ⟨e', m'⟩ := h _ _ m e (fun _ z => by cases z); .scr (.inr ⟨o, e'⟩) m'
  | _, _, .scrK e => .scrK e
theorem Ats.imp (h : ∀ a o, ¬ M a → H a = some o → (∀ ps, o ≠ .tbl ps) → H' a = some o ∧ ¬ M' a) : ∀ {vs : List V} {ds : List D}, Ats K M H vs ds → Ats K M' H' vs ds
  | _, _, .nil => .nil
  | _, _, .cons a r => .cons (At.imp h a) (Ats.imp h r)
end
theorem Ats.length : ∀ {vs : List V} {ds : List D}, Ats K M H vs ds → vs.length = ds.length
  | _, _, .nil => rfl
  | _, _, .cons _ r => congrArg (· + 1) (Ats.length r)
theorem Ats.get : ∀ {vs : List V} {ds : List D} {i : Nat} {v : V}, Ats K M H vs ds → vs[i]? = some v → ∃ d, ds[i]? = some d ∧ At K M H v d
  | _, _, _, _, .nil, e => by simp at e
  | _, _, 0, _, .cons a _, e => by simp at e; subst e; exact ⟨_, rfl, a⟩
  | _, _, i + 1, v, .cons _ r, e => by
    obtain ⟨d, h1, h2⟩ := Ats.get (i := i) (v := v) r (by simpa using e)
    exact ⟨d, by simpa using h1, h2⟩
theorem Ats.get' : ∀ {vs : List V} {ds : List D} {i : Nat} {d : D}, Ats K M H vs ds → ds[i]? = some d → ∃ v, vs[i]? = some v ∧ At K M H v d
  | _, _, _, _, .nil, e => by simp at e
  | _, _, 0, _, .cons a _, e => by simp at e; subst e; exact ⟨_, rfl, a⟩
  | _, _, i + 1, v, .cons _ r, e => by
    obtain ⟨d, h1, h2⟩ := Ats.get' (i := i) (d := v) r (by simpa using e)
    exact ⟨d, by simpa using h1, h2⟩
theorem Ats.append : ∀ {vs ws : List V} {ds es : List D}, Ats K M H vs ds → Ats K M H ws es → Ats K M H (vs ++ ws) (ds ++ es)
  | _, _, _, _, .nil, s => s
  | _, _, _, _, .cons a r, s => .cons a (Ats.append r s)
theorem Ats.take : ∀ {vs : List V} {ds : List D} (n : Nat), Ats K M H vs ds → Ats K M H (vs.take n) (ds.take n)
  | _, _, 0, _ => .nil
  | _, _, _ + 1, .nil => .nil
  | _, _, n + 1, .cons a r => .cons a (Ats.take n r)
theorem Ats.drop : ∀ {vs : List V} {ds : List D} (n : Nat), Ats K M H vs ds → Ats K M H (vs.drop n) (ds.drop n)
  | _, _, 0, r => r
  | _, _, _ + 1, .nil => .nil
  | _, _, n + 1, .cons _ r => Ats.drop n r
theorem Ats.set {v : V} {d : D} (a : At K M H v d) : ∀ {vs : List V} {ds : List D} (i : Nat), Ats K M H vs ds → Ats K M H (vs.set i v) (ds.set i d)
  | _, _, _, .nil => .nil
  | _, _, 0, .cons _ r => .cons a r
  | _, _, i + 1, .cons b r => .cons b (Ats.set a i r)
theorem Ats.reverse : ∀ {vs : List V} {ds : List D}, Ats K M H vs ds → Ats K M H vs.reverse ds.reverse
  | _, _, .nil => .nil
  | _, _, .cons a r => by
    rw [List.reverse_cons, List.reverse_cons]
    exact (Ats.reverse r).append (.cons a .nil)
theorem Ats.ints : ∀ (ns : List Int), Ats K M H (ns.map V.int) (ns.map D.int)
  | [] => .nil
  | n :: ns => .cons (.int n) (Ats.ints ns)
end

/-! ### owned places: α their addresses, O what they hold; B: what callers own -/
def live : DO → Bool
  | .lst _ => true
  | .frz _ => false
  | .brw _ => true
def hot : DO → Bool
  | .lst _ => true
  | _ => false
theorem hot_live {o : DO} (h : hot o = true) : live o = true := by cases o <;> first | rfl | cases h
/-- the places that may be written here -/
def Ho (α : List Addr) (O : List DO) (a : Addr) : Prop := ∃ (k : Nat) (o : DO), α[k]? = some a ∧ O[k]? = some o ∧ hot o = true
def Ow (α : List Addr) (O : List DO) (a : Addr) : Prop := ∃ (k : Nat) (o : DO), α[k]? = some a ∧ O[k]? = some o ∧ live o = true
def Mu (B : Addr → Prop) (α : List Addr) (O : List DO) (a : Addr) : Prop := B a ∨ Ow α O a
def OAt (K : PySem.W.Frag) (M : Addr → Prop) (H : Hp) (a : Addr) : DO → Prop
  | .lst ds => ∃ vs, H a = some (.lst vs) ∧ Ats K M H vs ds
  | .frz ds => At K M H (.ref a) (.lst ds)
  | .brw ds => ∃ vs, H a = some (.lst vs) ∧ Ats K M H vs ds
theorem Ho.ow {α : List Addr} {O : List DO} {a : Addr} (h : Ho α O a) : Ow α O a := let ⟨k, o, e1, e2, l⟩ := h; ⟨k, o, e1, e2, hot_live l⟩
mutual
inductive AtU (K : PySem.W.Frag) (B : Addr → Prop) (α : List Addr) (O : List DO) (H : Hp) : V → U → Prop
  | d {v : V} {x : D} : At K (Mu B α O) H v x → AtU K B α O H v (.d x)
  | o {k : Nat} {a : Addr} : α[k]? = some a → AtU K B α O H (.ref a) (.o k)
  | t {a : Addr} {vs : List V} {us : List U} : H a = some (.tup vs) → ¬ Mu B α O a → AtUs K B α O H vs us → AtU K B α O H (.ref a) (.t us)
  | l {a : Addr} {vs : List V} {us : List U} : H a = some (.lst vs) → ¬ Mu B α O a → AtUs K B α O H vs us → AtU K B α O H (.ref a) (.l us)
inductive AtUs (K : PySem.W.Frag) (B : Addr → Prop) (α : List Addr) (O : List DO) (H : Hp) : List V → List U → Prop
  | nil : AtUs K B α O H [] []
  | cons {v : V} {u : U} {vs : List V} {us : List U} : AtU K B α O H v u → AtUs K B α O H vs us → AtUs K B α O H (v :: vs) (u :: us)
end
structure Gx where
  K : PySem.W.Frag
  T : List (Addr × Str)
structure Own (G : Gx) (B : Addr → Prop) (α : List Addr) (O : List DO) (H : Hp) : Prop where
  len : α.length = O.length
  nd : α.Nodup
  at_ : ∀ (k : Nat) (a : Addr) (o : DO), α[k]? = some a → O[k]? = some o → OAt G.K (Mu B α O) H a o
  bt : ∀ a, B a → ∃ o, H a = some o
  nb : ∀ a, Ow α O a → ¬ B a
  tabs : LamX.Tabs G.T H
structure Stp (α : List Addr) (O : List DO) (H : Hp) (α' : List Addr) (O' : List DO) (H' : Hp) : Prop where
  pre : ∃ more, α' = α ++ more
  keep : ∀ b o, H b = some o → ¬ Ho α O b → (∀ ps, o ≠ .tbl ps) → H' b = some o
  there : ∀ b, H' b = none → H b = none
  new : ∀ b, Ow α' O' b → Ow α O b ∨ H b = none
  hnew : ∀ b, Ho α' O' b → Ho α O b ∨ H b = none
  fresh : ∀ b, b ∈ α' → b ∈ α ∨ H b = none
section
variable {K : PySem.W.Frag} {G : Gx} {T : List (Addr × Str)} {B : Addr → Prop} {α α' α2 : List Addr} {O O' O2 : List DO} {H H' H2 : Hp}
theorem Stp.refl : Stp α O H α O H := ⟨⟨[], by simp⟩, fun _ _ e _ _ => e, fun _ e => e, fun _ m => .inl m, fun _ m => .inl m, fun _ m => .inl m⟩
theorem Stp.trans (s : Stp α O H α' O' H') (t : Stp α' O' H' α2 O2 H2) : Stp α O H α2 O2 H2 := by
  obtain ⟨m1, e1⟩ := s.pre
  obtain ⟨m2, e2⟩ := t.pre
  refine ⟨⟨m1 ++ m2, by rw [e2, e1, List.append_assoc]⟩, fun b o e m n => ?_, fun b e => s.there b (t.there b e), fun b m => ?_, fun b m => ?_, fun b m => ?_⟩
  · refine t.keep b o (s.keep b o e m n) (fun z => ?_) n
    rcases s.hnew b z with z | z
    · exact m z
    · rw [e] at z; cases z
  · rcases t.new b m with z | z
    · exact s.new b z
    · exact .inr (s.there b z)
  · rcases t.hnew b m with z | z
    · exact s.hnew b z
    · exact .inr (s.there b z)
  · rcases t.fresh b m with z | z
    · exact s.fresh b z
    · exact .inr (s.there b z)
theorem Stp.imp (s : Stp α O H α' O' H') : ∀ a o, ¬ Mu B α O a → H a = some o → (∀ ps, o ≠ .tbl ps) → H' a = some o ∧ ¬ Mu B α' O' a := fun b o m e n =>
  ⟨s.keep b o e (fun z => m (.inr z.ow)) n, fun z => by
    rcases z with z | z
    · exact m (.inl z)
    rcases s.new b z with z | z
    · exact m (.inr z)
    · rw [e] at z; cases z⟩
theorem Stp.at_ (s : Stp α O H α' O' H') {v : V} {d : D} (a : At K (Mu B α O) H v d) : At K (Mu B α' O') H' v d := a.imp s.imp
theorem Stp.ats (s : Stp α O H α' O' H') {vs : List V} {ds : List D} (a : Ats K (Mu B α O) H vs ds) : Ats K (Mu B α' O') H' vs ds := a.imp s.imp
theorem Stp.idx (s : Stp α O H α' O' H') {k : Nat} {a : Addr} (e : α[k]? = some a) : α'[k]? = some a := by
  obtain ⟨m, h⟩ := s.pre
  rw [h, List.getElem?_append_left (List.getElem?_eq_some_iff.mp e).1]
  exact e
mutual
theorem Stp.atU (s : Stp α O H α' O' H') : ∀ {v : V} {u : U}, AtU K B α O H v u → AtU K B α' O' H' v u
  | _, _, .d a => .d (s.at_ a)
  | _, _, .o e => .o (s.idx e)
  | _, _, .t e m r => let ⟨e', m'⟩ := s.imp (B := B) _ _ m e (fun _ z => by cases z); .t e' m' (Stp.atUs s r)
  | _, _, .l e m r => let ⟨e', m'⟩ := s.imp (B := B) _ _ m e (fun _ z => by cases z); .l e' m' (Stp.atUs s r)
theorem Stp.atUs (s : Stp α O H α' O' H') : ∀ {vs : List V} {us : List U}, AtUs K B α O H vs us → AtUs K B α' O' H' vs us
  | _, _, .nil => .nil
  | _, _, .cons a r => .cons (Stp.atU s a) (Stp.atUs s r)
end
theorem AtUs.length : ∀ {vs : List V} {us : List U}, AtUs K B α O H vs us → vs.length = us.length
  | _, _, .nil => rfl
  | _, _, .cons _ r => congrArg (· + 1) (AtUs.length r)
theorem Ow.some (w : Own G B α O H) {a : Addr} (m : Ow α O a) : ∃ o, H a = some o := by
  obtain ⟨k, o, e1, e2, l⟩ := m
  have h := w.at_ k a o e1 e2
  cases o with
  | lst ds =>
    obtain ⟨vs, e, _⟩ := h
    exact ⟨_, e⟩
  | brw ds =>
    obtain ⟨vs, e, _⟩ := h
    exact ⟨_, e⟩
  | frz d => cases l
theorem Own.mu_ne (w : Own G B α O H) {p : Addr} (hp : H p = none) : ¬ Mu B α O p := fun m => by
  obtain ⟨o, e⟩ := m.elim (w.bt p) (fun m => m.some w)
  rw [hp] at e; cases e
theorem tabs_keep (t : LamX.Tabs T H) (k : ∀ b o, H b = some o → (∃ ps, o = .tbl ps) ∨ (∃ φ, o = .ext φ) → H' b = some o) : LamX.Tabs T H' := fun p hp => by
  obtain ⟨ps, h1, h2, h3⟩ := t p hp
  refine ⟨ps, k _ _ h1 (.inl ⟨_, rfl⟩), h2, fun pos cv hc => ?_⟩
  obtain ⟨c, e1, e2⟩ := h3 pos cv hc
  exact ⟨c, e1, k _ _ e2 (.inr ⟨_, rfl⟩)⟩
/-- a new object that nobody owns -/
theorem stp_new {p : Addr} {o : HO} (hp : H p = none) : Stp α O H α O (upd H p o) :=
  ⟨⟨[], by simp⟩, fun b u e _ _ => by rw [upd_ne (ne_of_none e hp)]; exact e, fun b e => by
    by_cases hb : b = p
    · rw [hb, upd_same] at e; cases e
    · rw [upd_ne hb] at e; exact e, fun b m => .inl m, fun b m => .inl m, fun b m => .inl m⟩
theorem OAt.stp (s : Stp α O H α' O' H') {a : Addr} {o : DO} (h : OAt K (Mu B α O) H a o) (hm : live o = true → H' a = H a) : OAt K (Mu B α' O') H' a o := by
  cases o with
  | lst ds =>
    obtain ⟨vs, e, r⟩ := h
    exact ⟨vs, (hm rfl).trans e, s.ats r⟩
  | brw ds =>
    obtain ⟨vs, e, r⟩ := h
    exact ⟨vs, (hm rfl).trans e, s.ats r⟩
  | frz d => exact s.at_ h
theorem bt_new (h : ∀ a, B a → ∃ o, H a = some o) {p : Addr} {o : HO} : ∀ a, B a → ∃ u, upd H p o a = some u := fun a m => by
  by_cases e : a = p
  · exact ⟨o, by rw [e, upd_same]⟩
  · obtain ⟨u, q⟩ := h a m
    exact ⟨u, by rw [upd_ne e]; exact q⟩
theorem own_new (w : Own G B α O H) {p : Addr} {o : HO} (hp : H p = none) : Own G B α O (upd H p o) := by
  refine ⟨w.len, w.nd, fun k a u e1 e2 => (w.at_ k a u e1 e2).stp (stp_new hp) fun l => ?_, bt_new w.bt, w.nb, tabs_keep w.tabs fun b u e _ => by rw [upd_ne (ne_of_none e hp)]; exact e⟩
  obtain ⟨q, e⟩ := Ow.some w ⟨k, u, e1, e2, l⟩
  exact upd_ne (ne_of_none e hp)
theorem At.tupNew (w : Own G B α O H) {p : Addr} {vs : List V} {ds : List D} (hp : H p = none) (r : Ats G.K (Mu B α O) H vs ds) : At G.K (Mu B α O) (upd H p (.tup vs)) (.ref p) (.tup ds) :=
  .tup upd_same (w.mu_ne hp) ((stp_new hp).ats r)
theorem At.lstNew (w : Own G B α O H) {p : Addr} {vs : List V} {ds : List D} (hp : H p = none) (r : Ats G.K (Mu B α O) H vs ds) : At G.K (Mu B α O) (upd H p (.lst vs)) (.ref p) (.lst ds) :=
  .lst upd_same (w.mu_ne hp) ((stp_new hp).ats r)
/-- an owned list is written -/
theorem ow_set' {k : Nat} {o o' : DO} (e : O[k]? = some o) (l : live o = true) {b : Addr} (m : Ow α (O.set k o') b) : Ow α O b := by
  obtain ⟨j, u, e1, e2, l2⟩ := m
  by_cases hj : j = k
  · subst hj
    exact ⟨j, o, e1, e, l⟩
  · rw [List.getElem?_set_ne (Ne.symm hj)] at e2
    exact ⟨j, u, e1, e2, l2⟩
theorem ho_set' {k : Nat} {o o' : DO} (e : O[k]? = some o) (l : hot o' = true → hot o = true) {b : Addr} (m : Ho α (O.set k o') b) : Ho α O b := by
  obtain ⟨j, u, e1, e2, l2⟩ := m
  by_cases hj : j = k
  · subst hj
    rw [List.getElem?_set_self (List.getElem?_eq_some_iff.mp e).1] at e2
    cases e2
    exact ⟨j, o, e1, e, l l2⟩
  · rw [List.getElem?_set_ne (Ne.symm hj)] at e2
    exact ⟨j, u, e1, e2, l2⟩
theorem stp_set {k : Nat} {a : Addr} {o : DO} {ds' : List D} {vs : List V} (e1 : α[k]? = some a) (e2 : O[k]? = some o) (l : hot o = true) : Stp α O H α (O.set k (.lst ds')) (upd H a (.lst vs)) := by
  have mu : Ho α O a := ⟨k, _, e1, e2, l⟩
  refine ⟨⟨[], by simp⟩, fun b u e m _ => ?_, fun b e => ?_, fun b m => .inl (ow_set' e2 (hot_live l) m), fun b m => .inl (ho_set' e2 (fun _ => l) m), fun b m => .inl m⟩
  · rw [upd_ne (fun z : b = a => m (by rw [z]; exact mu))]; exact e
  · by_cases hb : b = a
    · rw [hb, upd_same] at e; cases e
    · rw [upd_ne hb] at e; exact e
theorem nodup_at {l : List Addr} (nd : l.Nodup) {i j : Nat} {a : Addr} (h1 : l[i]? = some a) (h2 : l[j]? = some a) : i = j := by
  obtain ⟨b1, e1⟩ := List.getElem?_eq_some_iff.mp h1
  obtain ⟨b2, e2⟩ := List.getElem?_eq_some_iff.mp h2
  exact (List.getElem_inj nd).mp (e1.trans e2.symm)
theorem own_set (w : Own G B α O H) {k : Nat} {a : Addr} {ds ds' : List D} {vs : List V} (e1 : α[k]? = some a) (e2 : O[k]? = some (.lst ds)) (r : Ats G.K (Mu B α O) H vs ds') : Own G B α (O.set k (.lst ds')) (upd H a (.lst vs)) := by
  obtain ⟨vs0, h0, _⟩ := w.at_ k a _ e1 e2
  have s : Stp α O H α (O.set k (.lst ds')) (upd H a (.lst vs)) := stp_set e1 e2 rfl
  refine ⟨by rw [List.length_set]; exact w.len, w.nd, fun j b u f1 f2 => ?_, bt_new w.bt, fun b m => w.nb b (ow_set' e2 rfl m), tabs_keep w.tabs fun b u e z => ?_⟩
  · by_cases hj : j = k
    · subst hj
      rw [e1] at f1; cases f1
      rw [List.getElem?_set_self (List.getElem?_eq_some_iff.mp e2).1] at f2
      cases f2
      exact ⟨vs, upd_same, s.ats r⟩
    · rw [List.getElem?_set_ne (Ne.symm hj)] at f2
      refine (w.at_ j b u f1 f2).stp s fun l => upd_ne fun z => hj (nodup_at w.nd (z ▸ f1) e1)
  · refine (upd_ne fun q => ?_).trans e
    rw [q, h0] at e
    cases e
    rcases z with ⟨_, z⟩ | ⟨_, z⟩ <;> cases z
/-- a new owned list -/
theorem get_snoc {β : Type} {l : List β} {x : β} {j : Nat} {b : β} (h : (l ++ [x])[j]? = some b) : (l[j]? = some b) ∨ (j = l.length ∧ b = x) := by
  by_cases hj : j < l.length
  · rw [List.getElem?_append_left hj] at h; exact .inl h
  · rw [List.getElem?_append_right (by omega)] at h
    obtain ⟨h1, h2⟩ := List.getElem?_eq_some_iff.mp h
    have : j - l.length = 0 := by simpa using h1
    refine .inr ⟨by omega, ?_⟩
    rw [← h2]
    simp [this]
theorem ow_snoc' (w : Own G B α O H) {p : Addr} {o : DO} {b : Addr} (m : Ow (α ++ [p]) (O ++ [o]) b) : Ow α O b ∨ b = p := by
  obtain ⟨j, u, e1, e2, l⟩ := m
  rcases get_snoc e1 with e1 | ⟨e1, eb⟩
  · rcases get_snoc e2 with e2 | ⟨e2, _⟩
    · exact .inl ⟨j, u, e1, e2, l⟩
    · exfalso
      have := (List.getElem?_eq_some_iff.mp e1).1
      rw [w.len] at this
      omega
  · exact .inr eb
theorem ho_snoc' (w : Own G B α O H) {p : Addr} {o : DO} {b : Addr} (m : Ho (α ++ [p]) (O ++ [o]) b) : Ho α O b ∨ b = p := by
  obtain ⟨j, u, e1, e2, l⟩ := m
  rcases get_snoc e1 with e1 | ⟨e1, eb⟩
  · rcases get_snoc e2 with e2 | ⟨e2, _⟩
    · exact .inl ⟨j, u, e1, e2, l⟩
    · exfalso
      have := (List.getElem?_eq_some_iff.mp e1).1
      rw [w.len] at this
      omega
  · exact .inr eb
theorem stp_own (w : Own G B α O H) {p : Addr} {ds : List D} {vs : List V} (hp : H p = none) : Stp α O H (α ++ [p]) (O ++ [.lst ds]) (upd H p (.lst vs)) :=
  ⟨⟨[p], rfl⟩, fun b u e _ _ => by rw [upd_ne (ne_of_none e hp)]; exact e, fun b e => by
    by_cases hb : b = p
    · rw [hb, upd_same] at e; cases e
    · rw [upd_ne hb] at e; exact e, fun b m => by
    rcases ow_snoc' w m with m | rfl
    · exact .inl m
    · exact .inr hp, fun b m => by
    rcases ho_snoc' w m with m | rfl
    · exact .inl m
    · exact .inr hp, fun b m => by
    rcases List.mem_append.mp m with m | m
    · exact .inl m
    · exact .inr (by rw [List.mem_singleton.mp m]; exact hp)⟩
theorem own_fresh (w : Own G B α O H) {p : Addr} (hp : H p = none) : p ∉ α := fun hm => by
  obtain ⟨k, hk, e⟩ := List.mem_iff_getElem.mp hm
  have ek : α[k]? = some p := by rw [List.getElem?_eq_getElem hk, e]
  have hk2 : k < O.length := by rw [← w.len]; exact hk
  have h := w.at_ k p O[k] ek (List.getElem?_eq_getElem hk2)
  cases q : O[k] with
  | lst es =>
    rw [q] at h
    obtain ⟨_, e2, _⟩ := h
    rw [hp] at e2; cases e2
  | brw es =>
    rw [q] at h
    obtain ⟨_, e2, _⟩ := h
    rw [hp] at e2; cases e2
  | frz d =>
    rw [q] at h
    have h2 : At G.K (Mu B α O) H (.ref p) (.lst d) := h
    cases h2 with
    | lst e _ _ => rw [hp] at e; cases e
theorem own_own (w : Own G B α O H) {p : Addr} {ds : List D} {vs : List V} (hp : H p = none) (r : Ats G.K (Mu B α O) H vs ds) : Own G B (α ++ [p]) (O ++ [.lst ds]) (upd H p (.lst vs)) := by
  have s := stp_own (ds := ds) (vs := vs) w hp
  have np := own_fresh w hp
  refine ⟨by simp [w.len], ?_, fun j b u f1 f2 => ?_, bt_new w.bt, fun b m => (ow_snoc' w m).elim (w.nb b) (fun z hb => w.mu_ne hp (.inl (z ▸ hb))), tabs_keep w.tabs fun b u e _ => by rw [upd_ne (ne_of_none e hp)]; exact e⟩
  · rw [List.nodup_append]
    refine ⟨w.nd, by simp, fun a ha b hb => ?_⟩
    rw [List.mem_singleton.mp hb]
    exact fun z => np (z ▸ ha)
  · rcases get_snoc f2 with f2 | ⟨f2, rfl⟩
    · rcases get_snoc f1 with f1 | ⟨f1, _⟩
      · refine (w.at_ j b u f1 f2).stp s fun l => ?_
        obtain ⟨q, e⟩ := Ow.some w ⟨j, u, f1, f2, l⟩
        exact upd_ne (ne_of_none e hp)
      · exfalso
        have := (List.getElem?_eq_some_iff.mp f2).1
        rw [← w.len] at this
        omega
    · rcases get_snoc f1 with f1 | ⟨_, rfl⟩
      · exfalso
        have := (List.getElem?_eq_some_iff.mp f1).1
        rw [w.len] at this
        omega
      · exact ⟨vs, upd_same, s.ats r⟩
theorem atU_own (w : Own G B α O H) {p : Addr} {O' : List DO} {H' : Hp} : AtU G.K B (α ++ [p]) O' H' (.ref p) (.o O.length) :=
  .o (by rw [← w.len]; simp)
/-- an owned list is owned no longer -/
theorem stp_frz {k : Nat} {o : DO} {d : List D} (e2 : O[k]? = some o) (l : live o = true) : Stp α O H α (O.set k (.frz d)) H :=
  ⟨⟨[], by simp⟩, fun b u e _ _ => e, fun b e => e, fun b m => .inl (ow_set' e2 l m), fun b m => .inl (ho_set' e2 (fun z => by cases z) m), fun b m => .inl m⟩
theorem own_frz (w : Own G B α O H) {k : Nat} {ds : List D} (e2 : O[k]? = some (.lst ds)) : Own G B α (O.set k (.frz ds)) H := by
  have s : Stp α O H α (O.set k (.frz ds)) H := stp_frz e2 rfl
  refine ⟨by rw [List.length_set]; exact w.len, w.nd, fun j b u f1 f2 => ?_, w.bt, fun b m => w.nb b (ow_set' e2 rfl m), w.tabs⟩
  by_cases hj : j = k
  · subst hj
    rw [List.getElem?_set_self (List.getElem?_eq_some_iff.mp e2).1] at f2
    cases f2
    obtain ⟨vs, h, r⟩ := w.at_ j b _ f1 e2
    refine .lst h (fun m => ?_) (s.ats r)
    rcases m with m | m
    · exact w.nb b ⟨j, _, f1, e2, rfl⟩ m
    obtain ⟨i, u, g1, g2, l⟩ := m
    have := nodup_at w.nd g1 f1
    subst this
    rw [List.getElem?_set_self (List.getElem?_eq_some_iff.mp e2).1] at g2
    cases g2
    cases l
  · rw [List.getElem?_set_ne (Ne.symm hj)] at f2
    exact (w.at_ j b u f1 f2).stp s fun _ => rfl
/-- the first places alone -/
theorem take_some {β : Type} {l : List β} {n j : Nat} {b : β} (h : (l.take n)[j]? = some b) : l[j]? = some b := by
  rw [List.getElem?_take] at h
  split at h
  · exact h
  · cases h
theorem ow_take {n : Nat} {b : Addr} (m : Ow (α.take n) (O.take n) b) : Ow α O b := by
  obtain ⟨j, u, e1, e2, l⟩ := m
  exact ⟨j, u, take_some e1, take_some e2, l⟩
theorem ho_take {n : Nat} {b : Addr} (m : Ho (α.take n) (O.take n) b) : Ho α O b := by
  obtain ⟨j, u, e1, e2, l⟩ := m
  exact ⟨j, u, take_some e1, take_some e2, l⟩
theorem At.less {M M' : Addr → Prop} (h : ∀ a, M' a → M a) {v : V} {d : D} (a : At K M H v d) : At K M' H v d := a.imp fun b o m e _ => ⟨e, fun z => m (h b z)⟩
theorem Ats.less {M M' : Addr → Prop} (h : ∀ a, M' a → M a) {vs : List V} {ds : List D} (a : Ats K M H vs ds) : Ats K M' H vs ds := a.imp fun b o m e _ => ⟨e, fun z => m (h b z)⟩
theorem OAt.less {M M' : Addr → Prop} (h : ∀ a, M' a → M a) {a : Addr} {o : DO} (q : OAt K M H a o) : OAt K M' H a o := by
  cases o with
  | lst ds =>
    obtain ⟨vs, e, r⟩ := q
    exact ⟨vs, e, r.less h⟩
  | brw ds =>
    obtain ⟨vs, e, r⟩ := q
    exact ⟨vs, e, r.less h⟩
  | frz d => exact At.less h q
theorem mu_take {n : Nat} {b : Addr} (m : Mu B (α.take n) (O.take n) b) : Mu B α O b := m.elim .inl fun m => .inr (ow_take m)
theorem own_take (w : Own G B α O H) (n : Nat) : Own G B (α.take n) (O.take n) H :=
  ⟨by rw [List.length_take, List.length_take, w.len], w.nd.sublist (List.take_sublist _ _), fun k a o e1 e2 => (w.at_ k a o (take_some e1) (take_some e2)).less fun _ => mu_take, w.bt, fun b m => w.nb b (ow_take m), w.tabs⟩
theorem stp_take (s : Stp α O H α' O' H') (w : Own G B α O H) : Stp α O H α (O'.take α.length) H' ∧ α'.take α.length = α := by
  obtain ⟨m, e⟩ := s.pre
  have e2 : α'.take α.length = α := by rw [e, List.take_left' rfl]
  refine ⟨⟨⟨[], by simp⟩, s.keep, s.there, fun b h => s.new b (ow_take (n := α.length) ?_), fun b h => s.hnew b (ho_take (n := α.length) ?_), fun b m => .inl m⟩, e2⟩
  · rw [e2]
    exact h
  · rw [e2]
    exact h
end
end Z

set_option Elab.async false
set_option linter.all false
set_option maxRecDepth 100000
set_option maxHeartbeats 4000000
namespace Z
open PySem PySem.Spec PyProof.Rows L2

/-! ### slots -/
def gt : List (Option U) → Nat → Option U
  | [], _ => none
  | x :: _, 0 => x
  | _ :: r, n + 1 => gt r n
def st : List (Option U) → Nat → U → List (Option U)
  | [], _, _ => []
  | _ :: r, 0, u => some u :: r
  | x :: r, n + 1, u => x :: st r n u
theorem gt_st : ∀ (ρ : List (Option U)) (i j : Nat) (u w : U), gt (st ρ i u) j = some w → (j = i ∧ w = u) ∨ (j ≠ i ∧ gt ρ j = some w)
  | [], _, _, _, _, h => by cases h
  | _ :: _, 0, 0, u, w, h => by
    have h2 : some u = some w := h
    cases h2
    exact .inl ⟨rfl, rfl⟩
  | _ :: _, 0, j + 1, u, w, h => .inr ⟨by omega, h⟩
  | _ :: _, i + 1, 0, u, w, h => .inr ⟨by omega, h⟩
  | _ :: r, i + 1, j + 1, u, w, h => by
    rcases gt_st r i j u w h with ⟨a, b⟩ | ⟨a, b⟩
    · exact .inl ⟨by omega, b⟩
    · exact .inr ⟨by omega, b⟩
def go : List DO → Nat → Option DO
  | [], _ => none
  | x :: _, 0 => some x
  | _ :: r, n + 1 => go r n
theorem go_eq : ∀ (O : List DO) (k : Nat), go O k = O[k]?
  | [], _ => by simp [go]
  | _ :: _, 0 => by simp [go]
  | _ :: r, n + 1 => by simp [go, go_eq r n]
def so : List DO → Nat → DO → List DO
  | [], _, _ => []
  | _ :: r, 0, u => u :: r
  | x :: r, n + 1, u => x :: so r n u
theorem so_eq : ∀ (O : List DO) (k : Nat) (u : DO), so O k u = O.set k u
  | [], _, _ => by simp [so]
  | _ :: _, 0, _ => by simp [so]
  | _ :: r, n + 1, u => by simp [so, so_eq r n u]
/-- .. as data that stays -/
def frzAt (O : List DO) (k : Nat) : Option D := match go O k with
  | some (.frz ds) => some (.lst ds)
  | _ => none
mutual
def toD (O : List DO) : U → Option D
  | .d x => some x
  | .o k => frzAt O k
  | .t us => match toDs O us with
    | some ds => some (.tup ds)
    | none => none
  | .l us => match toDs O us with
    | some ds => some (.lst ds)
    | none => none
def toDs (O : List DO) : List U → Option (List D)
  | [] => some []
  | u :: us => match toD O u with
    | some d => (match toDs O us with
      | some ds => some (d :: ds)
      | none => none)
    | none => none
end
/-- a value as data -/
def nrm (O : List DO) : U → Option D
  | .d x => some x
  | .o k => match go O k with
    | some (.lst ds) => some (.lst ds)
    | some (.frz ds) => some (.lst ds)
    | some (.brw ds) => some (.lst ds)
    | none => none
  | .t us => toD O (.t us)
  | .l us => toD O (.l us)
structure Exc where
  cls : Str
  fs : List (Str × D)
abbrev ZQ := List U → List DO → Prop
abbrev ZX := Exc → List DO → Prop
abbrev ZE := ZX → List (Option U) → List DO → ZQ → Prop

inductive Vw (K : PySem.W.Frag) (M : Addr → Prop) (H : Hp) : V → D → Prop
  | at_ {v : V} {d : D} : At K M H v d → Vw K M H v d
  | own {a : Addr} {vs : List V} {ds : List D} : H a = some (.lst vs) → Ats K M H vs ds → Vw K M H (.ref a) (.lst ds)
section
variable {K : PySem.W.Frag} {M : Addr → Prop} {H : Hp} {v : V}
theorem Vw.lst {ds : List D} (h : Vw K M H v (.lst ds)) : ∃ a vs, v = .ref a ∧ H a = some (.lst vs) ∧ Ats K M H vs ds := by
  cases h with
  | at_ h => cases h with
    | lst e m r => exact ⟨_, _, rfl, e, r⟩
  | own e r => exact ⟨_, _, rfl, e, r⟩
theorem Vw.tup {ds : List D} (h : Vw K M H v (.tup ds)) : ∃ a vs, v = .ref a ∧ H a = some (.tup vs) ∧ Ats K M H vs ds := by
  cases h with
  | at_ h => cases h with
    | tup e m r => exact ⟨_, _, rfl, e, r⟩
theorem Vw.int {i : Int} (h : Vw K M H v (.int i)) : v = .int i := by
  cases h with
  | at_ h => cases h; rfl
theorem Vw.bl {i : Bool} (h : Vw K M H v (.bl i)) : v = .bl i := by
  cases h with
  | at_ h => cases h; rfl
theorem Vw.str {i : Str} (h : Vw K M H v (.str i)) : v = .str i := by
  cases h with
  | at_ h => cases h; rfl
theorem Vw.non (h : Vw K M H v .non) : v = .non := by
  cases h with
  | at_ h => cases h; rfl
theorem Vw.scr {ns : List Int} (h : Vw K M H v (.scr ns)) : ∃ a, v = .ref a ∧ SqL K H a (ns.map V.int) := by
  cases h with
  | at_ h => cases h with
    | scr e m => exact ⟨_, rfl, .inl e⟩
    | scrK e => exact ⟨_, rfl, e H⟩
end
section
variable {G : Gx} {B : Addr → Prop} {α α' : List Addr} {O O' : List DO} {H H' : Hp}
theorem At.frz (w : Own G B α O H) {k : Nat} {a : Addr} {d : D} (e1 : α[k]? = some a) (e : frzAt O k = some d) : At G.K (Mu B α O) H (.ref a) d := by
  unfold frzAt at e
  rw [go_eq] at e
  cases q : O[k]? with
  | none => rw [q] at e; cases e
  | some o =>
    rw [q] at e
    have h := w.at_ k a o e1 q
    cases o with
    | lst ds => cases e
    | brw ds => cases e
    | frz ds =>
      cases e
      exact h
mutual
theorem At.of (w : Own G B α O H) : ∀ {u : U} {v : V} {d : D}, AtU G.K B α O H v u → toD O u = some d → At G.K (Mu B α O) H v d
  | .d x, v, d, h, e => by
    rw [toD] at e
    cases e
    cases h with
    | d a => exact a
  | .o k, v, d, h, e => by
    rw [toD] at e
    cases h with
    | o e1 => exact At.frz w e1 e
  | .t us, v, d, h, e => by
    rw [toD] at e
    cases h with
    | t e1 m r =>
      cases q : toDs O us with
      | none => rw [q] at e; cases e
      | some ds =>
        rw [q] at e
        cases e
        exact .tup e1 m (Ats.of w r q)
  | .l us, v, d, h, e => by
    rw [toD] at e
    cases h with
    | l e1 m r =>
      cases q : toDs O us with
      | none => rw [q] at e; cases e
      | some ds =>
        rw [q] at e
        cases e
        exact .lst e1 m (Ats.of w r q)
theorem Ats.of (w : Own G B α O H) : ∀ {us : List U} {vs : List V} {ds : List D}, AtUs G.K B α O H vs us → toDs O us = some ds → Ats G.K (Mu B α O) H vs ds
  | [], _, _, h, e => by
    rw [toDs] at e
    cases e
    cases h
    exact .nil
  | u :: us, _, _, h, e => by
    rw [toDs] at e
    cases h with
    | cons a r =>
      cases q : toD O u with
      | none => rw [q] at e; cases e
      | some d =>
        rw [q] at e
        cases q2 : toDs O us with
        | none => rw [q2] at e; cases e
        | some ds =>
          rw [q2] at e
          cases e
          exact .cons (At.of w a q) (Ats.of w r q2)
end
theorem Vw.of (w : Own G B α O H) {v : V} {u : U} {d : D} (a : AtU G.K B α O H v u) (e : nrm O u = some d) : Vw G.K (Mu B α O) H v d := by
  cases u with
  | d x =>
    cases e
    cases a with
    | d a => exact .at_ a
  | o k =>
    cases a with
    | @o _ b e1 =>
    have e' : (match go O k with
      | some (.lst ds) => some (D.lst ds)
      | some (.frz ds) => some (.lst ds)
      | some (.brw ds) => some (.lst ds)
      | none => none) = some d := e
    rw [go_eq] at e'
    cases q : O[k]? with
    | none => rw [q] at e'; cases e'
    | some o =>
      rw [q] at e'
      have h := w.at_ k b o e1 q
      cases o with
      | lst ds =>
        cases e'
        obtain ⟨vs, h1, h2⟩ := h
        exact .own h1 h2
      | brw ds =>
        cases e'
        obtain ⟨vs, h1, h2⟩ := h
        exact .own h1 h2
      | frz ds =>
        cases e'
        exact .at_ h
  | t us => exact .at_ (At.of w a e)
  | l us => exact .at_ (At.of w a e)
end

/-! ### the state against the slots; exceptions -/
structure Rep (G : Gx) (B : Addr → Prop) (α : List Addr) (σ : L2.St) (H : Hp) (ρ : List (Option U)) (O : List DO) : Prop where
  vars : ∀ i u, gt ρ i = some u → ∃ v, σ[i]? = some (some v) ∧ AtU G.K B α O H v u
  own : Own G B α O H
  len : ρ.length ≤ σ.length
def ExAt (G : Gx) (M : Addr → Prop) (x : Exc) (cls : Value) (d : Option Addr) (H : Hp) : Prop :=
  cls = .ref (He.ga G.K x.cls) ∧ ∃ dx fs, d = some dx ∧ H dx = some (.xd fs) ∧ ¬ M dx ∧ fs.map (·.1) = x.fs.map (·.1) ∧ Ats G.K M H (fs.map (·.2)) (x.fs.map (·.2))
/-- the wish E0 is served by the wish W0 from here on -/
def ELow (G : Gx) (B : Addr → Prop) (W0 : XK) (α : List Addr) (O : List DO) (H : Hp) (E0 : ZX) : Prop :=
  ∀ x O', E0 x O' → ∀ α' cls dd H', Stp α O H α' O' H' → Own G B α' O' H' → ExAt G (Mu B α' O') x cls dd H' → W0 cls dd H'
def QLow (G : Gx) (B : Addr → Prop) (α : List Addr) (O : List DO) (H : Hp) (Q0 : ZQ) (Q : VK) : Prop :=
  ∀ us O', Q0 us O' → ∃ u, us = [u] ∧ ∀ α' v H', Stp α O H α' O' H' → Own G B α' O' H' → AtU G.K B α' O' H' v u → Q v H'
def ALow (G : Gx) (B : Addr → Prop) (α : List Addr) (O : List DO) (H : Hp) (Q0 : ZQ) (Q : List V → Hp → Prop) : Prop :=
  ∀ us O', Q0 us O' → ∀ α' vs H', Stp α O H α' O' H' → Own G B α' O' H' → AtUs G.K B α' O' H' vs us → Q vs H'
def BLow (G : Gx) (B : Addr → Prop) (α : List Addr) (O : List DO) (H : Hp) (Q0 : ZQ) (Q : Bool → Hp → Prop) : Prop :=
  ∀ us O', Q0 us O' → ∃ b, us = [.d (.bl b)] ∧ ∀ α' H', Stp α O H α' O' H' → Own G B α' O' H' → Q b H'
section
variable {G : Gx} {B : Addr → Prop} {α α' : List Addr} {O O' : List DO} {H H' : Hp} {W0 : XK} {E0 : ZX} {ρ : List (Option U)} {σ : L2.St}
theorem Rep.stp (r : Rep G B α σ H ρ O) (s : Stp α O H α' O' H') (w : Own G B α' O' H') : Rep G B α' σ H' ρ O' :=
  ⟨fun i u e => let ⟨v, h1, h2⟩ := r.vars i u e; ⟨v, h1, s.atU h2⟩, w, r.len⟩
theorem ELow.stp (h : ELow G B W0 α O H E0) (s : Stp α O H α' O' H') : ELow G B W0 α' O' H' E0 :=
  fun x O2 e α2 cls dd H2 s2 w2 q => h x O2 e α2 cls dd H2 (s.trans s2) w2 q
end

/-- an expression's reading by data -/
def LfE (G : Gx) (W0 : XK) (t : ZE) : TE := fun σ H Q => ∃ B α ρ O Q0 E0, Rep G B α σ H ρ O ∧ t E0 ρ O Q0 ∧ QLow G B α O H Q0 Q ∧ ELow G B W0 α O H E0
def LfT (G : Gx) (W0 : XK) (t : ZE) : TT := fun σ H Q => ∃ B α ρ O Q0 E0, Rep G B α σ H ρ O ∧ t E0 ρ O Q0 ∧ BLow G B α O H Q0 Q ∧ ELow G B W0 α O H E0
def LfA (G : Gx) (W0 : XK) (t : ZE) : TA := fun σ H Q => ∃ B α ρ O Q0 E0, Rep G B α σ H ρ O ∧ t E0 ρ O Q0 ∧ ALow G B α O H Q0 Q ∧ ELow G B W0 α O H E0
theorem pe_imp {X : Cx} {e : Expr} {t t' : TE} (h : PE X e t) (i : ∀ σ H Q, t' σ H Q → t σ H Q) : PE X e t' := ⟨fun pins s σ H Q I q => h.run pins s σ H Q I (i σ H Q q)⟩
theorem pt_imp {X : Cx} {e : Expr} {t t' : TT} (h : PT X e t) (i : ∀ σ H Q, t' σ H Q → t σ H Q) : PT X e t' := ⟨fun pins s σ H Q I q => h.run pins s σ H Q I (i σ H Q q)⟩
theorem pw_imp {X : Cx} {e : Expr} {t t' : TT} (h : PW X e t) (i : ∀ σ H Q, t' σ H Q → t σ H Q) : PW X e t' := ⟨fun wh pins s σ H Q I q => h.run wh pins s σ H Q I (i σ H Q q)⟩
theorem pa_imp {X : Cx} {e : List Expr} {t t' : TA} (h : PA X e t) (i : ∀ σ H Q, t' σ H Q → t σ H Q) : PA X e t' := ⟨fun pos pins s σ H Q I q => h.run pos pins s σ H Q I (i σ H Q q)⟩
abbrev SE (X : Cx) (G : Gx) (W0 : XK) (e : Expr) (t : ZE) : Prop := PE X e (LfE G W0 t)
abbrev ST (X : Cx) (G : Gx) (W0 : XK) (e : Expr) (t : ZE) : Prop := PT X e (LfT G W0 t)
abbrev SA (X : Cx) (G : Gx) (W0 : XK) (e : List Expr) (t : ZE) : Prop := PA X e (LfA G W0 t)

/-! ### operations on data -/
def addD : D → D → (D → Prop) → Prop
  | .int i, .int j, Q => Q (.int (i + j))
  | .str a, .str b, Q => a.length + b.length ≤ sizeLine ∧ Q (.str (a ++ b))
  | .lst a, .lst b, Q => a.length + b.length ≤ sizeLine ∧ Q (.lst (a ++ b))
  | .tup a, .tup b, Q => a.length + b.length ≤ sizeLine ∧ Q (.tup (a ++ b))
  | _, _, _ => False
def subD : D → D → (D → Prop) → Prop
  | .int i, .int j, Q => Q (.int (i - j))
  | _, _, _ => False
/-- two factors of together less than a million bits -/
def MulOk (i j : Int) : Prop := IntMulOk i j
theorem op_mulX {X : Cx} : OpR X (binaryOp .Mult) (rI IntMulOk fun i j => .int (i * j)) := opI fun _ _ _ _ _ _ _ hc q => mul_int q hc
theorem mulOk_bits {i j : Int} {a b : Nat} (ha : i.natAbs < 2 ^ a) (hb : j.natAbs < 2 ^ b) (h0 : 0 < a) (h1 : 0 < b) (h : a + b ≤ 1000000) : MulOk i j := (wide_mul ha hb h0 h1 h).ok
theorem mulOk_r {i j : Int} (h1 : -(2 ^ 64) < j) (h2 : j < 2 ^ 64) : MulOk i j := CMul.ok (.inr ⟨h1, h2⟩)
theorem mulOk_l {i j : Int} (h1 : -(2 ^ 64) < i) (h2 : i < 2 ^ 64) : MulOk i j := CMul.ok (.inl ⟨h1, h2⟩)
def mulD : D → D → (D → Prop) → Prop
  | .int i, .int j, Q => MulOk i j ∧ Q (.int (i * j))
  | .lst a, .int k, Q => (-(2 ^ 63) ≤ k ∧ k < 2 ^ 63 ∧ a.length * k.toNat ≤ sizeLine) ∧ Q (.lst (List.replicate k.toNat a).flatten)
  | .tup a, .int k, Q => (1 ≤ k ∧ k ≤ 1000 ∧ a ≠ [] ∧ a.length ≤ 1000) ∧ Q (.tup (List.replicate k.toNat a).flatten)
  | _, _, _ => False
def DivOk (j : Int) : Prop := j ≠ 0 ∧ j.natAbs.log2 < 9000
def fdivD : D → D → (D → Prop) → Prop
  | .int i, .int j, Q => DivOk j ∧ Q (.int (i.fdiv j))
  | _, _, _ => False
def modD : D → D → (D → Prop) → Prop
  | .int i, .int j, Q => j ≠ 0 ∧ Q (.int (i.fmod j))
  | _, _, _ => False
def powD : D → D → (D → Prop) → Prop
  | .int i, .int j, Q => CPow i j ∧ Q (.int (i ^ j.toNat))
  | _, _, _ => False
def binD : Operator → D → D → (D → Prop) → Prop
  | .Add => addD
  | .Sub => subD
  | .Mult => mulD
  | .FloorDiv => fdivD
  | .Mod => modD
  | .Pow => powD
  | _ => fun _ _ _ => False
/-- an operation on values that makes new data -/
def rB (G : Gx) (op : D → D → (D → Prop) → Prop) : R2 := fun v w H Q => ∃ B α O x y Q0, Own G B α O H ∧ Vw G.K (Mu B α O) H v x ∧ Vw G.K (Mu B α O) H w y ∧ op x y Q0 ∧
  ∀ z, Q0 z → ∀ v' H', Stp α O H α O H' → Own G B α O H' → At G.K (Mu B α O) H' v' z → Q v' H'
section
variable {X : Cx} {G : Gx}
theorem rb_new {B : Addr → Prop} {α : List Addr} {O : List DO} {H : Hp} (w : Own G B α O H) {Q0 : D → Prop} {Q : VK} {z : D} (h0 : Q0 z)
    (hq : ∀ z, Q0 z → ∀ v' H', Stp α O H α O H' → Own G B α O H' → At G.K (Mu B α O) H' v' z → Q v' H') {v : V} (a : At G.K (Mu B α O) H v z) : Q v H := hq z h0 v H Stp.refl w a
theorem rb_lst {B : Addr → Prop} {α : List Addr} {O : List DO} {H : Hp} (w : Own G B α O H) {Q0 : D → Prop} {Q : VK} {ds : List D} {vs : List V} (h0 : Q0 (.lst ds))
    (hq : ∀ z, Q0 z → ∀ v' H', Stp α O H α O H' → Own G B α O H' → At G.K (Mu B α O) H' v' z → Q v' H') (r : Ats G.K (Mu B α O) H vs ds) : ∀ p, H p = none → Q (.ref p) (upd H p (.lst vs)) := fun p hp =>
  hq _ h0 _ _ (stp_new hp) (own_new w hp) (At.lstNew w hp r)
theorem rb_tup {B : Addr → Prop} {α : List Addr} {O : List DO} {H : Hp} (w : Own G B α O H) {Q0 : D → Prop} {Q : VK} {ds : List D} {vs : List V} (h0 : Q0 (.tup ds))
    (hq : ∀ z, Q0 z → ∀ v' H', Stp α O H α O H' → Own G B α O H' → At G.K (Mu B α O) H' v' z → Q v' H') (r : Ats G.K (Mu B α O) H vs ds) : ∀ p, H p = none → Q (.ref p) (upd H p (.tup vs)) := fun p hp =>
  hq _ h0 _ _ (stp_new hp) (own_new w hp) (At.tupNew w hp r)
theorem op_fdivX : OpR X (binaryOp .FloorDiv) (rI (fun _ j => DivOk j) fun i j => .int (i.fdiv j)) := opI fun _ _ _ _ _ _ _ hc q => floordiv_int hc.1 q (.inl (PyProof.noPylong_of_log2 hc.2))
/-- a quotient that is told without the long way -/
def DivQ (i j : Int) : Prop := j ≠ 0 ∧ Builtin.divisionGoesByPylong i j = false
def fdqD : D → D → (D → Prop) → Prop
  | .int i, .int j, Q => DivQ i j ∧ Q (.int (i.fdiv j))
  | _, _, _ => False
theorem op_fdq : OpR X (binaryOp .FloorDiv) (rI DivQ fun i j => .int (i.fdiv j)) := opI fun _ _ _ _ _ _ _ hc q => floordiv_int hc.1 q (.inl hc.2)
theorem ats_rep {B : Addr → Prop} {α : List Addr} {O : List DO} {H : Hp} {ds : List D} {vs : List V} (r : Ats G.K (Mu B α O) H vs ds) : ∀ k, Ats G.K (Mu B α O) H (List.replicate k vs).flatten (List.replicate k ds).flatten
  | 0 => .nil
  | k + 1 => by
    rw [List.replicate_succ, List.replicate_succ, List.flatten_cons, List.flatten_cons]
    exact r.append (ats_rep r k)
theorem opr_add (hK : X.K = G.K) : OpR X (binaryOp .Add) (rB G addD) := by
  intro pins s σ H v w v' w' Q I rv rw' ⟨B, α, O, x, y, Q0, ow, ax, ay, h, hq⟩
  cases x with
  | int i =>
    cases y with
    | int j =>
      obtain rfl := ax.int
      obtain rfl := ay.int
      exact op_add pins s σ H _ _ v' w' Q I rv rw' ⟨i, j, rfl, rfl, rb_new ow h hq (.int _)⟩
    | _ => exact h.elim
  | str i =>
    cases y with
    | str j =>
      obtain rfl := ax.str
      obtain rfl := ay.str
      exact op_add_str pins s σ H _ _ v' w' Q I rv rw' ⟨i, j, rfl, rfl, h.1, rb_new ow h.2 hq (.str _)⟩
    | _ => exact h.elim
  | lst i =>
    cases y with
    | lst j =>
      obtain ⟨a, vs, rfl, e, r⟩ := ax.lst
      obtain ⟨b, ws, rfl, e2, r2⟩ := ay.lst
      exact op_cat pins s σ H _ _ v' w' Q I rv rw' ⟨a, b, vs, ws, rfl, rfl, e, e2, by rw [r.length, r2.length]; exact h.1, rb_lst ow h.2 hq (r.append r2)⟩
    | _ => exact h.elim
  | tup i =>
    cases y with
    | tup j =>
      obtain ⟨a, vs, rfl, e, r⟩ := ax.tup
      obtain ⟨b, ws, rfl, e2, r2⟩ := ay.tup
      refine op_catA pins s σ H _ _ v' w' Q I rv rw' ⟨a, b, vs, ws, rfl, rfl, by rw [hK]; exact SqT.of e, by rw [hK]; exact SqT.of e2, by rw [r.length, r2.length]; exact h.1, fun z => ?_, fun _ z => ?_, fun _ _ => rb_tup ow h.2 hq (r.append r2)⟩
      · subst z
        cases r
        cases ay with
        | at_ ay => exact rb_new ow h.2 hq ay
      · subst z
        cases r2
        cases ax with
        | at_ ax => exact rb_new ow h.2 hq (by rw [List.append_nil]; exact ax)
    | _ => exact h.elim
  | _ => exact h.elim
theorem opr_sub (hK : X.K = G.K) : OpR X (binaryOp .Sub) (rB G subD) := by
  intro pins s σ H v w v' w' Q I rv rw' ⟨B, α, O, x, y, Q0, ow, ax, ay, h, hq⟩
  cases x with
  | int i =>
    cases y with
    | int j =>
      obtain rfl := ax.int
      obtain rfl := ay.int
      exact op_sub pins s σ H _ _ v' w' Q I rv rw' ⟨i, j, rfl, rfl, rb_new ow h hq (.int _)⟩
    | _ => exact h.elim
  | _ => exact h.elim
theorem tuple_mul1 (l : Addr) (items : Array Value) (n : Nat) (dd : Option Addr) (sl : Array (Option Value)) (u : Tok) :
    Meets (Builtin.«tuple.__mul__» ⟨[.ref l, .int 1 u], []⟩) (fun _ R s => s.heap.get? l = some { cls := .type "tuple", dict := dd, data := .seq items n, slots := sl } ∧ R (.ok (.ret (Value.ref l))) s) :=
  .of_wp fun prog w A R s h => by
    obtain ⟨hp, g, d, tk, os⟩ := s
    obtain ⟨hl, h⟩ := h
    have f1 := AutoSeq1.idx_int
    wp_walk using wpAny_loadPart' hl
    exact ⟨_, rfl, h⟩
theorem op_repT1 {X : Cx} : OpR X (binaryOp .Mult) (fun x y H Q => ∃ l xs, x = .ref l ∧ y = .int 1 ∧ SqT X.K H l xs ∧ Q (.ref l) H) := by
  intro pins s σ H x y v u Q I rx ry h
  obtain ⟨l, xs, rfl, rfl, hT, q⟩ := h
  cases rx
  obtain ⟨t, rfl⟩ := ry
  obtain ⟨its, r, ⟨⟨cls, dd, data, sl⟩, ho, hc, n, hd⟩, hs⟩ := I.tuple hT
  simp only at hc hd
  subst hc hd
  refine wpAny_binaryOp_repeat_ref (T := "tuple") (U := "int") (by decide) ⟨_, ho, rfl⟩ (fun s' => typeIs_int s' 1 t) noFill_tuple_mul F.fills_int_mul F.slot_int_rmul repeat_tuple F.slot_int_index.lookup
    (call_meets F.slot_int_rmul (typeIs_int s 1 t) F.entry_int_rmul (F.args_int_rmul_2 _ _) (int_rmul_tuple 1 t l its.toArray n dd sl)
      ⟨ho, rfl, ⟨_, ho, rfl⟩, call_meets F.slot_tuple_mul ⟨_, ho, rfl⟩ F.entry_tuple_mul (F.args_tuple_mul_2 _ _) (tuple_mul1 l its.toArray n dd sl t) ⟨ho, ?_⟩⟩)
  exact ⟨.ref l, H, I, rfl, q⟩
theorem opr_mul (hK : X.K = G.K) : OpR X (binaryOp .Mult) (rB G mulD) := by
  intro pins s σ H v w v' w' Q I rv rw' ⟨B, α, O, x, y, Q0, ow, ax, ay, h, hq⟩
  cases x with
  | int i =>
    cases y with
    | int j =>
      obtain rfl := ax.int
      obtain rfl := ay.int
      exact op_mulX pins s σ H _ _ v' w' Q I rv rw' ⟨i, j, rfl, rfl, h.1, rb_new ow h.2 hq (.int _)⟩
    | _ => exact h.elim
  | lst i =>
    cases y with
    | int j =>
      obtain ⟨a, vs, rfl, e, r⟩ := ax.lst
      obtain rfl := ay.int
      exact op_rep pins s σ H _ _ v' w' Q I rv rw' ⟨a, j, vs, rfl, rfl, e, h.1.1, h.1.2.1, by rw [r.length]; exact h.1.2.2, rb_lst ow h.2 hq (ats_rep r _)⟩
    | _ => exact h.elim
  | tup i =>
    cases y with
    | int j =>
      obtain ⟨a, vs, rfl, e, r⟩ := ax.tup
      obtain rfl := ay.int
      obtain ⟨⟨h1, h2, h3, h4⟩, h5⟩ := h
      by_cases hj : j = 1
      · subst hj
        have e1 : (List.replicate (Int.toNat 1) i).flatten = i := by
          show (List.replicate 1 i).flatten = i
          simp
        rw [e1] at h5
        refine op_repT1 pins s σ H _ _ v' w' Q I rv rw' ⟨a, vs, rfl, rfl, by rw [hK]; exact SqT.of e, ?_⟩
        cases ax with
        | at_ ax => exact rb_new ow h5 hq ax
      · refine op_repT pins s σ H _ _ v' w' Q I rv rw' ⟨a, j, vs, rfl, rfl, by rw [hK]; exact SqT.of e, fun z => ?_, by omega, h2, by rw [r.length]; exact h4, rb_tup ow h5 hq (ats_rep r _)⟩
        rw [z] at r
        cases r
        exact h3 rfl
    | _ => exact h.elim
  | _ => exact h.elim
theorem opr_fdiv (hK : X.K = G.K) : OpR X (binaryOp .FloorDiv) (rB G fdivD) := by
  intro pins s σ H v w v' w' Q I rv rw' ⟨B, α, O, x, y, Q0, ow, ax, ay, h, hq⟩
  cases x with
  | int i =>
    cases y with
    | int j =>
      obtain rfl := ax.int
      obtain rfl := ay.int
      exact op_fdivX pins s σ H _ _ v' w' Q I rv rw' ⟨i, j, rfl, rfl, h.1, rb_new ow h.2 hq (.int _)⟩
    | _ => exact h.elim
  | _ => exact h.elim
theorem opr_fdq (hK : X.K = G.K) : OpR X (binaryOp .FloorDiv) (rB G fdqD) := by
  intro pins s σ H v w v' w' Q I rv rw' ⟨B, α, O, x, y, Q0, ow, ax, ay, h, hq⟩
  cases x with
  | int i =>
    cases y with
    | int j =>
      obtain rfl := ax.int
      obtain rfl := ay.int
      exact op_fdq pins s σ H _ _ v' w' Q I rv rw' ⟨i, j, rfl, rfl, h.1, rb_new ow h.2 hq (.int _)⟩
    | _ => exact h.elim
  | _ => exact h.elim
theorem opr_mod (hK : X.K = G.K) : OpR X (binaryOp .Mod) (rB G modD) := by
  intro pins s σ H v w v' w' Q I rv rw' ⟨B, α, O, x, y, Q0, ow, ax, ay, h, hq⟩
  cases x with
  | int i =>
    cases y with
    | int j =>
      obtain rfl := ax.int
      obtain rfl := ay.int
      exact op_modN pins s σ H _ _ v' w' Q I rv rw' ⟨i, j, rfl, rfl, h.1, rb_new ow h.2 hq (.int _)⟩
    | _ => exact h.elim
  | _ => exact h.elim
theorem opr_pow (hK : X.K = G.K) : OpR X (binaryOp .Pow) (rB G powD) := by
  intro pins s σ H v w v' w' Q I rv rw' ⟨B, α, O, x, y, Q0, ow, ax, ay, h, hq⟩
  cases x with
  | int i =>
    cases y with
    | int j =>
      obtain rfl := ax.int
      obtain rfl := ay.int
      exact op_pow pins s σ H _ _ v' w' Q I rv rw' ⟨i, j, rfl, rfl, h.1, rb_new ow h.2 hq (.int _)⟩
    | _ => exact h.elim
  | _ => exact h.elim
theorem opr_bin (hK : X.K = G.K) : ∀ op, OpR X (binaryOp op) (rB G (binD op))
  | .Add => opr_add hK
  | .Sub => opr_sub hK
  | .Mult => opr_mul hK
  | .FloorDiv => opr_fdiv hK
  | .Mod => opr_mod hK
  | .Pow => opr_pow hK
  | .MatMult => fun _ _ _ _ _ _ _ _ _ _ _ _ ⟨_, _, _, _, _, _, _, _, _, h, _⟩ => h.elim
  | .Div => fun _ _ _ _ _ _ _ _ _ _ _ _ ⟨_, _, _, _, _, _, _, _, _, h, _⟩ => h.elim
  | .LShift => fun _ _ _ _ _ _ _ _ _ _ _ _ ⟨_, _, _, _, _, _, _, _, _, h, _⟩ => h.elim
  | .RShift => fun _ _ _ _ _ _ _ _ _ _ _ _ ⟨_, _, _, _, _, _, _, _, _, h, _⟩ => h.elim
  | .BitOr => fun _ _ _ _ _ _ _ _ _ _ _ _ ⟨_, _, _, _, _, _, _, _, _, h, _⟩ => h.elim
  | .BitXor => fun _ _ _ _ _ _ _ _ _ _ _ _ ⟨_, _, _, _, _, _, _, _, _, h, _⟩ => h.elim
  | .BitAnd => fun _ _ _ _ _ _ _ _ _ _ _ _ ⟨_, _, _, _, _, _, _, _, _, h, _⟩ => h.elim
end
end Z

set_option Elab.async false
set_option linter.all false
set_option maxRecDepth 100000
set_option maxHeartbeats 4000000
/-! ### sum(x, start): start a list or a tuple -/
namespace PySem
section
variable {prog : Program} {w : World} {A : Around} {R : Result → Shared → Prop} {I : Addr} {fp wr : List Addr} {n : Nat} {P : Nat → Value → Prop} {St : Nat → Heap → Prop}
theorem codeAny_sum_loopR {S : Addr} {T : Nat → Addr → Heap → Prop} (W : Walks prog w A.in1 I fp wr n P St) (hSf : S ∉ fp)
    (hTk : ∀ i v h h', T i v h → (∀ b o, b ∉ wr → b ≠ S → h.get? b = some o → h'.get? b = some o) → T i v h')
    (hadd : ∀ i v t (s : Shared) (Q : Value → Shared → Prop) (E : Value → Shared → Prop), i < n → P i v → T i t s.heap → s.heap.get? S ≠ none → (∀ b ∈ wr, s.heap.get? b ≠ none) → (∀ t' h' tk, (∀ b o, s.heap.get? b = some o → h'.get? b = some o) → T (i + 1) t' h' → Q (.ref t') { s with heap := h', toks := tk }) → wpAny (model prog w) A.in1 (binaryOp .Add (.ref t) v) Q E s)
    (hStw : ∀ i h, St i h → ∀ b ∈ wr, h.get? b ≠ none) :
    ∀ (k i : Nat) (s : Shared) (t : Addr) (c : Nat), n - i = k → i ≤ n → St i s.heap → T i t s.heap → s.heap.get? S = some { cls := .type "list", dict := none, data := .seq #[.ref t] c, slots := #[] } →
    (∀ h' tk t', T n t' h' → (∀ b o, b ∉ wr → b ≠ S → s.heap.get? b = some o → h'.get? b = some o) → R (.ok (.ret (.ref t'))) { s with heap := h', toks := tk }) →
    codeAny (model prog w) A (.builtin "sum.loop" ⟨[.ref I, .ref S, rawInt 2, rawInt 0], []⟩) R s := by
  have hSw : S ∉ wr := fun h => hSf (W.sub _ h)
  intro k
  induction k with
  | zero =>
    intro i s t c hk hi hst hT hS hR
    have hin : i = n := by omega
    subst hin
    refine codeAny_builtin F.entry_sum_loop ?_
    rw [Around.under_plainId F.plain_sum_loop _]
    show wpAny _ A.in1 (seqItems? (.ref S) >>= _) _ _ s
    refine wpAny_bind (wpAny_seqItems hS rfl ?_)
    show wpAny _ A.in1 (tryCatch (pyNext (.ref I)) _ >>= _) _ _ s
    refine wpAny_bind (wpAny_tryCatch (W.done s _ _ hst fun h' tk hk' => ?_))
    exact wpAny_pure (hR h' tk t (hTk _ _ _ _ hT fun b o hb _ e => hk' b o hb e) fun b o hbw _ e => hk' b o hbw e)
  | succ k ih =>
    intro i s t c hk hi hst hT hS hR
    have hlt : i < n := by omega
    refine codeAny_builtin F.entry_sum_loop ?_
    rw [Around.under_plainId F.plain_sum_loop _]
    show wpAny _ A.in1 (seqItems? (.ref S) >>= _) _ _ s
    refine wpAny_bind (wpAny_seqItems hS rfl ?_)
    show wpAny _ A.in1 (tryCatch (pyNext (.ref I)) _ >>= _) _ _ s
    refine wpAny_bind (wpAny_tryCatch (W.item i s _ _ hlt hst fun v h' tk hP hst' hk' => ?_))
    have hS' := hk' S _ hSw hS
    have hT' := hTk _ _ _ _ hT fun b o hb _ e => hk' b o hb e
    show wpAny _ A.in1 ((holding [v] (binaryOp .Add (.ref t) v)).attempt >>= _) _ _ _
    refine wpAny_bind (wpAny_attempt (wpAny_holding (hadd i v t _ _ _ hlt hP hT' (by show h'.get? S ≠ none; rw [hS']; simp) (hStw _ _ hst') fun t' h2 tk2 hk2 hT2 => ?_)))
    have hS2 := hk2 S _ hS'
    show wpAny _ A.in1 (updateSeq S (fun _ => #[.ref t']) >>= _) _ _ _
    refine wpAny_bind ?_
    refine wpAny_updateSeq hS2 rfl ?_
    have hS3 := Heap.get?_update_self (Obj.mapSeq fun _ => #[Value.ref t']) hS2 rfl
    refine wpAny_bind (wpAny_letGo ?_)
    refine wpAny_bind ?_
    have keepS : ∀ b o, b ∉ wr → b ≠ S → s.heap.get? b = some o → ((h2.update S (Obj.mapSeq fun _ => #[Value.ref t'])).update S (Obj.mapSeq fun _ => #[Value.ref t'])).get? b = some o := fun b o hbw hbS e =>
      (Heap.get?_update_other _ _ (Ne.symm hbS)).trans ((Heap.get?_update_other _ _ (Ne.symm hbS)).trans (hk2 b o (hk' b o hbw e)))
    have up : ∀ b o, b ∉ wr → b ≠ S → h2.get? b = some o → ((h2.update S (Obj.mapSeq fun _ => #[Value.ref t'])).update S (Obj.mapSeq fun _ => #[Value.ref t'])).get? b = some o := fun b o _ hbS e =>
      (Heap.get?_update_other _ _ (Ne.symm hbS)).trans ((Heap.get?_update_other _ _ (Ne.symm hbS)).trans e)
    refine wpAny_updateSeq hS3 rfl (wpAny_pure ⟨plainId_quiet F.plain_sum_loop _, ih (i + 1) _ t' _ (by omega) hlt (W.frame _ _ _ hst' fun b hb o e => ?_) (hTk _ _ _ _ hT2 up) (Heap.get?_update_self _ hS3 rfl) fun h'' tk'' t'' hT'' hk'' => ?_⟩)
    · have hbS : S ≠ b := fun h : S = b => hSf (by rw [h]; exact hb)
      exact (Heap.get?_update_other _ _ hbS).trans ((Heap.get?_update_other _ _ hbS).trans (hk2 b o e))
    · exact hR h'' tk'' t'' hT'' fun b o hbw hbS e => hk'' b o hbw hbS (keepS b o hbw hbS e)
end
theorem F.args_sum2 (a b : Value) : argsOk "sum" ⟨[a, b], []⟩ := by unfold argsOk; kernel_rfl
section
variable {prog : Program} {w : World} {A : Around} {E : Value → Shared → Prop} {s : Shared}
theorem call_sum_walkR {x : Value} {st : Addr} {ty : String} {Q : Value → Shared → Prop}
    (hty : s.TypeIs (.ref st) ty) (h1 : isSubtype (.type ty) (.type "str") = pure false) (h2 : isSubtype (.type ty) (.type "bytes") = pure false) (h3 : isSubtype (.type ty) (.type "bytearray") = pure false)
    (h : wpAny (model prog w) A.in1 (pyIter x) (fun it s₂ => ∃ I fp wr n P St, ∃ T : Addr → Nat → Addr → Heap → Prop, it = .ref I ∧ Walks prog w A.in1 I fp wr n P St ∧ St 0 s₂.heap ∧ (∀ b ∈ fp, b < s₂.heap.objs.size) ∧ s₂.TypeIs (.ref st) ty ∧
      (∀ i h, St i h → ∀ b ∈ wr, h.get? b ≠ none) ∧ (∀ i v h h' S, T S i v h → (∀ b o, b ∉ wr → b ≠ S → h.get? b = some o → h'.get? b = some o) → T S i v h') ∧
      (∀ S i v t (s : Shared) (Q : Value → Shared → Prop) (E : Value → Shared → Prop), i < n → P i v → T S i t s.heap → s.heap.get? S ≠ none → (∀ b ∈ wr, s.heap.get? b ≠ none) → (∀ t' h' tk, (∀ b o, s.heap.get? b = some o → h'.get? b = some o) → T S (i + 1) t' h' → Q (.ref t') { s with heap := h', toks := tk }) → wpAny (model prog w) A.in1 (binaryOp .Add (.ref t) v) Q E s) ∧
      (∀ h', (∀ b o, s₂.heap.get? b = some o → h'.get? b = some o) → T s₂.heap.objs.size 0 st h') ∧
      ∀ h' tk t' S, T S n t' h' → (∀ b o, b ∉ wr → s₂.heap.get? b = some o → h'.get? b = some o) → Q (.ref t') { s₂ with heap := h', toks := tk }) E s) :
    wpAny (model prog w) A (call (.builtin "sum") [x, .ref st]) Q E s := by
  refine call_function_tree F.kind_sum F.plain_sum F.entry_sum (F.args_sum2 _ _) ?_
  unfold Builtin.«sum»
  simp only [List.length_cons, List.length_nil]
  rw [if_neg (by decide)]
  refine wpAny_bind (wpAny_of_eq (show Builtin.Builtins.bindParams "sum" ["start"] 0 ⟨[.ref st], []⟩ = pure [some (.ref st)] from rfl) ?_)
  refine wpAny_bind (wpAny_mono h (fun it s₂ h₂ => ?_) fun _ _ e => e)
  obtain ⟨I, fp, wr, n, P, St, T, rfl, W, hst, hfp, hty2, hStw, hTk, hadd, hT0, hQ⟩ := h₂
  refine wpAny_bind (wpAny_pure ?_)
  simp only [List.forIn_cons, List.forIn_nil]
  refine wpAny_bind (wpAny_bind (wpAny_bind (wpAny_isInstance (b := false) hty2 h1 ?_)))
  simp only [Bool.false_eq_true, if_false]
  refine wpAny_pure (wpAny_bind (wpAny_bind (wpAny_isInstance (b := false) hty2 h2 ?_)))
  simp only [Bool.false_eq_true, if_false]
  refine wpAny_pure (wpAny_bind (wpAny_bind (wpAny_isInstance (b := false) hty2 h3 ?_)))
  simp only [Bool.false_eq_true, if_false]
  refine wpAny_pure (wpAny_pure ?_)
  refine wpAny_bind (wpAny_newObj_type ?_)
  have hSf : s₂.heap.objs.size ∉ fp := fun hm => Nat.lt_irrefl _ (hfp _ hm)
  refine wpAny_pure ⟨plainId_quiet F.plain_sum_loop _, codeAny_sum_loopR (T := T s₂.heap.objs.size) W hSf (fun i v h h' a b => hTk i v h h' _ a b) (fun i v t s Q E a b c d e f => hadd _ i v t s Q E a b c d e f) hStw n 0 _ st 0 rfl (Nat.zero_le _)
    (W.frame _ _ _ hst fun b _ o e => Heap.get?_push_of_some _ e) (hT0 _ fun b o e => Heap.get?_push_of_some _ e) (Heap.get?_push_size _ rfl) fun h' tk t' hT hk => ?_⟩
  exact hQ h' tk t' _ hT fun b o hbw e => hk b o hbw (Nat.ne_of_lt (Heap.lt_size e)) (Heap.get?_push_of_some _ e)
end
end PySem

set_option Elab.async false
set_option linter.all false
set_option maxRecDepth 100000
set_option maxHeartbeats 4000000
namespace PySem
open PyProof.Rows
/-- a kind of sequence that + puts together -/
structure SeqK (Kd : Heap → Addr → List Value → Prop) (ty : String) (nb : Prop) : Prop where
  at_ : ∀ {h a xs}, Kd h a xs → ∃ o, h.get? a = some o ∧ o.cls = .type ty ∧ ∀ h', h'.get? a = some o → Kd h' a xs
  add : ∀ {prog : Program} {w : World} {A : Around} {E : Value → Shared → Prop} {s : Shared} {Q : Value → Shared → Prop} {t b : Addr} {xs ys : List Value}, Kd s.heap t xs → Kd s.heap b ys → xs.length + ys.length ≤ sizeLine →
    (∀ t' h', (∀ c o, s.heap.get? c = some o → h'.get? c = some o) → Kd h' t' (xs ++ ys) → ((nb ∧ t' = t ∧ ys = []) ∨ (nb ∧ t' = b ∧ xs = []) ∨ s.heap.objs.size ≤ t') → Q (.ref t') { s with heap := h' }) → wpAny (model prog w) A (binaryOp .Add (.ref t) (.ref b)) Q E s
  s1 : isSubtype (.type ty) (.type "str") = pure false
  s2 : isSubtype (.type ty) (.type "bytes") = pure false
  s3 : isSubtype (.type ty) (.type "bytearray") = pure false
def isLst (h : Heap) (a : Addr) (xs : List Value) : Prop := ∃ n, h.get? a = some { cls := .type "list", dict := none, data := .seq xs.toArray n, slots := #[] }
def isTpl (h : Heap) (a : Addr) (xs : List Value) : Prop := IsTup h a xs.toArray
theorem seqK_list : SeqK isLst "list" False where
  at_ := fun ⟨n, e⟩ => ⟨_, e, rfl, fun h' e' => ⟨n, e'⟩⟩
  add := fun {prog w A E s Q t b xs ys} ⟨n, e⟩ ⟨m, e2⟩ hz q => by
    refine PySem.P.add_list e e2 ?_ (by rw [List.size_toArray, List.size_toArray]; omega)
    refine q _ _ (fun c o e => Heap.get?_push_of_some _ e) ⟨0, ?_⟩ (.inr (.inr (Nat.le_refl _)))
    rw [Heap.get?_push_size _ rfl]
    simp
  s1 := F.sub_list_str
  s2 := F.sub_list_bytes
  s3 := F.sub_list_bytearray
theorem seqK_tuple : SeqK isTpl "tuple" True where
  at_ := fun ⟨o, e, hc, n, hd⟩ => ⟨o, e, hc, fun h' e' => ⟨o, e', hc, n, hd⟩⟩
  add := fun {prog w A E s Q t b xs ys} ht hb hz q => by
    by_cases hx : xs = []
    · subst hx
      refine L2.cat_tup0 ht hb (q _ _ (fun _ _ e => e) ?_ (.inr (.inl ⟨trivial, rfl, rfl⟩)))
      exact hb
    · refine HT.cat_tup ht hb hx (fun hy => ?_) (fun hy => ?_) hz
      · subst hy
        refine q _ _ (fun _ _ e => e) ?_ (.inl ⟨trivial, rfl, rfl⟩)
        rw [List.append_nil]
        exact ht
      · exact q _ _ (fun c o e => Heap.get?_push_of_some _ e) ⟨_, Heap.get?_push_size _ rfl, rfl, 0, rfl⟩ (.inr (.inr (Nat.le_refl _)))
  s1 := F.sub_tuple_str
  s2 := F.sub_tuple_bytes
  s3 := F.sub_tuple_bytearray
section
variable {prog : Program} {w : World} {A : Around} {E : Value → Shared → Prop} {s : Shared} {Kd : Heap → Addr → List Value → Prop} {ty : String} {nb : Prop}
theorem take_flat {α : Type} {bs : List (List α)} {i : Nat} (h : i < bs.length) : (bs.take (i + 1)).flatten = (bs.take i).flatten ++ bs[i] := by
  rw [List.take_add_one, List.getElem?_eq_getElem h, List.flatten_append]
  simp
theorem flat_le {α : Type} : ∀ (bs : List (List α)) (i : Nat), (bs.take i).flatten.length ≤ bs.flatten.length
  | [], i => by simp
  | b :: bs, 0 => by simp
  | b :: bs, i + 1 => by
    have := flat_le bs i
    simp only [List.take_succ_cons, List.flatten_cons, List.length_append]
    omega
/-- where the sum lies: the start, one of the parts, a new place -/
def SumAt (nb : Prop) (st : Addr) (b0 : List Value) (its : List Addr) (bs : List (List Value)) (sz : Nat) (i : Nat) (t : Addr) : Prop :=
  (t = st ∧ ∀ j, j < i → bs[j]? = some []) ∨ (nb ∧ b0 = [] ∧ ∃ j, j < i ∧ its[j]? = some t ∧ ∀ k, k < i → k ≠ j → bs[k]? = some []) ∨ sz ≤ t
theorem flat_nil {α : Type} : ∀ {bs : List (List α)} {i : Nat}, i ≤ bs.length → (bs.take i).flatten = [] → ∀ j, j < i → bs[j]? = some []
  | [], _, h, _, j, hj => by simp at h; omega
  | b :: bs, 0, _, _, j, hj => by omega
  | b :: bs, i + 1, h, e, 0, _ => by
    simp only [List.take_succ_cons, List.flatten_cons, List.append_eq_nil_iff] at e
    rw [List.getElem?_cons_zero, e.1]
  | b :: bs, i + 1, h, e, j + 1, hj => by
    simp only [List.take_succ_cons, List.flatten_cons, List.append_eq_nil_iff] at e
    rw [List.getElem?_cons_succ]
    exact flat_nil (by simpa using h) e.2 j (by omega)
theorem sum_seqs {x : Value} {st : Addr} {b0 : List Value} {its : List Addr} {bs : List (List Value)} {Q : Value → Shared → Prop} (SK : SeqK Kd ty nb) (hlen : its.length = bs.length)
    (hst : Kd s.heap st b0) (hits : ∀ (i : Nat) (a : Addr) (ys : List Value), its[i]? = some a → bs[i]? = some ys → Kd s.heap a ys) (hz : b0.length + bs.flatten.length ≤ sizeLine)
    (hit : ∀ (Q : Value → Shared → Prop), (∀ o fp St, (∀ b ∈ fp, b < s.heap.objs.size + 1) → Walks prog w A.in1 s.heap.objs.size fp [s.heap.objs.size] its.length (fun i v => (its.map Value.ref).toArray[i]? = some v) St → St 0 (s.heap.push o) → (∀ i h, St i h → h.get? s.heap.objs.size ≠ none) → Q (.ref s.heap.objs.size) { s with heap := s.heap.push o }) → wpAny (model prog w) A.in1 (pyIter x) Q E s)
    (h : ∀ h' tk t', SumAt nb st b0 its bs s.heap.objs.size its.length t' → Kd h' t' (b0 ++ bs.flatten) → (∀ b o, s.heap.get? b = some o → h'.get? b = some o) → Q (.ref t') { s with heap := h', toks := tk }) :
    wpAny (model prog w) A (call (.builtin "sum") [x, .ref st]) Q E s := by
  obtain ⟨so, se, sc, sk⟩ := SK.at_ hst
  refine call_sum_walkR (ty := ty) ⟨so, se, sc⟩ SK.s1 SK.s2 SK.s3 (hit _ fun o fp St hfp W h0 hSt => ?_)
  have hI : ∀ (a : Addr), s.heap.get? a ≠ none → a ≠ s.heap.objs.size := fun a ha e => by
    rw [e, Heap.get?_none_of_le (Nat.le_refl _)] at ha
    exact ha rfl
  refine ⟨s.heap.objs.size, fp, [s.heap.objs.size], its.length, _, St, fun S i t h => (SumAt nb st b0 its bs s.heap.objs.size i t ∧ Kd h t (b0 ++ (bs.take i).flatten)) ∧ t ≠ s.heap.objs.size ∧ t ≠ S ∧ ∀ (j : Nat) (a : Addr) (ys : List Value), its[j]? = some a → bs[j]? = some ys → Kd h a ys ∧ a ≠ s.heap.objs.size ∧ a ≠ S, rfl, W, h0, fun b hb => ?_, ⟨so, Heap.get?_push_of_some _ se, sc⟩, ?_, ?_, ?_, ?_, ?_⟩
  · show b < (s.heap.push o).objs.size
    rw [Heap.size_push]
    exact hfp b hb
  · intro i h hs b hb
    rw [List.mem_singleton.mp hb]
    exact hSt i h hs
  · rintro i v h1 h2 S ⟨⟨k0, k1⟩, k2, k3, k4⟩ kp
    refine ⟨⟨k0, ?_⟩, k2, k3, fun j a ys e1 e2 => ?_⟩
    · obtain ⟨o1, g1, _, g2⟩ := SK.at_ k1
      exact g2 _ (kp _ _ (fun m => k2 (List.mem_singleton.mp m)) k3 g1)
    · obtain ⟨k5, k6, k7⟩ := k4 j a ys e1 e2
      obtain ⟨o1, g1, _, g2⟩ := SK.at_ k5
      exact ⟨g2 _ (kp _ _ (fun m => k6 (List.mem_singleton.mp m)) k7 g1), k6, k7⟩
  · rintro S i v t s2 Q2 E2 hi hP ⟨⟨k0, k1⟩, k2, k3, k4⟩ hS hw hq
    obtain ⟨a, ha⟩ : ∃ a, its[i]? = some a := ⟨_, List.getElem?_eq_getElem hi⟩
    obtain ⟨ys, hy⟩ : ∃ ys, bs[i]? = some ys := ⟨_, List.getElem?_eq_getElem (by omega)⟩
    have hv : v = .ref a := by
      have : (its.map Value.ref)[i]? = some v := by simpa using hP
      rw [List.getElem?_map, ha] at this
      simpa using this.symm
    subst hv
    obtain ⟨k5, k6, k7⟩ := k4 i a ys ha hy
    have e : (bs.take (i + 1)).flatten = (bs.take i).flatten ++ ys := by
      rw [List.take_add_one, hy, List.flatten_append]
      simp
    refine SK.add k1 k5 ?_ fun t' h' kp kd hn => hq t' h' s2.toks kp ⟨⟨?_, ?_⟩, ?_, ?_, fun j b zs e1 e2 => ?_⟩
    · have h1 := flat_le bs (i + 1)
      rw [e, List.length_append] at h1
      rw [List.length_append]
      omega
    · have hsz : s.heap.objs.size ≤ s2.heap.objs.size := by
        have h1 := hw _ (List.mem_singleton_self _)
        cases q : s2.heap.get? s.heap.objs.size with
        | none => exact absurd q h1
        | some u => exact Nat.le_of_lt (Heap.lt_size q)
      rcases hn with ⟨n1, rfl, rfl⟩ | ⟨n1, rfl, hx⟩ | hn
      · rcases k0 with ⟨rfl, z⟩ | ⟨z1, z2, j, z3, z4, z5⟩ | z
        · exact .inl ⟨rfl, fun j hj => if q : j = i then by rw [q]; exact hy else z j (by omega)⟩
        · exact .inr (.inl ⟨z1, z2, j, by omega, z4, fun k hk hkj => if q : k = i then by rw [q]; exact hy else z5 k (by omega) hkj⟩)
        · exact .inr (.inr z)
      · obtain ⟨x1, x2⟩ := List.append_eq_nil_iff.mp hx
        exact .inr (.inl ⟨n1, x1, i, by omega, ha, fun k hk hki => flat_nil (by omega) x2 k (by omega)⟩)
      · exact .inr (.inr (Nat.le_trans hsz hn))
    · rw [e, ← List.append_assoc]
      exact kd
    · rcases hn with ⟨_, rfl, _⟩ | ⟨_, rfl, _⟩ | hn
      · exact k2
      · exact k6
      · intro e0
        rw [e0] at hn
        exact hw _ (List.mem_singleton_self _) (Heap.get?_none_of_le hn)
    · rcases hn with ⟨_, rfl, _⟩ | ⟨_, rfl, _⟩ | hn
      · exact k3
      · exact k7
      · intro e0
        rw [e0] at hn
        exact hS (Heap.get?_none_of_le hn)
    · obtain ⟨g1, g2, g3⟩ := k4 j b zs e1 e2
      obtain ⟨o1, g4, _, g5⟩ := SK.at_ g1
      exact ⟨g5 _ (kp _ _ g4), g2, g3⟩
  · intro h' kp
    have sz : ∀ {c : Addr} {u : Obj}, s.heap.get? c = some u → c ≠ (s.heap.push o).objs.size ∧ c ≠ s.heap.objs.size := fun e => by
      have := Heap.lt_size e
      rw [Heap.size_push]
      exact ⟨Nat.ne_of_lt (Nat.lt_succ_of_lt this), Nat.ne_of_lt this⟩
    refine ⟨⟨.inl ⟨rfl, fun j hj => absurd hj (Nat.not_lt_zero j)⟩, ?_⟩, (sz se).2, (sz se).1, fun j a ys e1 e2 => ?_⟩
    · simp only [List.take_zero, List.flatten_nil, List.append_nil]
      exact sk _ (kp _ _ (Heap.get?_push_of_some _ se))
    · obtain ⟨o1, g1, _, g2⟩ := SK.at_ (hits j a ys e1 e2)
      exact ⟨g2 _ (kp _ _ (Heap.get?_push_of_some _ g1)), (sz g1).2, (sz g1).1⟩
  · rintro h' tk t' S ⟨⟨k0, k1⟩, _⟩ kp
    refine h h' tk t' k0 ?_ fun b u e => kp b u (fun m => ?_) (Heap.get?_push_of_some _ e)
    · rw [hlen, List.take_length] at k1
      exact k1
    · have := Heap.lt_size e
      rw [List.mem_singleton.mp m] at this
      exact Nat.lt_irrefl _ this
end
end PySem

set_option Elab.async false
set_option linter.all false
set_option maxRecDepth 100000
set_option maxHeartbeats 4000000
namespace PySem
open PyProof.Rows
section
variable {prog : Program} {w : World} {A : Around} {E : Value → Shared → Prop} {s : Shared}
theorem hit_list (hh : A.handled = none) {l : Addr} {its : List Addr} (hl : s.heap.IsList l (its.map Value.ref).toArray) (Q : Value → Shared → Prop)
    (h : ∀ o fp St, (∀ b ∈ fp, b < s.heap.objs.size + 1) → Walks prog w A.in1 s.heap.objs.size fp [s.heap.objs.size] its.length (fun i v => (its.map Value.ref).toArray[i]? = some v) St → St 0 (s.heap.push o) → (∀ i h, St i h → h.get? s.heap.objs.size ≠ none) → Q (.ref s.heap.objs.size) { s with heap := s.heap.push o }) : wpAny (model prog w) A.in1 (pyIter (.ref l)) Q E s := by
  have hlt : l < s.heap.objs.size := by obtain ⟨_, e, _⟩ := hl; exact Heap.lt_size e
  refine wpAny_pyIter_list hl (h _ [s.heap.objs.size, l] (fun i h => h.IsListIter s.heap.objs.size l i ∧ h.IsList l (its.map Value.ref).toArray) (fun b hb => ?_) (by
    have W := Walks.list (prog := prog) (w := w) (A := A.in1) hh s.heap.objs.size l (Nat.ne_of_lt hlt) (its.map Value.ref).toArray
    have e : (its.map Value.ref).toArray.size = its.length := by simp
    rw [e] at W
    exact W) ⟨⟨_, Heap.get?_push_size _ rfl, rfl, rfl⟩, hl.push _⟩ fun i h st => ?_)
  · rcases List.mem_cons.mp hb with rfl | hb
    · exact Nat.lt_succ_self _
    · rw [List.mem_singleton.mp hb]; exact Nat.lt_succ_of_lt hlt
  · obtain ⟨⟨o, e, _⟩, _⟩ := st
    rw [e]
    simp
theorem hit_tuple (hh : A.handled = none) {l : Addr} {its : List Addr} (hl : s.heap.IsTuple l (its.map Value.ref).toArray) (Q : Value → Shared → Prop)
    (h : ∀ o fp St, (∀ b ∈ fp, b < s.heap.objs.size + 1) → Walks prog w A.in1 s.heap.objs.size fp [s.heap.objs.size] its.length (fun i v => (its.map Value.ref).toArray[i]? = some v) St → St 0 (s.heap.push o) → (∀ i h, St i h → h.get? s.heap.objs.size ≠ none) → Q (.ref s.heap.objs.size) { s with heap := s.heap.push o }) : wpAny (model prog w) A.in1 (pyIter (.ref l)) Q E s := by
  have hlt : l < s.heap.objs.size := by obtain ⟨_, e, _⟩ := hl; exact Heap.lt_size e
  refine wpAny_pyIter_tuple hl (h _ [s.heap.objs.size, l] (fun i h => h.IsTupleIter s.heap.objs.size l i ∧ h.IsTuple l (its.map Value.ref).toArray) (fun b hb => ?_) (by
    have W := Walks.tuple (prog := prog) (w := w) (A := A.in1) hh s.heap.objs.size l (Nat.ne_of_lt hlt) (its.map Value.ref).toArray
    have e : (its.map Value.ref).toArray.size = its.length := by simp
    rw [e] at W
    exact W) ⟨⟨_, Heap.get?_push_size _ rfl, rfl, rfl⟩, hl.push _⟩ fun i h st => ?_)
  · rcases List.mem_cons.mp hb with rfl | hb
    · exact Nat.lt_succ_self _
    · rw [List.mem_singleton.mp hb]; exact Nat.lt_succ_of_lt hlt
  · obtain ⟨⟨o, e, _⟩, _⟩ := st
    rw [e]
    simp
end
end PySem
namespace Z
open PySem PySem.Spec PyProof.Rows L2
theorem vals_refs : ∀ {as : List Addr} {its : List Value}, Vals (as.map V.ref) its → its = as.map Value.ref
  | [], _, .nil => rfl
  | a :: as, _, .cons r t => by
    cases r
    rw [vals_refs t]
    rfl
theorem paired_get {α β : Type} {F : α → β → Prop} {xs : List α} {ys : List β} (h : Paired F xs ys) : ∀ {i : Nat} {x : α} {y : β}, xs[i]? = some x → ys[i]? = some y → F x y := by
  induction h with
  | nil => intro i x y e; simp at e
  | cons a r ih =>
    intro i x y e1 e2
    cases i with
    | zero => simp at e1 e2; subst e1; subst e2; exact a
    | succ i => exact ih (by simpa using e1) (by simpa using e2)
theorem paired_len {α β : Type} {F : α → β → Prop} {xs : List α} {ys : List β} (h : Paired F xs ys) : xs.length = ys.length := by
  induction h with
  | nil => rfl
  | cons a r ih => simp [ih]
theorem vals_flat {yss : List (List V)} {bs : List (List Value)} (h : Paired Vals yss bs) : Vals yss.flatten bs.flatten := by
  induction h with
  | nil => exact .nil
  | cons a r ih => rw [List.flatten_cons, List.flatten_cons]; exact a.append ih
theorem emp_of {yss : List (List V)} {bs : List (List Value)} (h : Paired Vals yss bs) {k : Nat} (e : bs[k]? = some []) : yss[k]? = some [] := by
  have hk : k < bs.length := (List.getElem?_eq_some_iff.mp e).1
  have hk2 : k < yss.length := by rw [paired_len h]; exact hk
  have hv := paired_get h (List.getElem?_eq_getElem hk2) e
  rw [List.getElem?_eq_getElem hk2]
  have := hv.length
  rw [List.length_nil] at this
  rw [List.length_eq_zero_iff.mp this]
section
variable {X : Cx} {pins : List (Addr × Obj)} {σ : L2.St} {H : Hp} {s : Shared}
theorem tups_in (I : Inv X pins σ H s) {as : List Addr} {yss : List (List V)} (h : Paired (fun b ys => SqT X.K H b ys) as yss) : ∃ bs, Paired Vals yss bs ∧ Paired (fun b zs => isTpl s.heap b zs) as bs := by
  induction h with
  | nil => exact ⟨[], .nil, .nil⟩
  | cons a r ih =>
    obtain ⟨bs, h1, h2⟩ := ih
    obtain ⟨its, r1, p1, _⟩ := I.tuple a
    exact ⟨its :: bs, .cons r1 h1, .cons p1 h2⟩
theorem lsts_in (I : Inv X pins σ H s) {as : List Addr} {yss : List (List V)} (h : Paired (fun b ys => H b = some (.lst ys)) as yss) : ∃ bs, Paired Vals yss bs ∧ Paired (fun b zs => isLst s.heap b zs) as bs := by
  induction h with
  | nil => exact ⟨[], .nil, .nil⟩
  | cons a r ih =>
    obtain ⟨bs, h1, h2⟩ := ih
    obtain ⟨z, its, n, r1, hl, e⟩ := I.lstM a
    exact ⟨its :: bs, .cons r1 h1, .cons ⟨n, e⟩ h2⟩
end
section
variable {X : Cx}
/-- sum(t, u): a tuple of tuples, a tuple -/
def rSumT (K : PySem.W.Frag) : List V → Hp → VK → Prop := fun vs H Q => ∃ (a st : Addr) (as : List Addr) (yss : List (List V)) (b0 : List V), vs = [.ref a, .ref st] ∧ SqT K H a (as.map V.ref) ∧ Paired (fun b ys => SqT K H b ys) as yss ∧ SqT K H st b0 ∧ b0.length + yss.flatten.length ≤ sizeLine ∧
  ((∀ j, j < as.length → yss[j]? = some []) → Q (.ref st) H) ∧ (∀ (j : Nat) (b : Addr), as[j]? = some b → b0 = [] → (∀ k, k < as.length → k ≠ j → yss[k]? = some []) → Q (.ref b) H) ∧ ∀ p, H p = none → Q (.ref p) (upd H p (.tup (b0 ++ yss.flatten)))
theorem cr_sumT (hc : X.calm = true) : CallR X (.builtin "sum") (rSumT X.K) := by
  intro pins s σ H vs us Q I r h
  obtain ⟨a, st, as, yss, b0, rfl, ha, hy, hs, hz, q1, q2, q3⟩ := h
  cases r with
  | cons ra r =>
  cases r with
  | cons rb r =>
  cases r
  cases ra
  cases rb
  obtain ⟨its, r1, p1, _⟩ := I.tuple ha
  obtain rfl := vals_refs r1
  obtain ⟨c0, r2, p2, _⟩ := I.tuple hs
  obtain ⟨bs, h1, h2⟩ := tups_in I hy
  have hfl := vals_flat h1
  refine sum_seqs seqK_tuple (paired_len h2) (show isTpl s.heap st c0 from p2) (fun i a ys e1 e2 => paired_get h2 e1 e2) (by rw [← r2.length, ← hfl.length]; exact hz) (fun Q h => hit_tuple (I.ok.hd hc) p1 Q h) fun h' tk t' hn kd kp => ?_
  rcases hn with ⟨rfl, z⟩ | ⟨_, z1, j, z2, z3, z4⟩ | z
  · exact ⟨.ref t', H, I.kept kp, rfl, q1 fun j hj => emp_of h1 (z j hj)⟩
  · refine ⟨.ref t', H, I.kept kp, rfl, q2 j t' z3 ?_ fun k hk hkj => emp_of h1 (z4 k hk hkj)⟩
    have := r2.length
    rw [z1, List.length_nil] at this
    exact List.length_eq_zero_iff.mp this
  · exact ⟨.ref t', _, I.laid (o := .tup (b0 ++ yss.flatten)) kp z ⟨by rw [List.length_append]; exact hz, c0 ++ bs.flatten, r2.append hfl, kd⟩, rfl, q3 t' (I.hok.fresh z)⟩
/-- sum(l, m): a list of lists, a list -/
def rSumL : List V → Hp → VK → Prop := fun vs H Q => ∃ (a st : Addr) (as : List Addr) (yss : List (List V)) (b0 : List V), vs = [.ref a, .ref st] ∧ H a = some (.lst (as.map V.ref)) ∧ Paired (fun b ys => H b = some (.lst ys)) as yss ∧ H st = some (.lst b0) ∧ b0.length + yss.flatten.length ≤ sizeLine ∧
  ((∀ j, j < as.length → yss[j]? = some []) → Q (.ref st) H) ∧ ∀ p, H p = none → Q (.ref p) (upd H p (.lst (b0 ++ yss.flatten)))
theorem cr_sumL (hc : X.calm = true) : CallR X (.builtin "sum") rSumL := by
  intro pins s σ H vs us Q I r h
  obtain ⟨a, st, as, yss, b0, rfl, ha, hy, hs, hz, q1, q3⟩ := h
  cases r with
  | cons ra r =>
  cases r with
  | cons rb r =>
  cases r
  cases ra
  cases rb
  obtain ⟨_, its, n, r1, _, e1⟩ := I.lstM ha
  obtain rfl := vals_refs r1
  obtain ⟨_, c0, m, r2, _, e2⟩ := I.lstM hs
  obtain ⟨bs, h1, h2⟩ := lsts_in I hy
  have hfl := vals_flat h1
  refine sum_seqs seqK_list (paired_len h2) (show isLst s.heap st c0 from ⟨m, e2⟩) (fun i a ys e1 e2 => paired_get h2 e1 e2) (by rw [← r2.length, ← hfl.length]; exact hz) (fun Q h => hit_list (I.ok.hd hc) ⟨_, e1, rfl, n, rfl⟩ Q h) fun h' tk t' hn kd kp => ?_
  rcases hn with ⟨rfl, z⟩ | ⟨z0, _⟩ | z
  · exact ⟨.ref t', H, I.kept kp, rfl, q1 fun j hj => emp_of h1 (z j hj)⟩
  · exact z0.elim
  · obtain ⟨n2, kd⟩ := kd
    exact ⟨.ref t', _, I.laid (o := .lst (b0 ++ yss.flatten)) kp z ⟨by rw [List.length_append]; exact hz, c0 ++ bs.flatten, n2, r2.append hfl, kd⟩, rfl, q3 t' (I.hok.fresh z)⟩
end
end Z

set_option Elab.async false
set_option linter.all false
set_option maxRecDepth 100000
set_option maxHeartbeats 4000000
namespace Z
open PySem PySem.Spec PyProof.Rows L2

/-! ### equality -/
mutual
def toP : D → PyData
  | .non => .none
  | .bl b => .bool b
  | .int i => .int i
  | .str x => .str x
  | .tup ds => .tuple (toPs ds)
  | .lst ds => .list (toPs ds)
  | .dct _ _ => .dict []
  | .obj _ _ _ => .dict []
  | .scr _ => .dict []
def toPs : List D → List PyData
  | [] => []
  | d :: ds => toP d :: toPs ds
end
section
variable {K : PySem.W.Frag} {M : Addr → Prop} {H : Hp}
mutual
theorem At.dp : ∀ {d : D} {v : V}, At K M H v d → (toP d).canLay0 = true → Dp K H v (toP d)
  | .non, _, h, _ => by cases h; exact .non
  | .bl b, _, h, _ => by cases h; exact .bl b
  | .int i, _, h, _ => by cases h; exact .int i
  | .str x, _, h, _ => by cases h; exact .str x
  | .tup ds, _, h, c => by
    cases h with
    | tup e m r => exact .tup (SqT.of e) (Ats.dp r c)
  | .lst ds, _, h, c => by
    cases h with
    | lst e m r => exact .lst (SqL.of e) (Ats.dp r c)
  | .dct _ _, _, h, c => by cases c
  | .obj _ _ _, _, h, c => by cases c
  | .scr _, _, h, c => by cases c
theorem Ats.dp : ∀ {ds : List D} {vs : List V}, Ats K M H vs ds → PyData.canLayAll0 (toPs ds) = true → DpAll K H vs (toPs ds)
  | [], _, h, _ => by cases h; exact .nil
  | d :: ds, _, h, c => by
    cases h with
    | cons a r =>
      have c' : ((toP d).canLay0 && PyData.canLayAll0 (toPs ds)) = true := c
      rw [Bool.and_eq_true] at c'
      exact .cons (At.dp a c'.1) (Ats.dp r c'.2)
end
theorem Vw.dp {d : D} {v : V} (h : Vw K M H v d) (c : (toP d).canLay0 = true) : Dp K H v (toP d) := by
  cases h with
  | at_ h => exact h.dp c
  | own e r => exact .lst (SqL.of e) (r.dp c)
end
def Shp (d : D) : Prop := SeqAt.shaped (toP d) = true
def eqD : D → D → (Bool → Prop) → Prop
  | .int i, .int j, Q => Q (decide (i = j))
  | .str a, .str b, Q => Q (decide (a = b))
  | x, y, Q => Shp x ∧ Shp y ∧ Q (PyData.eqv (toP x) (toP y))
def flat : D → Bool
  | .non => true
  | .bl _ => true
  | .int _ => true
  | .str _ => true
  | _ => false
def toV : D → V
  | .non => .non
  | .bl b => .bl b
  | .int i => .int i
  | .str x => .str x
  | _ => .non
def inD : D → D → (Bool → Prop) → Prop
  | .str x, .str z, Q => ∃ c : Nat, x = ⟨#[c]⟩ ∧ Q (decide (c ∈ z.cps.toList))
  | x, .lst ds, Q => flat x = true ∧ ds.all flat = true ∧ Q (inV (toV x) (ds.map toV))
  | x, .tup ds, Q => flat x = true ∧ ds.all flat = true ∧ Q (inV (toV x) (ds.map toV))
  | _, _, _ => False
def isD : D → D → (Bool → Prop) → Prop
  | .non, .non, Q => Q true
  | _, .non, Q => Q false
  | _, _, _ => False
def cmpD : CmpOp → D → D → (Bool → Prop) → Prop
  | .Eq, x, y, Q => eqD x y Q
  | .NotEq, x, y, Q => eqD x y fun b => Q (!b)
  | .Lt, .int i, .int j, Q => Q (decide (i < j))
  | .LtE, .int i, .int j, Q => Q (decide (i ≤ j))
  | .Gt, .int i, .int j, Q => Q (decide (j < i))
  | .GtE, .int i, .int j, Q => Q (decide (j ≤ i))
  | .Lt, .str i, .str j, Q => Q (decide (i.cps.toList < j.cps.toList))
  | .Is, x, y, Q => isD x y Q
  | .IsNot, x, y, Q => isD x y fun b => Q (!b)
  | .In, x, y, Q => inD x y Q
  | .NotIn, x, y, Q => inD x y fun b => Q (!b)
  | _, _, _, _ => False
/-- a comparison on values -/
def rC (G : Gx) (op : D → D → (Bool → Prop) → Prop) : R2 := fun v w H Q => ∃ B α O x y Q0, Own G B α O H ∧ Vw G.K (Mu B α O) H v x ∧ Vw G.K (Mu B α O) H w y ∧ op x y Q0 ∧ ∀ b, Q0 b → Q (.bl b) H
section
variable {X : Cx} {G : Gx}
theorem flat_v {K : PySem.W.Frag} {M : Addr → Prop} {H : Hp} {v : V} {x : D} (h : At K M H v x) (f : flat x = true) : v = toV x ∧ flatV (toV x) = true := by
  cases h <;> first | exact ⟨rfl, rfl⟩ | cases f
theorem flat_vw {K : PySem.W.Frag} {M : Addr → Prop} {H : Hp} {v : V} {x : D} (h : Vw K M H v x) (f : flat x = true) : v = toV x ∧ flatV (toV x) = true := by
  cases h with
  | at_ h => exact flat_v h f
  | own _ _ => cases f
theorem flat_vs {K : PySem.W.Frag} {M : Addr → Prop} {H : Hp} : ∀ {vs : List V} {ds : List D}, Ats K M H vs ds → ds.all flat = true → vs = ds.map toV ∧ (ds.map toV).all flatV = true
  | _, _, .nil, _ => ⟨rfl, rfl⟩
  | _, _, .cons a r, f => by
    rw [List.all_cons, Bool.and_eq_true] at f
    obtain ⟨e1, e2⟩ := flat_v a f.1
    obtain ⟨e3, e4⟩ := flat_vs r f.2
    refine ⟨by rw [e1, e3] <;> rfl, ?_⟩
    rw [List.map_cons, List.all_cons, Bool.and_eq_true]
    exact ⟨e2, e4⟩
theorem eq_deep (hu : X.A.units + 64 < cLine) (hK : X.K = G.K) {pins : List (Addr × Obj)} {s : Shared} {σ : L2.St} {H : Hp} {v w : V} {v' w' : Value} {Q : VK} (I : Inv X pins σ H s) (rv : RelV v v') (rw' : RelV w w') {M : Addr → Prop} {x y : D}
    (ax : Vw G.K M H v x) (ay : Vw G.K M H w y) {Q0 : Bool → Prop} (h : Shp x ∧ Shp y ∧ Q0 (PyData.eqv (toP x) (toP y))) (hq : ∀ b, Q0 b → Q (.bl b) H) : wpAny (model X.prog X.w) X.A (compareOp .Eq v' w') (EP X pins σ Q) X.xe s :=
  op_eqD hu pins s σ H v w v' w' Q I rv rw' ⟨_, _, by rw [hK]; exact ax.dp (SeqAt.canLay_of_shaped h.1), by rw [hK]; exact ay.dp (SeqAt.canLay_of_shaped h.2.1), h.1, h.2.1, hq _ h.2.2⟩
theorem ne_deep (hu : X.A.units + 64 < cLine) (hK : X.K = G.K) {pins : List (Addr × Obj)} {s : Shared} {σ : L2.St} {H : Hp} {v w : V} {v' w' : Value} {Q : VK} (I : Inv X pins σ H s) (rv : RelV v v') (rw' : RelV w w') {M : Addr → Prop} {x y : D}
    (ax : Vw G.K M H v x) (ay : Vw G.K M H w y) {Q0 : Bool → Prop} (h : Shp x ∧ Shp y ∧ Q0 (!PyData.eqv (toP x) (toP y))) (hq : ∀ b, Q0 b → Q (.bl b) H) : wpAny (model X.prog X.w) X.A (compareOp .NotEq v' w') (EP X pins σ Q) X.xe s :=
  op_neD hu pins s σ H v w v' w' Q I rv rw' ⟨_, _, by rw [hK]; exact ax.dp (SeqAt.canLay_of_shaped h.1), by rw [hK]; exact ay.dp (SeqAt.canLay_of_shaped h.2.1), h.1, h.2.1, hq _ h.2.2⟩
theorem eqD_split {x y : D} {Q : Bool → Prop} (h : eqD x y Q) : (∃ i j, x = .int i ∧ y = .int j ∧ Q (decide (i = j))) ∨ (∃ i j, x = .str i ∧ y = .str j ∧ Q (decide (i = j))) ∨ (Shp x ∧ Shp y ∧ Q (PyData.eqv (toP x) (toP y))) := by
  unfold eqD at h
  split at h
  · exact .inl ⟨_, _, rfl, rfl, h⟩
  · exact .inr (.inl ⟨_, _, rfl, rfl, h⟩)
  · exact .inr (.inr h)
theorem opc_eq (hu : X.A.units + 64 < cLine) (hK : X.K = G.K) : OpR X (compareOp .Eq) (rC G eqD) := by
  intro pins s σ H v w v' w' Q I rv rw' ⟨B, α, O, x, y, Q0, ow, ax, ay, h, hq⟩
  rcases eqD_split h with ⟨i, j, rfl, rfl, h⟩ | ⟨i, j, rfl, rfl, h⟩ | h
  · obtain rfl := ax.int
    obtain rfl := ay.int
    exact op_eq pins s σ H _ _ v' w' Q I rv rw' ⟨rfl, by have := hq _ h; simpa using this⟩
  · obtain rfl := ax.str
    obtain rfl := ay.str
    exact op_eq pins s σ H _ _ v' w' Q I rv rw' ⟨rfl, by have := hq _ h; simpa using this⟩
  · exact eq_deep hu hK I rv rw' ax ay h hq
theorem opc_ne (hu : X.A.units + 64 < cLine) (hK : X.K = G.K) : OpR X (compareOp .NotEq) (rC G fun x y Q => eqD x y fun b => Q (!b)) := by
  intro pins s σ H v w v' w' Q I rv rw' ⟨B, α, O, x, y, Q0, ow, ax, ay, h, hq⟩
  rcases eqD_split h with ⟨i, j, rfl, rfl, h⟩ | ⟨i, j, rfl, rfl, h⟩ | h
  · obtain rfl := ax.int
    obtain rfl := ay.int
    exact op_ne pins s σ H _ _ v' w' Q I rv rw' ⟨rfl, by have := hq _ h; simpa using this⟩
  · obtain rfl := ax.str
    obtain rfl := ay.str
    exact op_ne pins s σ H _ _ v' w' Q I rv rw' ⟨rfl, by have := hq _ h; simpa using this⟩
  · exact ne_deep hu hK I rv rw' ax ay h hq
theorem isD_split {x y : D} {Q : Bool → Prop} (h : isD x y Q) : y = .non ∧ ((x = .non ∧ Q true) ∨ (x ≠ .non ∧ Q false)) := by
  unfold isD at h
  split at h
  · exact ⟨rfl, .inl ⟨rfl, h⟩⟩
  · rename_i z
    exact ⟨rfl, .inr ⟨z, h⟩⟩
  · exact h.elim
theorem vw_nonnon {K : PySem.W.Frag} {M : Addr → Prop} {H : Hp} {v : V} {x : D} (h : Vw K M H v x) (n : x ≠ .non) : v ≠ .non := by
  cases h with
  | at_ h => cases h <;> first | exact absurd rfl n | (intro z; cases z)
  | own _ _ => intro z; cases z
theorem opc_is (hK : X.K = G.K) : OpR X (compareOp .Is) (rC G isD) := by
  intro pins s σ H v w v' w' Q I rv rw' ⟨B, α, O, x, y, Q0, ow, ax, ay, h, hq⟩
  obtain ⟨rfl, h2⟩ := isD_split h
  obtain rfl := ay.non
  rcases h2 with ⟨rfl, h⟩ | ⟨n, h⟩
  · obtain rfl := ax.non
    exact op_isN pins s σ H _ _ v' w' Q I rv rw' ⟨rfl, by have := hq _ h; simpa using this⟩
  · exact op_isN pins s σ H _ _ v' w' Q I rv rw' ⟨rfl, by rw [decide_eq_false (vw_nonnon ax n)]; exact hq _ h⟩
theorem opc_isnot (hK : X.K = G.K) : OpR X (compareOp .IsNot) (rC G fun x y Q => isD x y fun b => Q (!b)) := by
  intro pins s σ H v w v' w' Q I rv rw' ⟨B, α, O, x, y, Q0, ow, ax, ay, h, hq⟩
  obtain ⟨rfl, h2⟩ := isD_split h
  obtain rfl := ay.non
  rcases h2 with ⟨rfl, h⟩ | ⟨n, h⟩
  · obtain rfl := ax.non
    exact op_notN pins s σ H _ _ v' w' Q I rv rw' ⟨rfl, by have := hq _ h; simpa using this⟩
  · exact op_notN pins s σ H _ _ v' w' Q I rv rw' ⟨rfl, by rw [decide_eq_false (vw_nonnon ax n)]; exact hq _ h⟩
theorem inD_split {x y : D} {Q : Bool → Prop} (h : inD x y Q) : (∃ (c : Nat) (z : Str), x = .str ⟨#[c]⟩ ∧ y = .str z ∧ Q (decide (c ∈ z.cps.toList))) ∨ (∃ ds, (y = .lst ds ∨ y = .tup ds) ∧ flat x = true ∧ ds.all flat = true ∧ Q (inV (toV x) (ds.map toV))) := by
  unfold inD at h
  split at h
  · obtain ⟨c, rfl, h⟩ := h
    exact .inl ⟨c, _, rfl, rfl, h⟩
  · exact .inr ⟨_, .inl rfl, h⟩
  · exact .inr ⟨_, .inr rfl, h⟩
  · exact h.elim
theorem vw_seq {K : PySem.W.Frag} {M : Addr → Prop} {H : Hp} {v : V} {y : D} {ds : List D} (h : Vw K M H v y) (e : y = .lst ds ∨ y = .tup ds) : ∃ a vs, v = .ref a ∧ (SqL K H a vs ∨ SqT K H a vs) ∧ Ats K M H vs ds := by
  rcases e with rfl | rfl
  · obtain ⟨a, vs, rfl, e, r⟩ := h.lst
    exact ⟨a, vs, rfl, .inl (SqL.of e), r⟩
  · obtain ⟨a, vs, rfl, e, r⟩ := h.tup
    exact ⟨a, vs, rfl, .inr (SqT.of e), r⟩
theorem opc_in (hK : X.K = G.K) : OpR X (compareOp .In) (rC G inD) := by
  intro pins s σ H v w v' w' Q I rv rw' ⟨B, α, O, x, y, Q0, ow, ax, ay, h, hq⟩
  rcases inD_split h with ⟨c, z, rfl, rfl, h2⟩ | ⟨ds, e, f1, f2, h⟩
  · obtain rfl := ax.str
    obtain rfl := ay.str
    exact op_in_sign pins s σ H _ _ v' w' Q I rv rw' ⟨c, z, rfl, rfl, hq _ h2⟩
  · obtain ⟨a, vs, rfl, hs, r⟩ := vw_seq ay e
    obtain ⟨rfl, g1⟩ := flat_vw ax f1
    obtain ⟨rfl, g2⟩ := flat_vs r f2
    exact op_in_seq pins s σ H _ _ v' w' Q I rv rw' ⟨a, _, rfl, by rw [hK]; exact hs, g1, g2, hq _ h⟩
theorem opc_notin (hK : X.K = G.K) : OpR X (compareOp .NotIn) (rC G fun x y Q => inD x y fun b => Q (!b)) := by
  intro pins s σ H v w v' w' Q I rv rw' ⟨B, α, O, x, y, Q0, ow, ax, ay, h, hq⟩
  rcases inD_split h with ⟨c, z, rfl, rfl, h2⟩ | ⟨ds, e, f1, f2, h⟩
  · obtain rfl := ax.str
    obtain rfl := ay.str
    exact op_notIn_sign pins s σ H _ _ v' w' Q I rv rw' ⟨c, z, rfl, rfl, hq _ h2⟩
  · obtain ⟨a, vs, rfl, hs, r⟩ := vw_seq ay e
    obtain ⟨rfl, g1⟩ := flat_vw ax f1
    obtain ⟨rfl, g2⟩ := flat_vs r f2
    exact op_notIn_seq pins s σ H _ _ v' w' Q I rv rw' ⟨a, _, rfl, by rw [hK]; exact hs, g1, g2, hq _ h⟩
theorem opc_int {op : CmpOp} {p : Int → Int → Bool} (o : OpR X (compareOp op) (rI0 fun i j => .bl (p i j))) {f : D → D → (Bool → Prop) → Prop} (hf : ∀ x y Q, f x y Q → ∃ i j, x = .int i ∧ y = .int j ∧ Q (p i j)) : OpR X (compareOp op) (rC G f) := by
  intro pins s σ H v w v' w' Q I rv rw' ⟨B, α, O, x, y, Q0, ow, ax, ay, h, hq⟩
  obtain ⟨i, j, rfl, rfl, h2⟩ := hf _ _ _ h
  obtain rfl := ax.int
  obtain rfl := ay.int
  exact o pins s σ H _ _ v' w' Q I rv rw' ⟨i, j, rfl, rfl, hq _ h2⟩
theorem opc_lt : OpR X (compareOp .Lt) (rC G (cmpD .Lt)) := by
  intro pins s σ H v w v' w' Q I rv rw' ⟨B, α, O, x, y, Q0, ow, ax, ay, h, hq⟩
  cases x with
  | int i =>
    cases y with
    | int j =>
      obtain rfl := ax.int
      obtain rfl := ay.int
      exact op_lt pins s σ H _ _ v' w' Q I rv rw' ⟨i, j, rfl, rfl, hq _ h⟩
    | _ => exact h.elim
  | str i =>
    cases y with
    | str j =>
      obtain rfl := ax.str
      obtain rfl := ay.str
      exact op_lt_str pins s σ H _ _ v' w' Q I rv rw' ⟨i, j, rfl, rfl, hq _ h⟩
    | _ => exact h.elim
  | _ => exact h.elim
theorem opc_all (hu : X.A.units + 64 < cLine) (hK : X.K = G.K) : ∀ op, OpR X (compareOp op) (rC G (cmpD op))
  | .Eq => opc_eq hu hK
  | .NotEq => opc_ne hu hK
  | .Lt => opc_lt
  | .LtE => opc_int op_le fun x y Q h => by cases x <;> cases y <;> first | exact h.elim | exact ⟨_, _, rfl, rfl, h⟩
  | .Gt => opc_int op_gt fun x y Q h => by cases x <;> cases y <;> first | exact h.elim | exact ⟨_, _, rfl, rfl, h⟩
  | .GtE => opc_int op_ge fun x y Q h => by cases x <;> cases y <;> first | exact h.elim | exact ⟨_, _, rfl, rfl, h⟩
  | .Is => opc_is hK
  | .IsNot => opc_isnot hK
  | .In => opc_in hK
  | .NotIn => opc_notin hK
end

/-! ### places and cuts -/
def ixD : D → D → (D → Prop) → Prop
  | .lst ds, .int i, Q => ∃ d, atI ds i = some d ∧ Q d
  | .tup ds, .int i, Q => ∃ d, atI ds i = some d ∧ Q d
  | .str z, .int i, Q => ∃ c, z.length ≤ sizeLine ∧ atI z.cps.toList i = some c ∧ Q (.str ⟨#[c]⟩)
  | _, _, _ => False
def cutL {β : Type} (xs : List β) (lo hi : Option Int) : List β := (xs.drop (HT.sIx xs.length 0 lo)).take (HT.sIx xs.length xs.length hi - HT.sIx xs.length 0 lo)
def slD : D → Option Int → Option Int → (D → Prop) → Prop
  | .lst ds, lo, hi, Q => Q (.lst (cutL ds lo hi))
  | .tup ds, lo, hi, Q => Q (.tup (cutL ds lo hi))
  | .scr ns, lo, hi, Q => Q (.lst ((cutL ns lo hi).map .int))
  | .str z, lo, hi, Q => z.length ≤ sizeLine ∧ Q (.str (cutS z lo hi))
  | _, _, _, _ => False
section
variable {X : Cx} {G : Gx} {K : PySem.W.Frag} {M : Addr → Prop} {H : Hp}
theorem Ats.atI {vs : List V} {ds : List D} (r : Ats K M H vs ds) {i : Int} {d : D} (e : atI ds i = some d) : ∃ v, L2.atI vs i = some v ∧ At K M H v d := by
  unfold L2.atI at e ⊢
  rw [r.length]
  cases q : ixN ds.length i with
  | none => rw [q] at e; cases e
  | some j =>
    rw [q] at e
    exact r.get' (i := j) e
theorem Ats.cut {vs : List V} {ds : List D} (r : Ats K M H vs ds) (lo hi : Option Int) : Ats K M H (cutV vs lo hi) (cutL ds lo hi) := by
  unfold cutV cutL
  rw [r.length]
  exact (r.drop _).take _
theorem ix_r (hK : X.K = G.K) : IxR X (rB G ixD) := by
  intro value slice pins s σ H v w v' w' Q I rv rw' ⟨B, α, O, x, y, Q0, ow, ax, ay, h, hq⟩ hsub
  cases y with
  | int i =>
    obtain rfl := ay.int
    cases x with
    | lst ds =>
      obtain ⟨a, vs, rfl, e, r⟩ := ax.lst
      obtain ⟨d, e2, h⟩ := h
      obtain ⟨u, e3, au⟩ := r.atI e2
      exact ix_list value slice pins s σ H _ _ v' w' Q I rv rw' ⟨a, vs, i, u, rfl, rfl, SqL.of e, e3, rb_new ow h hq au⟩ hsub
    | tup ds =>
      obtain ⟨a, vs, rfl, e, r⟩ := ax.tup
      obtain ⟨d, e2, h⟩ := h
      obtain ⟨u, e3, au⟩ := r.atI e2
      exact ix_tup value slice pins s σ H _ _ v' w' Q I rv rw' ⟨a, vs, i, u, rfl, rfl, SqT.of e, e3, rb_new ow h hq au⟩ hsub
    | str z =>
      obtain rfl := ax.str
      obtain ⟨c, hz, e2, h⟩ := h
      exact ix_str value slice pins s σ H _ _ v' w' Q I rv rw' ⟨z, i, c, rfl, rfl, hz, e2, rb_new ow h hq (.str _)⟩ hsub
    | _ => exact h.elim
  | _ => cases x <;> exact h.elim
def rS (G : Gx) : V → Option Int → Option Int → Hp → VK → Prop := fun v lo hi H Q => ∃ B α O x Q0, Own G B α O H ∧ Vw G.K (Mu B α O) H v x ∧ slD x lo hi Q0 ∧
  ∀ z, Q0 z → ∀ v' H', Stp α O H α O H' → Own G B α O H' → At G.K (Mu B α O) H' v' z → Q v' H'
theorem cut_whole {β : Type} {xs : List β} {lo hi : Option Int} (h : HT.sIx xs.length 0 lo = 0 ∧ HT.sIx xs.length xs.length hi = xs.length) : cutL xs lo hi = xs := by
  unfold cutL
  rw [h.1, h.2]
  simp
theorem cut_map {β γ : Type} (f : β → γ) (xs : List β) (lo hi : Option Int) : cutL (xs.map f) lo hi = (cutL xs lo hi).map f := by
  unfold cutL
  rw [List.length_map, List.map_take, List.map_drop]
theorem sl_r (hK : X.K = G.K) : SlR X (rS G) := by
  intro pins s σ H v v' vl vu lo hi sl Q I rv hs pl pu ⟨B, α, O, x, Q0, ow, ax, h, hq⟩
  cases x with
  | lst ds =>
    obtain ⟨a, vs, rfl, e, r⟩ := ax.lst
    exact sl_list pins s σ H _ v' vl vu lo hi sl Q I rv hs pl pu ⟨a, vs, rfl, SqL.of e, rb_lst ow h hq (r.cut lo hi)⟩
  | scr ns =>
    obtain ⟨a, rfl, e⟩ := ax.scr
    refine sl_list pins s σ H _ v' vl vu lo hi sl Q I rv hs pl pu ⟨a, _, rfl, by rw [hK]; exact e, rb_lst ow h hq ?_⟩
    have : cutV (ns.map V.int) lo hi = (cutL ns lo hi).map V.int := cut_map V.int ns lo hi
    rw [this]
    exact Ats.ints _
  | tup ds =>
    obtain ⟨a, vs, rfl, e, r⟩ := ax.tup
    refine sl_tupA pins s σ H _ v' vl vu lo hi sl Q I rv hs pl pu ⟨a, vs, rfl, SqT.of e, ?_⟩
    first
      | exact ⟨fun z => (by
          have z' := z
          rw [r.length] at z'
          have e2 := cut_whole z'
          cases ax with
          | at_ ax => exact rb_new ow h hq (by rw [e2]; exact ax)), fun _ => rb_tup ow h hq (r.cut lo hi)⟩
  | str z =>
    obtain rfl := ax.str
    exact sl_str pins s σ H _ v' vl vu lo hi sl Q I rv hs pl pu ⟨z, rfl, h.1, rb_new ow h.2 hq (.str _)⟩
  | _ => exact h.elim
end

/-! ### built-ins on data -/
def lenD : List D → (D → Prop) → Prop
  | [.lst ds], Q => Q (.int ds.length)
  | [.tup ds], Q => Q (.int ds.length)
  | [.scr ns], Q => Q (.int ns.length)
  | [.str z], Q => z.length ≤ sizeLine ∧ Q (.int z.length)
  | _, _ => False
def absD : List D → (D → Prop) → Prop
  | [.int i], Q => Q (.int (i.natAbs : Nat))
  | _, _ => False
def intD : List D → (D → Prop) → Prop
  | [.int i], Q => Q (.int i)
  | [.bl b], Q => Q (.int (if b = true then 1 else 0))
  | _, _ => False
def strD : List D → (D → Prop) → Prop
  | [.int i], Q => i.natAbs.log2 < 1920 ∧ Q (.str (toString i))
  | _, _ => False
def boolD : List D → (D → Prop) → Prop
  | [.int i], Q => Q (.bl (i != 0))
  | [.bl b], Q => Q (.bl b)
  | _, _ => False
def listD : List D → (D → Prop) → Prop
  | [.lst ds], Q => Q (.lst ds)
  | [.tup ds], Q => Q (.lst ds)
  | [.scr ns], Q => Q (.lst (ns.map .int))
  | _, _ => False
def tupleD : List D → (D → Prop) → Prop
  | [.lst ds], Q => Q (.tup ds)
  | [.tup ds], Q => Q (.tup ds)
  | _, _ => False
def sumD : List D → (D → Prop) → Prop
  | [.lst ds], Q => ∃ ns : List Int, ds = ns.map .int ∧ Q (.int ns.sum)
  | [.tup ds, .tup e], Q => ∃ xss : List (List D), ds = xss.map .tup ∧ e.length + xss.flatten.length ≤ sizeLine ∧ Q (.tup (e ++ xss.flatten))
  | _, _ => False
def allD : List D → (D → Prop) → Prop
  | [.lst ds], Q => ∃ bs : List Bool, ds = bs.map .bl ∧ Q (.bl (bs.all id))
  | _, _ => False
def anyD : List D → (D → Prop) → Prop
  | [.lst ds], Q => ∃ bs : List Bool, ds = bs.map .bl ∧ Q (.bl (bs.any id))
  | _, _ => False
def minD : List D → (D → Prop) → Prop
  | [.int i, .int j], Q => Q (.int (min i j))
  | _, _ => False
def maxD : List D → (D → Prop) → Prop
  | [.int i, .int j], Q => Q (.int (max i j))
  | _, _ => False
def rL (G : Gx) (op : List D → (D → Prop) → Prop) : List V → Hp → VK → Prop := fun vs H Q => ∃ B α O ds Q0, Own G B α O H ∧ Paired (Vw G.K (Mu B α O) H) vs ds ∧ op ds Q0 ∧
  ∀ z, Q0 z → ∀ v' H', Stp α O H α O H' → Own G B α O H' → At G.K (Mu B α O) H' v' z → Q v' H'
theorem paired1 {β γ : Type} {F : β → γ → Prop} {vs : List β} {d : γ} (h : Paired F vs [d]) : ∃ v, vs = [v] ∧ F v d := by
  cases h with
  | cons a r => cases r; exact ⟨_, rfl, a⟩
theorem paired2 {β γ : Type} {F : β → γ → Prop} {vs : List β} {d e : γ} (h : Paired F vs [d, e]) : ∃ v w, vs = [v, w] ∧ F v d ∧ F w e := by
  cases h with
  | cons a r =>
    obtain ⟨w, rfl, b⟩ := paired1 r
    exact ⟨_, w, rfl, a, b⟩
section
variable {X : Cx} {G : Gx} {K : PySem.W.Frag} {M : Addr → Prop} {H : Hp}
theorem Ats.toInts : ∀ {ns : List Int} {vs : List V}, Ats K M H vs (ns.map .int) → vs = ns.map V.int
  | [], _, h => by cases h; rfl
  | n :: ns, _, h => by
    cases h with
    | cons a r => cases a; rw [Ats.toInts r]; rfl
theorem Ats.toBls : ∀ {ns : List Bool} {vs : List V}, Ats K M H vs (ns.map .bl) → vs = ns.map V.bl
  | [], _, h => by cases h; rfl
  | n :: ns, _, h => by
    cases h with
    | cons a r => cases a; rw [Ats.toBls r]; rfl
theorem Ats.int1 (ns : List Int) : Ats K M H (ns.map V.int) (ns.map .int) := Ats.ints ns
theorem cb_len (hK : X.K = G.K) : CallR X (.builtin "len") (rL G lenD) := by
  intro pins s σ H vs us Q I r ⟨B, α, O, ds, Q0, ow, ap, h, hq⟩
  unfold lenD at h
  split at h
  · obtain ⟨v, rfl, a⟩ := paired1 ap
    obtain ⟨p, ws, rfl, e, q⟩ := a.lst
    exact call_len pins s σ H _ us Q I r ⟨_, _, rfl, .inl ⟨ws, SqL.of e, rfl⟩, by rw [q.length]; exact rb_new ow h hq (.int _)⟩
  · obtain ⟨v, rfl, a⟩ := paired1 ap
    obtain ⟨p, ws, rfl, e, q⟩ := a.tup
    exact call_len pins s σ H _ us Q I r ⟨_, _, rfl, .inr ⟨ws, SqT.of e, rfl⟩, by rw [q.length]; exact rb_new ow h hq (.int _)⟩
  · obtain ⟨v, rfl, a⟩ := paired1 ap
    obtain ⟨p, rfl, e⟩ := a.scr
    exact call_len pins s σ H _ us Q I r ⟨_, _, rfl, .inl ⟨_, by rw [hK]; exact e, rfl⟩, by rw [List.length_map]; exact rb_new ow h hq (.int _)⟩
  · obtain ⟨v, rfl, a⟩ := paired1 ap
    obtain rfl := a.str
    exact call_len pins s σ H _ us Q I r ⟨_, _, rfl, ⟨h.1, rfl⟩, rb_new ow h.2 hq (.int _)⟩
  · exact h.elim
theorem cb_abs (hK : X.K = G.K) : CallR X (.builtin "abs") (rL G absD) := by
  intro pins s σ H vs us Q I r ⟨B, α, O, ds, Q0, ow, ap, h, hq⟩
  unfold absD at h
  split at h
  · rename_i i
    obtain ⟨v, rfl, a⟩ := paired1 ap
    obtain rfl := a.int
    refine call_abs pins s σ H _ us Q I r ⟨_, rfl, ?_⟩
    have e : (if i < 0 then -i else i) = ((i.natAbs : Nat) : Int) := by split <;> omega
    rw [e]
    exact rb_new ow h hq (.int _)
  · exact h.elim
theorem cb_int (hK : X.K = G.K) : CallR X (.type "int") (rL G intD) := by
  intro pins s σ H vs us Q I r ⟨B, α, O, ds, Q0, ow, ap, h, hq⟩
  unfold intD at h
  split at h
  · obtain ⟨v, rfl, a⟩ := paired1 ap
    obtain rfl := a.int
    exact call_int1 pins s σ H _ us Q I r (.inl ⟨_, rfl, rb_new ow h hq (.int _)⟩)
  · obtain ⟨v, rfl, a⟩ := paired1 ap
    obtain rfl := a.bl
    exact call_int1 pins s σ H _ us Q I r (.inr ⟨_, rfl, rb_new ow h hq (.int _)⟩)
  · exact h.elim
theorem cb_str (hK : X.K = G.K) : CallR X (.type "str") (rL G strD) := by
  intro pins s σ H vs us Q I r ⟨B, α, O, ds, Q0, ow, ap, h, hq⟩
  unfold strD at h
  split at h
  · obtain ⟨v, rfl, a⟩ := paired1 ap
    obtain rfl := a.int
    exact call_str_int pins s σ H _ us Q I r ⟨_, rfl, h.1, rb_new ow h.2 hq (.str _)⟩
  · exact h.elim
theorem cb_bool (hK : X.K = G.K) : CallR X (.type "bool") (rL G boolD) := by
  intro pins s σ H vs us Q I r ⟨B, α, O, ds, Q0, ow, ap, h, hq⟩
  unfold boolD at h
  split at h
  · obtain ⟨v, rfl, a⟩ := paired1 ap
    obtain rfl := a.int
    exact call_bool1 pins s σ H _ us Q I r (.inl ⟨_, rfl, rb_new ow h hq (.bl _)⟩)
  · obtain ⟨v, rfl, a⟩ := paired1 ap
    obtain rfl := a.bl
    exact call_bool1 pins s σ H _ us Q I r (.inr ⟨_, rfl, rb_new ow h hq (.bl _)⟩)
  · exact h.elim
theorem cb_list (hK : X.K = G.K) : CallR X (.type "list") (rL G listD) := by
  intro pins s σ H vs us Q I r ⟨B, α, O, ds, Q0, ow, ap, h, hq⟩
  unfold listD at h
  split at h
  · obtain ⟨v, rfl, a⟩ := paired1 ap
    obtain ⟨p, ws, rfl, e, q⟩ := a.lst
    exact call_list_of pins s σ H _ us Q I r ⟨_, _, rfl, .inl (SqL.of e), rb_lst ow h hq q⟩
  · obtain ⟨v, rfl, a⟩ := paired1 ap
    obtain ⟨p, ws, rfl, e, q⟩ := a.tup
    exact call_list_of pins s σ H _ us Q I r ⟨_, _, rfl, .inr (SqT.of e), rb_lst ow h hq q⟩
  · obtain ⟨v, rfl, a⟩ := paired1 ap
    obtain ⟨p, rfl, e⟩ := a.scr
    exact call_list_of pins s σ H _ us Q I r ⟨_, _, rfl, .inl (by rw [hK]; exact e), rb_lst ow h hq (Ats.ints _)⟩
  · exact h.elim
theorem cb_tuple (hK : X.K = G.K) : CallR X (.type "tuple") (rL G tupleD) := by
  intro pins s σ H vs us Q I r ⟨B, α, O, ds, Q0, ow, ap, h, hq⟩
  unfold tupleD at h
  split at h
  · obtain ⟨v, rfl, a⟩ := paired1 ap
    obtain ⟨p, ws, rfl, e, q⟩ := a.lst
    exact call_tuple_of pins s σ H _ us Q I r ⟨_, _, rfl, .inl ⟨SqL.of e, rb_tup ow h hq q⟩⟩
  · obtain ⟨v, rfl, a⟩ := paired1 ap
    obtain ⟨p, ws, rfl, e, q⟩ := a.tup
    refine call_tuple_of pins s σ H _ us Q I r ⟨_, _, rfl, .inr ⟨SqT.of e, ?_⟩⟩
    cases a with
    | at_ a => exact rb_new ow h hq a
  · exact h.elim
theorem flat_none {α : Type} : ∀ {xss : List (List α)}, (∀ k, k < xss.length → xss[k]? = some []) → xss.flatten = []
  | [], _ => rfl
  | x :: xss, h => by
    have h0 : x = [] := by simpa using h 0 (by simp)
    rw [List.flatten_cons, h0, flat_none fun k hk => by simpa using h (k + 1) (by simpa using hk)]
    rfl
theorem flat_one {α : Type} : ∀ {xss : List (List α)} {j : Nat} {x : List α}, xss[j]? = some x → (∀ k, k < xss.length → k ≠ j → xss[k]? = some []) → xss.flatten = x
  | [], _, _, e, _ => by simp at e
  | y :: xss, 0, x, e, h => by
    have h0 : y = x := by simpa using e
    rw [List.flatten_cons, flat_none fun k hk => by simpa using h (k + 1) (by simpa using hk) (by omega), h0, List.append_nil]
  | y :: xss, j + 1, x, e, h => by
    have h0 : y = [] := by simpa using h 0 (by simp) (by omega)
    rw [List.flatten_cons, h0, List.nil_append]
    exact flat_one (by simpa using e) fun k hk hkj => by simpa using h (k + 1) (by simpa using hk) (by omega)
theorem ats_flat {K : PySem.W.Frag} {M : Addr → Prop} {H : Hp} {yss : List (List V)} {xss : List (List D)} (h : Paired (Ats K M H) yss xss) : Ats K M H yss.flatten xss.flatten := by
  induction h with
  | nil => exact .nil
  | cons a r ih => rw [List.flatten_cons, List.flatten_cons]; exact a.append ih
theorem ats_tups {K : PySem.W.Frag} {M : Addr → Prop} {H : Hp} : ∀ {xss : List (List D)} {vs : List V}, Ats K M H vs (xss.map .tup) → ∃ (as : List Addr) (yss : List (List V)), vs = as.map V.ref ∧ Paired (fun b ys => H b = some (.tup ys)) as yss ∧ Paired (Ats K M H) yss xss
  | [], _, .nil => ⟨[], [], rfl, .nil, .nil⟩
  | xs :: xss, _, .cons a r => by
    obtain ⟨as, yss, rfl, h1, h2⟩ := ats_tups r
    obtain ⟨p, ws, rfl, e, q⟩ := (Vw.at_ a).tup
    exact ⟨p :: as, ws :: yss, rfl, .cons e h1, .cons q h2⟩
theorem ats_lsts {K : PySem.W.Frag} {M : Addr → Prop} {H : Hp} : ∀ {xss : List (List D)} {vs : List V}, Ats K M H vs (xss.map .lst) → ∃ (as : List Addr) (yss : List (List V)), vs = as.map V.ref ∧ Paired (fun b ys => H b = some (.lst ys)) as yss ∧ Paired (Ats K M H) yss xss
  | [], _, .nil => ⟨[], [], rfl, .nil, .nil⟩
  | xs :: xss, _, .cons a r => by
    obtain ⟨as, yss, rfl, h1, h2⟩ := ats_lsts r
    obtain ⟨p, ws, rfl, e, q⟩ := (Vw.at_ a).lst
    exact ⟨p :: as, ws :: yss, rfl, .cons e h1, .cons q h2⟩
theorem paired_map {α β : Type} {F G : α → β → Prop} {xs : List α} {ys : List β} (h : Paired F xs ys) (f : ∀ x y, F x y → G x y) : Paired G xs ys := by
  induction h with
  | nil => exact .nil
  | cons a r ih => exact .cons (f _ _ a) ih
theorem ats_emp {K : PySem.W.Frag} {M : Addr → Prop} {H : Hp} {yss : List (List V)} {xss : List (List D)} (h : Paired (Ats K M H) yss xss) {k : Nat} (e : yss[k]? = some []) : xss[k]? = some [] := by
  have hk : k < yss.length := (List.getElem?_eq_some_iff.mp e).1
  have hk2 : k < xss.length := by rw [← paired_len h]; exact hk
  have hv := paired_get h e (List.getElem?_eq_getElem hk2)
  rw [List.getElem?_eq_getElem hk2]
  have := hv.length
  rw [List.length_nil] at this
  rw [List.length_eq_zero_iff.mp this.symm]
theorem ats_flen {K : PySem.W.Frag} {M : Addr → Prop} {H : Hp} {yss : List (List V)} {xss : List (List D)} (h : Paired (Ats K M H) yss xss) : yss.flatten.length = xss.flatten.length := (ats_flat h).length
theorem cb_sum (hK : X.K = G.K) (hc : X.calm = true) : CallR X (.builtin "sum") (rL G sumD) := by
  intro pins s σ H vs us Q I r ⟨B, α, O, ds, Q0, ow, ap, h, hq⟩
  unfold sumD at h
  split at h
  · obtain ⟨v, rfl, a⟩ := paired1 ap
    obtain ⟨p, ws, rfl, e, q⟩ := a.lst
    obtain ⟨ns, rfl, h⟩ := h
    obtain rfl := q.toInts
    exact cr_sum hc pins s σ H _ us Q I r ⟨_, ns, rfl, SqL.of e, rb_new ow h hq (.int _)⟩
  · obtain ⟨v, st, rfl, a, b⟩ := paired2 ap
    obtain ⟨xss, rfl, hz, h⟩ := h
    obtain ⟨p, ws, rfl, e, q⟩ := a.tup
    obtain ⟨p2, ws2, rfl, e2, r2⟩ := b.tup
    obtain ⟨as, yss, rfl, h1, h2⟩ := ats_tups q
    have hl : as.length = xss.length := (paired_len h1).trans (paired_len h2)
    refine cr_sumT hc pins s σ H _ us Q I r ⟨p, p2, as, yss, ws2, rfl, SqT.of e, paired_map h1 fun _ _ z => SqT.of z, SqT.of e2, by rw [r2.length, ats_flen h2]; exact hz, fun z => ?_, fun j x ej z1 z2 => ?_, rb_tup ow h hq (r2.append (ats_flat h2))⟩
    · rw [flat_none fun k hk => ats_emp h2 (z k (by omega)), List.append_nil] at h
      cases b with
      | at_ b => exact rb_new ow h hq b
    · have hj : j < xss.length := by rw [← hl]; exact (List.getElem?_eq_some_iff.mp ej).1
      have ex := List.getElem?_eq_getElem hj
      have hl0 := r2.length
      rw [z1, List.length_nil] at hl0
      have he := List.length_eq_zero_iff.mp hl0.symm
      rw [he, List.nil_append, flat_one ex fun k hk hkj => ats_emp h2 (z2 k (by omega) hkj)] at h
      obtain ⟨v2, ev, av⟩ := q.get' (i := j) (d := .tup xss[j]) (by rw [List.getElem?_map, ex]; rfl)
      rw [List.getElem?_map, ej] at ev
      cases ev
      exact rb_new ow h hq av
  · exact h.elim
theorem cb_all (hK : X.K = G.K) (hc : X.calm = true) : CallR X (.builtin "all") (rL G allD) := by
  intro pins s σ H vs us Q I r ⟨B, α, O, ds, Q0, ow, ap, h, hq⟩
  unfold allD at h
  split at h
  · obtain ⟨v, rfl, a⟩ := paired1 ap
    obtain ⟨p, ws, rfl, e, q⟩ := a.lst
    obtain ⟨ns, rfl, h⟩ := h
    obtain rfl := q.toBls
    exact cr_all hc pins s σ H _ us Q I r ⟨_, ns, rfl, SqL.of e, rb_new ow h hq (.bl _)⟩
  · exact h.elim
theorem cb_any (hK : X.K = G.K) (hc : X.calm = true) : CallR X (.builtin "any") (rL G anyD) := by
  intro pins s σ H vs us Q I r ⟨B, α, O, ds, Q0, ow, ap, h, hq⟩
  unfold anyD at h
  split at h
  · obtain ⟨v, rfl, a⟩ := paired1 ap
    obtain ⟨p, ws, rfl, e, q⟩ := a.lst
    obtain ⟨ns, rfl, h⟩ := h
    obtain rfl := q.toBls
    exact cr_any hc pins s σ H _ us Q I r ⟨_, ns, rfl, SqL.of e, rb_new ow h hq (.bl _)⟩
  · exact h.elim
theorem cb_min (hK : X.K = G.K) (hc : X.calm = true) : CallR X (.builtin "min") (rL G minD) := by
  intro pins s σ H vs us Q I r ⟨B, α, O, ds, Q0, ow, ap, h, hq⟩
  unfold minD at h
  split at h
  · rename_i i j
    obtain ⟨v, w, rfl, a, b⟩ := paired2 ap
    obtain rfl := a.int
    obtain rfl := b.int
    refine call_min2 hc pins s σ H _ us Q I r ⟨_, _, rfl, ?_⟩
    have e : (if j < i then j else i) = min i j := by split <;> omega
    rw [e]
    exact rb_new ow h hq (.int _)
  · exact h.elim
theorem cb_max (hK : X.K = G.K) (hc : X.calm = true) : CallR X (.builtin "max") (rL G maxD) := by
  intro pins s σ H vs us Q I r ⟨B, α, O, ds, Q0, ow, ap, h, hq⟩
  unfold maxD at h
  split at h
  · rename_i i j
    obtain ⟨v, w, rfl, a, b⟩ := paired2 ap
    obtain rfl := a.int
    obtain rfl := b.int
    refine call_max2 hc pins s σ H _ us Q I r ⟨_, _, rfl, ?_⟩
    have e : (if j > i then j else i) = max i j := by split <;> omega
    rw [e]
    exact rb_new ow h hq (.int _)
  · exact h.elim
end
end Z

set_option Elab.async false
set_option linter.all false
set_option maxRecDepth 100000
set_option maxHeartbeats 4000000
namespace Z
open PySem PySem.Spec PyProof.Rows L2

/-! ### a pair of classes as the test of an except clause: it always takes -/
theorem fly_more {B : Heap} {l : List Env} {a : Addr} {Y : Obj → Prop} {g h : Heap} (f : HandSPX.FlyingZ B l a Y g) (k : ∀ b o, g.get? b = some o → h.get? b = some o) : HandSPX.FlyingZ B l a Y h := by
  obtain ⟨x1, x2, x3, oe, vs, T, oT, ts, y1, y2, y3, y4, y5, y6, y7, y8, y9⟩ := f
  exact ⟨fun b o e => k b o (x1 b o e), x2, x3.of_keeps fun b o e _ => ⟨o, k b o e, rfl⟩, oe, vs, T, oT, ts, k _ _ y1, y2, y3, y4, y5, y6, k _ _ y7, y8, y9⟩
theorem fly_at {B : Heap} {l : List Env} {a : Addr} {Y : Obj → Prop} {g : Heap} (f : HandSPX.FlyingZ B l a Y g) : ∃ oe vs, g.get? a = some oe ∧ Y oe ∧ oe.data = .fields vs := by
  obtain ⟨_, _, _, oe, vs, _, _, _, y1, y2, y3, _⟩ := f
  exact ⟨oe, vs, y1, y2, y3⟩
/-- what 'except (x1, x2) as n: return ..' wishes of an exception -/
def wPair (K : PySem.W.Frag) (c1 c2 : Value) (len i : Nat) (ts : Addr → Value → Option Addr → TS) (D : Ends) : WX := fun cls d σ H =>
  PySem.W.exmAny K cls [c1, c2] = some true ∧ (σ.length = len → ∀ a, H a = none → ts a cls d { nx := fun _ _ => False, rt := D.rt } (σ.set i (some (.ref a))) H)
theorem ps_try_pair {X : Cx} {x1 x2 n : Str} {c1 c2 : Value} {i kk : Nat} {body suite : List Stmt} {b0 : Stmt} {q1 q2 q3 q4 q5 : Pos} {tb : WX → TS} {ts : Addr → Value → Option Addr → TS} (hs : X.stack = X.env :: X.outer) (hf : X.env.frame = some X.env.locals) (hN : X.N.Nodup) (hi : X.N[i]? = some n) (hn : X.env.kindOf n = some .local)
    (g1 : Gl X x1) (g2 : Gl X x2) (m1 : X.mg x1 = some c1) (m2 : X.mg x2 = some c2) (e1 : (x1 == ("__debug__" : Str)) = false) (e2 : (x2 == ("__debug__" : Str)) = false)
    (hb : ∀ (W : WX) (pn : List (Addr × Obj)) (xe : Value → Shared → Prop), Takes (X.tr pn xe) W → PSs (X.tr pn xe) body (tb W))
    (hsu : ∀ (a : Addr) (oe : Obj) (cls : Value) (d : Option Addr) (pn : List (Addr × Obj)), Zc cls d oe → (∃ vs, oe.data = .fields vs) → PSs (X.suite a ((a, oe) :: pn)) (b0 :: suite) (ts a cls d)) :
    PS X (.Try body [.ExceptHandler (some (.Tuple [.Name x1 q1, .Name x2 q2] kk q3)) (some n) (b0 :: suite) q4] [] [] q5) (fun D σ H => tb (wPair X.K c1 c2 X.N.length i ts D) D σ H) := by
  refine ⟨fun pins s σ H D I h => wpAny_Try_except ?_⟩
  have ok := I.ok
  have fr : X.A.frames = some (X.env :: X.outer) := by rw [ok.frames, hs]
  refine wpAny_mono ((hb (wPair X.K c1 c2 X.N.length i ts D) (X.pn ++ pins) _ ?_).run [] s σ H D (I.toTry _) h) (fun f t1 hq => ?_) fun e t1 he => he
  · intro u t xx
    obtain ⟨a, B, sI, pins', σ', H', cls, d, rfl, J', nb, up, sky, na, os, ag, hm, hw⟩ := xx
    have J : Inv X pins σ' H' sI := J'.ofTry ok
    have hw := hw J'.len
    show wpAny (model X.prog X.w) X.A (noteFrame (.ref a) X.env) _ _ _
    refine Sky.land Zc.steady fr hf (show Sky B (X.env :: X.outer) a (Zc cls d) X.env.locals t.heap by rw [← hs]; exact sky) fun h3 fl3 up3 => ?_
    have J3 : Inv X pins σ' H' { t with heap := h3 } := J.landed nb fl3.1 (up.trans up3) os ag
    have apart : ∀ {g : Heap} {o : Obj} {vs : Array Value}, g.FunFrames B (X.env :: X.outer) → g.get? a = some o → o.data = .fields vs → a ∉ frs (X.env :: X.outer) := fun {g o vs} ff e dd hm => by
      obtain ⟨_, o2, e2, nf⟩ := ff.mem hm
      rw [e] at e2
      cases e2
      exact nf _ dd
    obtain ⟨oe3, vs3, he3, hz3, hd3⟩ := fly_at fl3
    have nfr := apart fl3.2.2.1 he3 hd3
    have nL : a ≠ X.env.locals := fun z => nfr (List.mem_filterMap.mpr ⟨X.env, by simp, by rw [hf, z]⟩)
    have nF : a ∉ X.fs := fun hm => by
      obtain ⟨e, he, q⟩ := List.mem_filterMap.mp hm
      exact nfr (List.mem_filterMap.mpr ⟨e, by simp [he], q⟩)
    have S3 := J3.suite he3 hd3 na nL nF
    refine wpAny_handleBy_cons (codeAny_handlers_test (wpAny_Tuple_spliced ?_)) (by intro q; cases q)
    refine Calls.spliced_cons (ld_glob (X := X.suite a ((a, oe3) :: (X.pn ++ pins))) S3 g1 m1 (Calls.spliced_cons (ld_glob (X := X.suite a ((a, oe3) :: (X.pn ++ pins))) S3 g2 m2 (Calls.spliced_nil ⟨by show 2 ≤ sizeLine; decide, ?_⟩) e2)) e1)
    have kp : ∀ b o, h3.get? b = some o → (h3.push { cls := .type "tuple", data := .seq [c1, c2].toArray }).get? b = some o := fun b o e => Heap.get?_push_of_some _ e
    have fl5 := fly_more fl3 kp
    have LT : PySem.W.Looks (model X.prog X.w) (h3.push { cls := .type "tuple", data := .seq [c1, c2].toArray }) (typeOf (.ref a)) cls := fun A Q E s k q => wpAny_typeOf_ref (k _ _ (kp _ _ he3)) (by rw [hz3.1]; exact q)
    have LM := PySem.W.exm_tup2 (M := model X.prog X.w) (J3.kIn.keeps kp) LT (Heap.get?_push_size _ rfl) hm
    refine LM.here (codeAny_handlers_suite_as (HandSPX.lands_againZ fl5 fun h4 fl4 up4 => ?_))
    have J4 : Inv X pins σ' H' { t with heap := h4 } := J.landed nb fl4.1 (((up.trans up3).trans (Heap.UpToSlots.of_keeps kp)).trans up4) os ag
    obtain ⟨oe4, vs4, he4, hz4, hd4⟩ := fly_at fl4
    refine store_ok (X := X.suite a ((a, oe4) :: (X.pn ++ pins))) (v := .ref a) (J4.suite he4 hd4 na nL nF) hN hi (.inl hn) rfl (fun s5 S5 => ?_) (.inr hn)
    refine wpAny_mono ((hsu a oe4 cls d (X.pn ++ pins) hz4 ⟨_, hd4⟩).run [] s5 _ H' _ S5 (hw a na)) (fun f s6 hsp => ?_) (fun _ _ z => False.elim z)
    cases f with
    | next =>
      obtain ⟨_, _, _, z⟩ := hsp
      exact False.elim z
    | brk =>
      obtain ⟨_, _, _, z⟩ := hsp
      exact False.elim z
    | cont =>
      obtain ⟨_, _, _, z⟩ := hsp
      exact False.elim z
    | ret u =>
      obtain ⟨v6, σ6, H6, S6, r6, q6⟩ := hsp
      exact gone_ok (S6.unsuite ok) hN hi hn fun s7 J7 => ⟨_, _, _, J7, r6, q6⟩
  · cases f with
    | next =>
      obtain ⟨σ', H', J', q⟩ := hq
      exact wpAny_execs_nil ⟨σ', H', J'.ofTry ok, q⟩
    | brk =>
      obtain ⟨σ', H', J', q⟩ := hq
      exact ⟨σ', H', J'.ofTry ok, q⟩
    | cont =>
      obtain ⟨σ', H', J', q⟩ := hq
      exact ⟨σ', H', J'.ofTry ok, q⟩
    | ret u =>
      obtain ⟨v, σ', H', J', r, q⟩ := hq
      exact ⟨v, σ', H', J'.ofTry ok, r, q⟩

/-! ### an exception's field -/
theorem pe_xfP {X : Cx} {a C : Addr} {oe : Obj} {cls : Value} {d : Option Addr} {e : Expr} {te : TE} {pos : Pos} {n : Str} (T : XfC X.K C) (hno : PySem.W.findIn X.K (.ref C) n = some none) (hp : (a, oe) ∈ X.pn)
    (hz : Zc cls d oe) (hf : ∃ vs, oe.data = .fields vs) (he : PE X e te) (hb : attributeBase e n X.env (eval e X.env) = eval e X.env := by rfl) : PE X (.Attribute e n pos) (tXf a cls d C n te) := by
  refine ⟨fun pins s σ H Q I h => attr_of hb (thn (he.run pins s σ H _ I h) fun u t hh => ?_)⟩
  obtain ⟨x, H1, I1, rx, ex, rfl, dd, fs, v, rfl, ea, l, q⟩ := hh
  subst ex
  cases (show u = Value.ref a from rx)
  have ha := (I1.pin (a, oe) (List.mem_append_left _ hp)).1
  obtain ⟨vs, hd⟩ := hf
  obtain ⟨mA, hns, hr⟩ := (show ObjOk X.prog X.w H1 t.heap dd (.xd fs) from I1.hok dd _ ea)
  obtain ⟨od, ho, hl⟩ := lookIn_ns hns
  obtain ⟨w, hu, ru⟩ := RelO.some_of (v := v) (o := mA n) (l ▸ hr n)
  have nc : PySem.W.notCls oe = true := by unfold PySem.W.notCls; rw [hd]
  have J : PySem.W.InstAt t.heap a oe C (some od) := ⟨ha, hz.1, nc, by rw [hz.2]; exact ho⟩
  refine HandSPX.exc_get I1.kIn J T.ga T.gg T.exC (PySem.W.findObj_own T.hdC hno rfl ?_) (handed_of ru) ⟨v, H1, I1.tok _, ru, q⟩
  rw [hl, hu]
end Z

set_option Elab.async false
set_option linter.all false
set_option maxRecDepth 100000
set_option maxHeartbeats 4000000
namespace Z
open PySem PySem.Spec PyProof.Rows L2
/-! ### a lambda is laid: what becomes of the tracked heap -/
def LamH (P : Addr) (q : Str) (H H1 : Hp) : Prop := H1 = H ∨ ∃ ps ps' c, H P = some (.tbl ps) ∧ H c = none ∧ H1 = upd (upd H P (.tbl ps')) c (LamX.CodeO c q)
abbrev lamObj (X : Cx) (params : Arguments) (body : Expr) (scope : Scope) (pm : Value) (c : Addr) (ctv : Value) : Obj := PySem.W.kla_obj "<lambda>" (X.env.qual ++ "<lambda>") params body scope (cloFrom X.env.cells scope.names []) pm c ctv
theorem lam_lay {X : Cx} {pins : List (Addr × Obj)} {σ : L2.St} {H : Hp} {s : Shared} {T : List (Addr × Str)} {c P : Addr} {params : Arguments} {body : Expr} {scope : Scope} {pos : Pos} {E Q : Value → Shared → Prop} (I : Inv X pins σ H s) (TB : LamX.TabB X.base X.mg c P)
    (hcode : X.env.code = .ref c) (hm : (P, X.env.qual ++ "<lambda>") ∈ T) (hu : ∀ p ∈ T, p.1 = P → p.2 = X.env.qual ++ "<lambda>") (hT : LamX.Tabs T H) (hdef : defaultsOf params X.env = ([], [])) (hfree : ∀ y ∈ scope.names, y.2 = .free → ∃ c, X.env.cells.lookup y.1 = some c)
    (go : ∀ (f c' : Addr) (pm ctv : Value) (H1 : Hp) (t : Shared), Inv X pins σ H1 t → LamH P (X.env.qual ++ "<lambda>") H H1 → LamX.Tabs T H1 → t.heap.get? f = some (lamObj X params body scope pm c' ctv) → H1 f = none → s.heap.objs.size ≤ f →
      H1 c' = some (LamX.CodeO c' (X.env.qual ++ "<lambda>")) → Q (.ref f) t) : wpAny (model X.prog X.w) X.A (eval (.Lambda params body scope pos) X.env) Q E s := by
  obtain ⟨ps, hP, trip, among⟩ := hT _ hm
  have atP : s.heap.get? P = some { cls := .none, data := .fields ps } := I.hok P _ hP
  have bP := TB.bm.keeps I.bk
  refine PySem.W.kla_eval hdef ?_
  rcases hc : codeAmong pos ps.toList with _ | cv
  · refine PySem.W.kla_makeFunction (mg := X.mg) (c := c) (P := P) (ps := ps) (closure_ok hfree) I.ok.glob (I.mod.glob.keeps I.bk) hcode (TB.code.keeps I.bk) atP trip hc TB.gP bP ?_
    rintro c' ctv g tk kp hge hlt ⟨c2, oc, vs, t, e2, hoc, hd, hv⟩ htb
    cases e2
    have big : s.heap.objs.size ≤ g.objs.size := by omega
    have nC : H c' = none := I.hok.fresh hge
    obtain ⟨pm, hpm⟩ : ∃ pm, pm = (X.mg "__name__").getD .none := ⟨_, rfl⟩
    have J := LamX.inv_table (t' := tk) (more := #[rawInt pos.line, rawInt pos.col, .ref c']) (h' := g.push (lamObj X params body scope pm c' ctv)) (q := X.env.qual ++ "<lambda>") I hP (fun b o hb e => Heap.get?_push_of_some _ (kp b o hb e)) (Heap.get?_push_of_some _ htb) hge ⟨oc, vs, t, Heap.get?_push_of_some _ hoc, hd, hv⟩
    have stay : ∀ b o, H b = some o → (∀ qs, o ≠ .tbl qs) → upd (upd H P (.tbl (ps ++ #[rawInt pos.line, rawInt pos.col, .ref c']))) c' (LamX.CodeO c' (X.env.qual ++ "<lambda>")) b = some o := fun b o e no => by
      have h1 : b ≠ P := fun z => by
        rw [z, hP] at e
        exact no ps (Option.some.inj e).symm
      rw [upd_ne (ne_of_none e nC), upd_ne h1]
      exact e
    have eL : (ps ++ #[rawInt pos.line, rawInt pos.col, .ref c']).toList = ps.toList ++ [rawInt pos.line, rawInt pos.col, .ref c'] := by simp
    rw [hpm] at J
    refine go g.objs.size c' _ ctv _ _ J (.inr ⟨ps, _, c', hP, nC, rfl⟩) (fun p hp => ?_) (Heap.get?_push_size _ rfl) ?_ big upd_same
    · by_cases hb : p.1 = P
      · rw [hu p hp hb, hb]
        refine ⟨_, (upd_ne (ne_of_none hP nC)).trans upd_same, ?_, fun p' cv hcv => ?_⟩
        · rw [eL]
          exact PySem.TriplesOk_snoc _ _ _ _ trip
        · rw [eL] at hcv
          rcases LamX.among_app _ trip hcv with z | z
          · obtain ⟨c0, z1, z2⟩ := among p' cv z
            exact ⟨c0, z1, stay _ _ z2 LamX.codeO_ne⟩
          · exact ⟨c', z, upd_same⟩
      · obtain ⟨qs, a1, a2, a3⟩ := hT p hp
        refine ⟨qs, ?_, a2, fun p' cv hcv => ?_⟩
        · rw [upd_ne (ne_of_none a1 nC), upd_ne hb]
          exact a1
        · obtain ⟨c0, z1, z2⟩ := a3 p' cv hcv
          exact ⟨c0, z1, stay _ _ z2 LamX.codeO_ne⟩
    · have n1 : g.objs.size ≠ c' := Nat.ne_of_gt hlt
      have n2 : g.objs.size ≠ P := Nat.ne_of_gt (Nat.lt_of_lt_of_le (Heap.lt_size atP) big)
      rw [upd_ne n1, upd_ne n2]
      exact I.hok.fresh big
  · obtain ⟨c', e, hco⟩ := among pos cv hc
    subst e
    refine PySem.W.kla_makeFunctionHit (mg := X.mg) (c := c) (P := P) (ps := ps) (closure_ok hfree) I.ok.glob (I.mod.glob.keeps I.bk) hcode (TB.code.keeps I.bk) atP trip hc bP ?_
    intro ctv g tk kp big
    have J : Inv X pins σ H { s with heap := g.push (lamObj X params body scope ((X.mg "__name__").getD .none) c' ctv), toks := tk } := I.kept fun b o e => Heap.get?_push_of_some _ (kp b o e)
    exact go g.objs.size c' _ ctv H _ J (.inl rfl) hT (Heap.get?_push_size _ rfl) (I.hok.fresh big) big hco
/-! ### frames upon frames -/
theorem un_up {fs : List Addr} {L : Addr} {H H1 H2 : Hp} {h h1 h2 : Heap} (a : Un fs [] H H1 h h1) (b : Un (L :: fs) [] H1 H2 h1 h2) (nL : h.get? L = none) : Un fs [] H H2 h h2 where
  keep := fun c o q n hc hx => b.keep c o (a.keep c o q n hc hx) (a.free c o q n hx) (fun z => by
    rcases List.mem_cons.mp z with z | z
    · rw [z, nL] at q
      cases q
    · exact hc z) hx
  slot := fun c o q n hc hx => by
    obtain ⟨sl, e1⟩ := a.slot c o q n hc hx
    obtain ⟨sl2, e2⟩ := b.slot c _ e1 (a.free c o q n hx) (List.mem_cons_of_mem _ hc) hx
    exact ⟨sl2, e2⟩
  free := fun c o q n hx => by
    obtain ⟨o', e1⟩ := a.there c o q hx
    exact b.free c o' e1 (a.free c o q n hx) hx
  there := fun c o q hx => by
    obtain ⟨o', e1⟩ := a.there c o q hx
    exact b.there c o' e1 hx
  tups := fun c xs q => b.tups c xs (a.tups c xs q)
  frzs := fun c o xs q => b.frzs c o xs (a.frzs c o xs q)
  tbls := fun c ps q => by
    obtain ⟨m1, e1⟩ := a.tbls c ps q
    obtain ⟨m2, e2⟩ := b.tbls c _ e1
    exact ⟨m1 ++ m2, by rw [e2, Array.append_assoc]⟩
/-! ### the lambda is called, from wherever -/
theorem act_run {X : Cx} {pins : List (Addr × Obj)} {σ : L2.St} {H HZ : Hp} {s t : Shared} {f c' : Addr} {pm ctv : Value} {params : Arguments} {body : Expr} {scope : Scope} {k : Nat} {A : Around} {outer : List Env} {Q : VK} {E : XK} {tb : TE} (I : Inv X pins σ H s) (L : LamX.LamS X.env.scope scope)
    (hf : s.heap.get? f = some (lamObj X params body scope pm c' ctv)) (hfn : H f = none) (hfr : f ∉ frs X.stack) (hbind : bindArgs (PySem.W.kla_fn "<lambda>" (X.env.qual ++ "<lambda>") params body scope (cloFrom X.env.cells scope.names []) pm (.ref c') ctv) ⟨[], []⟩ = pure [])
    (hr : Room (k + 1) A) (e0 : Env0 X.prog X.w X.K X.mg X.base A outer t HZ) (un : Un (frs X.stack) [] H HZ s.heap t.heap) (hc : HZ c' = some (LamX.CodeO c' (X.env.qual ++ "<lambda>")))
    (hbody : Room k (A.deeper (LamX.lamEnv X scope t.heap.objs.size f c')) → PE (LamX.lamCx X A outer t HZ E scope f c') body tb) (ht : tb σ HZ Q) :
    codeAny (model X.prog X.w) A (.call (.ref f) ⟨[], []⟩) (CR (L2.CX X.prog X.w) outer X.prog X.w HZ t Q E) t := by
  have of1 := un.keep f _ hf hfn hfr (by simp)
  obtain ⟨⟨oc, vs, tk, hoc, hdc, hvc⟩, _, _⟩ := e0.hok c' _ hc
  have lim : t.heap.NoLimit := e0.mod.nolimit.keeps fun b o e => (e0.bs b o e).1
  refine PySem.W.kla_callFunE hr.depth of1 rfl L.co L.gen rfl ⟨c', oc, vs, tk, rfl, hoc, hdc, hvc⟩ ?_
  rw [hbind]
  refine wpAny_pure (wpAny_newFunctionEnv (fun y hy => (L.own y hy).2) (fun y hy => absurd hy (by simp)) (fun g hns hsb => ⟨lim.fresh _ hsb, ?_⟩) L.kind)
  have kp : ∀ b o, t.heap.get? b = some o → g.get? b = some o := fun b o e => hsb.extBut b o (Nat.ne_of_lt (Heap.lt_size e)) (Heap.get?_push_of_some _ e)
  have J : Inv (LamX.lamCx X A outer t HZ E scope f c') [] σ HZ { t with heap := g, toks := t.toks + ([] : List (Str × Value)).length } := LamX.lam_start2 I L e0 hr.hd un hns kp
  show codeAny _ _ (.expr body (LamX.lamEnv X scope t.heap.objs.size f c')) _ _
  refine PySem.W.kla_codeExpr (wpAny_mono ((hbody (hr.deeper _)).run [] _ _ HZ Q J ht) (fun v u hq => ?_) fun e u hq => hq)
  obtain ⟨w', H', J', rv, q⟩ := hq
  exact ⟨w', H', J'.os, J'.bare, J'.base, J'.hok, rv, q⟩
/-- what a codeAny gives to an expression -/
theorem of_run {X : Cx} {pins : List (Addr × Obj)} {σ : L2.St} {H : Hp} {s : Shared} {Q : VK} {E : XK} {f : Value} {us : List Value} (I : Inv X pins σ H s) (hx : Passes (L2.CX X.prog X.w) X E) (h : codeAny (model X.prog X.w) X.A (.call f ⟨us, []⟩) (CR (L2.CX X.prog X.w) X.stack X.prog X.w H s Q E) s) :
    wpAny (model X.prog X.w) X.A (call f us) (EP X pins σ Q) X.xe s := by
  refine wpAny_call (codeAny_mono h fun r t hq => ?_)
  cases r with
  | error e => exact hx pins σ H s e t I hq
  | ok fl =>
    cases fl with
    | ret u => exact I.after hq
    | next => exact False.elim hq
    | brk => exact False.elim hq
    | cont => exact False.elim hq
end Z

set_option Elab.async false
set_option linter.all false
set_option maxRecDepth 100000
set_option maxHeartbeats 4000000
namespace Z
open PySem PySem.Spec PyProof.Rows L2
/-! ### the def that tells an error's attributes: tests of the code, tuples of attributes -/
abbrev FT : Type := List (Bool × List Str × List Str)
def fldT : FT := [(true, ["InvalidNumber", "InvalidFraction", "InvalidDirections", "InvalidName", "InvalidKind"], ["value"]), (true, ["InvalidVector", "InvalidPlace", "InvalidTie", "InvalidDeed"], ["at"]),
  (true, ["DuplicateName", "Itself", "InvalidPictures", "Finite", "Taken", "Known", "UnknownName"], ["name"]), (true, ["TwiceTold", "UnknownTie"], ["tie"]), (false, ["InvalidText"], ["line", "why"]), (false, ["Unsteady"], ["one", "other"]),
  (false, ["UnknownSpot"], ["spot"]), (false, ["NotLeast"], ["shift"]), (false, ["Falls"], ["many"]), (false, ["TooMany"], ["most"])]
def pickF : FT → Str → List Str
  | [], _ => []
  | (_, cs, fs) :: r, c => if c ∈ cs then fs else pickF r c
def fldN : List Str := ["code", "value", "at", "name", "tie", "line", "why", "one", "other", "spot", "shift", "many", "most"]
theorem pickF_sub : ∀ {t : FT} {c f : Str}, f ∈ pickF t c → ∃ p ∈ t, f ∈ p.2.2
  | [], _, _, h => by cases h
  | (m, cs, fs) :: r, c, f, h => by
    rw [pickF] at h
    split at h
    · exact ⟨_, List.mem_cons_self, h⟩
    · obtain ⟨p, h1, h2⟩ := pickF_sub h
      exact ⟨p, List.mem_cons_of_mem _ h1, h2⟩
theorem fldT_sub : ∀ p ∈ fldT, ∀ f ∈ p.2.2, f ∈ fldN := by decide
def attC (x f : Str) : Expr → Bool
  | .Attribute (.Name y _) g _ => decide (y = x) && decide (g = f)
  | _ => false
def strsC : List Str → List Expr → Bool
  | [], [] => true
  | z :: zs, .Constant (.str y) _ _ :: es => decide (y = z) && strsC zs es
  | _, _ => false
def attsC (x : Str) : List Str → List Expr → Bool
  | [], [] => true
  | f :: fs, e :: es => attC x f e && attsC x fs es
  | _, _ => false
def testC (x : Str) (m : Bool) (cs : List Str) : Expr → Bool
  | .Compare l [.In] [.List es _] _ => m && attC x "code" l && strsC cs es
  | .Compare l [.Eq] [.Constant (.str y) _ _] _ => !m && attC x "code" l && decide (cs = [y])
  | _ => false
def retC (x : Str) (fs : List Str) : Stmt → Bool
  | .Return (some (.Tuple es _ _)) _ => attsC x fs es
  | _ => false
def lastC (x : Str) (m : Bool) (cs fs : List Str) : Stmt → Bool
  | .Return (some (.IfExp t (.Tuple es _ _) (.Tuple [] _ _) _)) _ => testC x m cs t && attsC x fs es
  | _ => false
def fldC (x : Str) : FT → List Stmt → Bool
  | [], _ => false
  | (m, cs, fs) :: [], [s] => lastC x m cs fs s
  | (m, cs, fs) :: r, .If t [s] [] _ :: ss => testC x m cs t && retC x fs s && fldC x r ss
  | _, _ => false
/-- nothing of the heap is lost -/
def ExtH (H H' : Hp) : Prop := ∀ b o, H b = some o → H' b = some o
theorem ExtH.refl {H : Hp} : ExtH H H := fun _ _ e => e
theorem ExtH.trans {H H1 H2 : Hp} (a : ExtH H H1) (b : ExtH H1 H2) : ExtH H H2 := fun c o e => b c o (a c o e)
theorem ExtH.new {H : Hp} {p : Addr} {o : HO} (h : H p = none) : ExtH H (upd H p o) := fun b u e => by rw [upd_ne (ne_of_none e h)]; exact e
/-- the context in which the handled exception a is looked at; slot j holds it -/
structure HotE (X : Cx) (j : Nat) (x : Str) (a C dd : Addr) (oe : Obj) : Prop where
  hN : X.N[j]? = some x
  vis : Vis X.env.scope x
  okd : (x == ("__debug__" : Str)) = false
  okc : (x == ("__classdict__" : Str)) = false
  T : XfC X.K C
  no : ∀ f ∈ fldN, PySem.W.findIn X.K (.ref C) f = some none
  pn : (a, oe) ∈ X.pn
  hz : Zc (.ref C) (some dd) oe
  hf : ∃ vs, oe.data = .fields vs
def fsAt (j : Nat) (a dd : Addr) (fs : List (Str × V)) (σ : L2.St) (H : Hp) : Prop := σ[j]? = some (some (.ref a)) ∧ H dd = some (.xd fs)
def lookAll (fs : List (Str × V)) : List Str → Option (List V)
  | [] => some []
  | n :: ns => match fs.lookup n, lookAll fs ns with
    | some v, some vs => some (v :: vs)
    | _, _ => none
section
variable {X : Cx} {j : Nat} {x : Str} {a C dd : Addr} {oe : Obj} {fs : List (Str × V)}
theorem hot_att (h : HotE X j x a C dd oe) {f : Str} {e : Expr} (hf : f ∈ fldN) (c : attC x f e = true) : PE X e (fun σ H Q => fsAt j a dd fs σ H ∧ ∃ v, fs.lookup f = some v ∧ Q v H) := by
  unfold attC at c
  split at c
  · rename_i y q g p
    obtain ⟨c1, c2⟩ := Bool.and_eq_true_iff.mp c
    cases of_decide_eq_true c1
    cases of_decide_eq_true c2
    refine ⟨fun pins s σ H Q I q => ?_⟩
    obtain ⟨⟨q1, q2⟩, v, q3, q4⟩ := q
    exact (pe_xfP (a := a) (C := C) (cls := .ref C) (d := some dd) h.T (h.no f hf) h.pn h.hz h.hf (pe_var (i := j) h.hN h.vis h.okd h.okc)).run pins s σ H Q I ⟨.ref a, q1, rfl, rfl, dd, fs, v, rfl, q2, q3, q4⟩
  · cases c
theorem hot_atts (h : HotE X j x a C dd oe) : ∀ {ns : List Str} {es : List Expr}, (∀ f ∈ ns, f ∈ fldN) → attsC x ns es = true → PA X es (fun σ H Q => fsAt j a dd fs σ H ∧ ∃ vs, lookAll fs ns = some vs ∧ Q vs H)
  | [], [], _, _ => ⟨fun pos pins s σ H Q I q => pa_nil.run pos pins s σ H Q I (by obtain ⟨_, vs, e, q⟩ := q; cases e; exact q)⟩
  | n :: ns, e :: es, hn, c => by
    obtain ⟨c1, c2⟩ := Bool.and_eq_true_iff.mp (show (attC x n e && attsC x ns es) = true from c)
    have st : starEach (e :: es) X.env = (false, eval e X.env) :: starEach es X.env := by
      unfold attC at c1
      split at c1
      · rfl
      · cases c1
    refine ⟨fun pos pins s σ H Q I q => (pa_cons (hot_att (fs := fs) h (hn n (by simp)) c1) (hot_atts h (fun f hf => hn f (by simp [hf])) c2) st).run pos pins s σ H Q I ?_⟩
    obtain ⟨q1, vs, e, q⟩ := q
    rw [lookAll] at e
    split at e
    · rename_i v ws e1 e2
      cases e
      exact ⟨q1, v, e1, q1, ws, e2, q⟩
    · cases e
  | [], _ :: _, _, c => by cases c
  | _ :: _, [], _, c => by cases c
theorem strs_pa : ∀ {zs : List Str} {es : List Expr}, strsC zs es = true → PA X es (fun _ H Q => Q (zs.map V.str) H)
  | [], [], _ => pa_nil
  | z :: zs, e :: es, c => by
    unfold strsC at c
    split at c
    · rename_i h1 h2; cases h1
    · rename_i h1 h2
      cases h1
      cases h2
      obtain ⟨c1, c2⟩ := Bool.and_eq_true_iff.mp c
      cases of_decide_eq_true c1
      exact ⟨fun pos pins s σ H Q I q => (pa_cons pe_str (strs_pa c2)).run pos pins s σ H Q I q⟩
    · cases c
  | [], _ :: _, c => by cases c
  | _ :: _, [], c => by cases c
theorem inV_str (c : Str) (cs : List Str) : inV (.str c) (cs.map V.str) = decide (c ∈ cs) := by
  unfold inV
  rw [Bool.eq_iff_iff, List.any_eq_true]
  simp only [List.mem_map, decide_eq_true_eq]
  constructor
  · rintro ⟨_, ⟨z, hz, rfl⟩, e⟩
    have e : z = c := by simpa [eqV] using e
    rw [← e]
    exact hz
  · intro h
    exact ⟨_, ⟨c, h, rfl⟩, by simp [eqV]⟩
theorem flat_strs (cs : List Str) : (cs.map V.str).all flatV = true := by
  rw [List.all_eq_true]
  intro v hv
  obtain ⟨z, _, rfl⟩ := List.mem_map.mp hv
  rfl
theorem hot_test (h : HotE X j x a C dd oe) {m : Bool} {cs : List Str} {t : Expr} (hl : cs.length ≤ 1000) (c : testC x m cs t = true) :
    PT X t (fun σ H Q => fsAt j a dd fs σ H ∧ ∃ code, fs.lookup ("code" : Str) = some (.str code) ∧ ∀ H', ExtH H H' → Q (decide (code ∈ cs)) H') := by
  unfold testC at c
  split at c
  · obtain ⟨c, c3⟩ := Bool.and_eq_true_iff.mp c
    obtain ⟨c1, c2⟩ := Bool.and_eq_true_iff.mp c
    refine ⟨fun pins s σ H Q I q => (pt_cmpR op_in_seq (hot_att (fs := fs) h (by decide) c2) (pe_lst (strs_pa c3)) rfl).run pins s σ H Q I ?_⟩
    obtain ⟨q1, code, q2, q3⟩ := q
    refine ⟨q1, _, q2, by rw [List.length_map, sizeLine_eq]; omega, fun p hp => ?_⟩
    refine ⟨p, cs.map V.str, rfl, .inl (SqL.of upd_same), rfl, flat_strs cs, ?_⟩
    rw [if_neg Bool.false_ne_true, inV_str]
    exact ⟨_, rfl, q3 _ (ExtH.new hp)⟩
  · rename_i l0 l y _ _ _
    obtain ⟨c, c3⟩ := Bool.and_eq_true_iff.mp c
    obtain ⟨c1, c2⟩ := Bool.and_eq_true_iff.mp c
    cases of_decide_eq_true c3
    refine ⟨fun pins s σ H Q I q => (pt_cmpR op_eq (hot_att (fs := fs) h (by decide) c2) pe_str rfl).run pins s σ H Q I ?_⟩
    obtain ⟨q1, code, q2, q3⟩ := q
    refine ⟨q1, _, q2, rfl, _, rfl, ?_⟩
    have e : decide (V.str code = V.str y) = decide (code ∈ [y]) := by
      rw [Bool.eq_iff_iff]
      simp
    rw [e]
    exact q3 _ ExtH.refl
  · cases c
def rdF (j : Nat) (fs : List (Str × V)) (a dd : Addr) (t : FT) : TS := fun D σ H => fsAt j a dd fs σ H ∧ ∃ code vs, fs.lookup ("code" : Str) = some (.str code) ∧ lookAll fs (pickF t code) = some vs ∧ vs.length ≤ 1000 ∧ ∀ H' p, ExtH H H' → H' p = none → D.rt (.ref p) (upd H' p (.tup vs))
theorem hot_ret (h : HotE X j x a C dd oe) {ns : List Str} {s : Stmt} (hn : ∀ f ∈ ns, f ∈ fldN) (c : retC x ns s = true) : PS X s (fun D σ H => fsAt j a dd fs σ H ∧ ∃ vs, lookAll fs ns = some vs ∧ vs.length ≤ 1000 ∧ ∀ p, H p = none → D.rt (.ref p) (upd H p (.tup vs))) := by
  unfold retC at c
  split at c
  · refine ⟨fun pins s σ H D I q => (ps_ret (pe_tup (hot_atts (fs := fs) h hn c))).run pins s σ H D I ?_⟩
    obtain ⟨q1, vs, q2, q3, q4⟩ := q
    exact ⟨q1, vs, q2, by rw [sizeLine_eq]; omega, q4⟩
  · cases c
theorem hot_fld (h : HotE X j x a C dd oe) : ∀ {t : FT} {ss : List Stmt}, (∀ p ∈ t, p.2.1.length ≤ 1000 ∧ ∀ f ∈ p.2.2, f ∈ fldN) → fldC x t ss = true → PSs X ss (rdF j fs a dd t)
  | [], _, _, c => by cases c
  | (m, cs, ns) :: r, [], ht, c => by cases r <;> cases c
  | (m, cs, ns) :: [], [s], ht, c => by
    have c' : lastC x m cs ns s = true := c
    unfold lastC at c'
    split at c'
    · obtain ⟨c1, c2⟩ := Bool.and_eq_true_iff.mp c'
      have hh := ht _ List.mem_cons_self
      refine ⟨fun pins s σ H D I q => (pss_one (ps_ret (pe_ifExp (hot_test (fs := fs) h hh.1 c1) (pe_tup (hot_atts (fs := fs) h hh.2 c2)) (pe_tup pa_nil)))).run pins s σ H D I ?_⟩
      obtain ⟨q1, code, vs, q2, q3, q4, q5⟩ := q
      refine ⟨q1, code, q2, fun H' x1 => ?_⟩
      rw [pickF] at q3
      by_cases hc : code ∈ cs
      · rw [if_pos hc] at q3
        rw [decide_eq_true hc, if_pos rfl]
        exact ⟨⟨q1.1, x1 _ _ q1.2⟩, vs, q3, by rw [sizeLine_eq]; omega, fun p hp => q5 H' p x1 hp⟩
      · rw [if_neg hc] at q3
        rw [decide_eq_false hc, if_neg Bool.false_ne_true]
        cases q3
        exact ⟨by rw [sizeLine_eq]; simp, fun p hp => q5 H' p x1 hp⟩
    · cases c'
  | (m, cs, ns) :: p2 :: r, s :: ss, ht, c => by
    cases s with
    | If t b o pos =>
      cases b with
      | nil => cases c
      | cons s1 b =>
        cases b with
        | cons _ _ => cases c
        | nil =>
          cases o with
          | cons _ _ => cases c
          | nil =>
            obtain ⟨c, c3⟩ := Bool.and_eq_true_iff.mp (show (testC x m cs t && retC x ns s1 && fldC x (p2 :: r) ss) = true from c)
            obtain ⟨c1, c2⟩ := Bool.and_eq_true_iff.mp c
            have hh := ht _ List.mem_cons_self
            refine ⟨fun pins s σ H D I q => (pss_cons (ps_if (hot_test (fs := fs) h hh.1 c1) (pss_one (hot_ret (fs := fs) h hh.2 c2)) pss_nil) (hot_fld h (fun p hp => ht p (List.mem_cons_of_mem _ hp)) c3)).run pins s σ H D I ?_⟩
            obtain ⟨q1, code, vs, q2, q3, q4, q5⟩ := q
            refine ⟨q1, code, q2, fun H' x1 => ?_⟩
            rw [pickF] at q3
            by_cases hc : code ∈ cs
            · rw [if_pos hc] at q3
              rw [decide_eq_true hc, if_pos rfl]
              exact ⟨⟨q1.1, x1 _ _ q1.2⟩, vs, q3, q4, fun p hp => q5 H' p x1 hp⟩
            · rw [if_neg hc] at q3
              rw [decide_eq_false hc, if_neg Bool.false_ne_true]
              exact ⟨⟨q1.1, x1 _ _ q1.2⟩, code, vs, q2, q3, q4, fun H2 p x2 hp => q5 H2 p (x1.trans x2) hp⟩
    | _ => cases c
  | (m, cs, ns) :: [], s :: s2 :: ss, ht, c => by
    unfold fldC at c
    split at c
    · cases c
    · rename_i e1 e2
      cases e2
    · rename_i e1 e2
      cases e1
      rename_i c
      obtain ⟨_, c3⟩ := Bool.and_eq_true_iff.mp c
      cases c3
    · cases c
end
end Z

set_option Elab.async false
set_option linter.all false
set_option maxRecDepth 100000
set_option maxHeartbeats 4000000
namespace Z
open PySem PySem.Spec PyProof.Rows L2
/-! ### a def run while an exception is handled (nothing is raised there) -/
theorem run_hot {CX : CXT} {P : Program} {w : World} {K : PySem.W.Frag} {mg : Str → Option Value} {base : Heap} {f : Addr} {x qual : Str} {params : Arguments} {body : List Stmt} {scope : Scope} {fd : FuncData} {N ps : List Str} {A : Around} {outer : List Env} {s : Shared} {H : Hp} {us : List Value} {vs : List V}
    {Q : VK} {E : XK} {p : Addr × Obj} (F : FunD K x qual params body scope [] [] f fd) (S : FnScope N ps scope) (hd : A.depth < recursionLimit) (e0 : Env0 P w K mg base A outer s H) (hpin : L2H.PinOk outer H s p) (hb : Binds K fd ps []) (r : Vals vs us) (hl : vs.length = ps.length)
    (hbody : ∀ cdv, ∃ t, PSs (L2H.cxH CX P w K mg base N qual scope f cdv A outer s H E p) body t ∧ t { nx := fun _ H' => Q .non H', rt := Q } (L2.start N vs) H) :
    codeAny (model P w) A (.call (.ref f) ⟨us, []⟩) (CR CX outer P w H s Q E) s := by
  obtain ⟨oc, od, dV, kV, doc, pm, an, cdv, ct, osl, rfl, lk, hcd, _, _⟩ := F.ex
  have KX : K.In s.heap := e0.mod.kin.keeps fun b o e => (e0.bs b o e).1
  have lim : s.heap.NoLimit := e0.mod.nolimit.keeps fun b o e => (e0.bs b o e).1
  have hk : ∀ y ∈ ps.zip us, scope.names.lookup y.1 = some .local ∨ (scope.names.lookup y.1 = some .cell ∧ ((cellsFrom (s.heap.objs.size + 1) scope.names []).lookup y.1).isSome = true) := by
    rintro ⟨n, v⟩ hy
    exact (S.par n (List.of_mem_zip hy).1).imp id fun q => ⟨q, PySem.W.cellsFrom_some _ _ _ (.inl q)⟩
  have b2 := hb s us KX (by rw [List.append_nil, ← r.length]; exact hl)
  rw [List.append_nil] at b2
  refine codeAny_call_function hd (KX _ _ lk) rfl S.co S.gen rfl (PySem.W.codeRec_of KX hcd) (b2 _ _ _ _ ?_)
  refine wpAny_newFunctionEnv_cells S.kind hk fun env he s1 y => ?_
  subst he
  obtain ⟨t, ht, hq⟩ := hbody cdv
  refine ⟨lim.keeps y.toInCall.keep, codeAny_func ?_⟩
  have I := L2H.inv_startH (CX := CX) (E := E) (cd := cdv) (qual := qual) (f := f) S hpin e0 hl r y
  refine wpAny_mono (ht.run [] s1 (L2.start N vs) H _ I hq) (fun fl s' hs => ?_) fun e s' hs => hs
  cases fl with
  | ret u =>
    obtain ⟨v, σ', H', J, rv, q⟩ := hs
    exact ⟨v, H', J.os, J.bare, J.base, J.hok, rv, q⟩
  | next =>
    obtain ⟨σ', H', J, q⟩ := hs
    exact ⟨V.non, H', J.os, J.bare, J.base, J.hok, (rfl : RelV .non .none), q⟩
  | brk =>
    obtain ⟨_, _, _, q⟩ := hs
    exact False.elim q
  | cont =>
    obtain ⟨_, _, _, q⟩ := hs
    exact False.elim q
/-! ### what stands written of the three defs -/
structure DefH (K : PySem.W.Frag) (mg : Str → Option Value) (x : Str) (N ps : List Str) (body : List Stmt) (scope : Scope) : Prop where
  ex : ∃ f fd params, FunD K x x params body scope [] [] f fd ∧ mg x = some (.ref f) ∧ Binds K fd ps []
  fs : FnScope N ps scope
def gloI (sc : Scope) (x : Str) : Bool := decide (sc.names.lookup x = some .globalImplicit)
def locI (sc : Scope) (x : Str) : Bool := decide (sc.names.lookup x = some .local)
def gotC (sc : Scope) : List Stmt → Bool
  | [.Try [.Return (some (.Tuple [.Constant (.str z) _ _, .Call (.Name a _) [] [] _] _ _)) _] [.ExceptHandler (some (.Tuple [.Name e1 _, .Name e2 _] _ _)) (some n) [.Return (some (.BinOp (.Tuple [at_] _ _) .Add (.Call (.Name g _) [.Name m _] [] _) _)) _] _] [] [] _] =>
    decide (z = "") && decide (a = "_law_ask") && decide (e1 = "NetError") && decide (e2 = "Missing") && decide (n = "_law_e") && attC "_law_e" "code" at_ && decide (g = "_law_fields") && decide (m = "_law_e") &&
      gloI sc "NetError" && gloI sc "Missing" && gloI sc "_law_fields" && locI sc "_law_ask" && locI sc "_law_e"
  | _ => false
def isC (sc : Scope) : List Stmt → Bool
  | [.Return (some (.Call (.Name s _) [.Call (.Name g _) [.Name a _] [] _, .Name d _] [] _)) _] => decide (s = "_law_same") && decide (g = "_law_got") && decide (a = "_law_ask") && decide (d = "_law_due") && gloI sc "_law_same" && gloI sc "_law_got" && locI sc "_law_ask" && locI sc "_law_due"
  | _ => false
/-- what an error's class must have to be told by them -/
structure ExcF (K : PySem.W.Frag) (C : Str) : Prop where
  xf : XfC K (He.ga K C)
  no : ∀ f ∈ fldN, PySem.W.findIn K (.ref (He.ga K C)) f = some none
  exm : PySem.W.exmAny K (.ref (He.ga K C)) [.ref (He.ga K "NetError"), .ref (He.ga K "Missing")] = some true
def excFB (K : PySem.W.Frag) (C : Str) : Bool := xfB K (He.ga K C) && (fldN.all fun f => decide (PySem.W.findIn K (.ref (He.ga K C)) f = some none)) && decide (PySem.W.exmAny K (.ref (He.ga K C)) [.ref (He.ga K "NetError"), .ref (He.ga K "Missing")] = some true)
theorem excFB_ok {K : PySem.W.Frag} {C : Str} (h : excFB K C = true) : ExcF K C := by
  obtain ⟨h, h3⟩ := Bool.and_eq_true_iff.mp h
  obtain ⟨h1, h2⟩ := Bool.and_eq_true_iff.mp h
  exact ⟨xfB_ok h1, fun f hf => of_decide_eq_true (List.all_eq_true.mp h2 f hf), of_decide_eq_true h3⟩
structure AskE (K : PySem.W.Frag) (mg : Str → Option Value) (xs : List Str) : Prop where
  fld : ∃ body sc, DefH K mg "_law_fields" ["_law_e"] ["_law_e"] body sc ∧ fldC "_law_e" fldT body = true ∧ locI sc "_law_e" = true
  got : ∃ body sc, DefH K mg "_law_got" ["_law_ask", "_law_e"] ["_law_ask"] body sc ∧ gotC sc body = true
  is_ : ∃ body sc, DefH K mg "_law_is" ["_law_ask", "_law_due"] ["_law_ask", "_law_due"] body sc ∧ isC sc body = true
  ne : mg "NetError" = some (.ref (He.ga K "NetError"))
  mi : mg "Missing" = some (.ref (He.ga K "Missing"))
  exc : ∀ C ∈ xs, ExcF K C
/-! ### _law_fields(_law_e), in the suite -/
theorem pe_fields {X : Cx} {xs : List Str} {a dd : Addr} {C : Str} {oe : Obj} {pn : List (Addr × Obj)} {fs : List (Str × V)} {q1 q2 q3 : Pos} (W : AskE X.K X.mg xs) (hC : C ∈ xs) (hd : X.A.depth < recursionLimit) (hz : Zc (.ref (He.ga X.K C)) (some dd) oe) (hf : ∃ vs, oe.data = .fields vs)
    (hN : X.N[1]? = some ("_law_e" : Str)) (hl : X.env.kindOf "_law_e" = some .local) (hg : X.env.kindOf "_law_fields" = some .globalImplicit) :
    PE (X.suite a ((a, oe) :: pn)) (.Call (.Name "_law_fields" q1) [.Name "_law_e" q2] [] q3) (fun σ H Q => fsAt 1 a dd fs σ H ∧ ∃ code vs, fs.lookup ("code" : Str) = some (.str code) ∧ lookAll fs (pickF fldT code) = some vs ∧ vs.length ≤ 1000 ∧
      ∀ H' p, ExtH H H' → H' p = none → Q (.ref p) (upd H' p (.tup vs))) := by
  obtain ⟨body, sc, ⟨⟨f, fd, params, F, hm, hb⟩, fsc⟩, ck, lc⟩ := W.fld
  refine ⟨fun pins s σ H Q I q => ?_⟩
  obtain ⟨⟨q1, q2⟩, code, vs, q3, q4, q5, q6⟩ := q
  refine wpAny_Call_Name_kw (ld_glob (X := X.suite a ((a, oe) :: pn)) I hg hm ?_ (by decide))
  refine PySem.W.callWith_K (h₀ := X.base) I.ok.mod.kin F.kp (thn ((pa_cons (pe_var (X := X.suite a ((a, oe) :: pn)) (i := 1) hN (.inl hl) (by decide) (by decide)) pa_nil).run _ pins s σ H (fun ws H1 => ws = [.ref a] ∧ H1 = H) I ⟨.ref a, q1, rfl, rfl⟩) fun us s1 ⟨ws, H1, I1, r, e⟩ => ⟨I1.kIn, ?_⟩) rfl rfl
  obtain ⟨rfl, rfl⟩ := e
  have P1 := I1.pin (a, oe) (List.mem_append_left _ List.mem_cons_self)
  have hpin : L2H.PinOk X.stack H1 s1 (a, oe) := ⟨P1.1, P1.2.1, fun hm => (List.mem_cons.mp (I1.stkSub a hm)).elim P1.2.2.1 P1.2.2.2.1, P1.2.2.2.2⟩
  have key := run_hot (CX := C8.CX0) (E := C8.E0) (Q := Q) F fsc (A := (X.suite a ((a, oe) :: pn)).A) hd I1.env0 hpin hb r rfl fun cdv => ⟨_, hot_fld (X := L2H.cxH C8.CX0 X.prog X.w X.K X.mg X.base ["_law_e"] "_law_fields" sc f cdv (X.suite a ((a, oe) :: pn)).A X.stack s1 H1 C8.E0 (a, oe)) (a := a) (C := He.ga X.K C) (dd := dd) (oe := oe) (j := 0) (fs := fs)
      { hN := rfl, vis := .inl (of_decide_eq_true lc), okd := by decide, okc := by decide, T := (W.exc C hC).xf, no := (W.exc C hC).no, pn := List.mem_cons_self, hz := hz, hf := hf } (by
        intro p hp
        refine ⟨?_, fldT_sub p hp⟩
        revert p
        decide) ck, ⟨rfl, q2⟩, code, vs, q3, q4, q5, q6⟩
  refine wpAny_call (codeAny_mono key fun r2 t hq => ?_)
  cases r2 with
  | error e => exact (show False from hq).elim
  | ok fl =>
    cases fl with
    | ret u => exact I1.after hq
    | next => exact False.elim hq
    | brk => exact False.elim hq
    | cont => exact False.elim hq
end Z

set_option Elab.async false
set_option linter.all false
set_option maxRecDepth 100000
set_option maxHeartbeats 4000000
namespace Z
open PySem PySem.Spec PyProof.Rows L2

/-! ### the resolved text -/
/-- a target: a slot; a tuple of targets -/
inductive T1 where
  | nm (i : Nat) | tp (r : T1) | nil | cons (a r : T1)
/-- built-ins that take data -/
inductive BF where
  | len | abs | int | list | tuple | sum | all | any | min | max | str | bool
def BF.name : BF → Str
  | .len => "len" | .abs => "abs" | .int => "int" | .list => "list" | .tuple => "tuple" | .sum => "sum" | .all => "all" | .any => "any" | .min => "min" | .max => "max" | .str => "str" | .bool => "bool"
def BF.op : BF → List D → (D → Prop) → Prop
  | .len => lenD | .abs => absD | .int => intD | .list => listD | .tuple => tupleD | .sum => sumD | .all => allD | .any => anyD | .min => minD | .max => maxD | .str => strD | .bool => boolD
inductive Y where
  | var (i : Nat) | int (i : Int) | bl (b : Bool) | non | str (x : Str) | gint (x : Str) (i : Int) | gstr (x z : Str)
  | bin (op : Operator) (a b : Y) | neg (a : Y) | not (a : Y) | and (a b : Y) | or (a b : Y) | one (a : Y)
  | cmp (op : CmpOp) (a b : Y) | chain (o p : CmpOp) (a b c : Y) | ite (c a b : Y)
  | tup (es : Y) | tupU (es : Y) | lst (own : Bool) (es : Y)
  | call (g : Nat) (es : Y) | blt (f : BF) (es : Y) | lis (z : Y) | isi (a : Y) (cs : List String)
  | ix (a b : Y) | sl (a lo hi : Y) | rep (a b : Y)
  | comp (own : Bool) (vs : List Nat) (tg : T1) (src tst elt : Y)
  | app (r z : Y) | fz (z : Y) | fdq (a b : Y) | ins (r i z : Y) | lnt (z : Y) | dic0 | dic1 (x : Str) (z : Y) | sml (z : Y) | compU (vs : List Nat) (tg : T1) (src elt : Y) | fzl (z : Y)
  | nil | cons (a r : Y) | star (a r : Y) | nop | sm (a : Y) | yes
  | ask (g : Nat) (xs : List Str) (b d : Y) | got (xs : List Str) (b : Y) | callk (g : Nat) (es ks : Y)
  | seq (z : Y) | rng (a : Y) | rng2 (a b : Y) | enm (z : Y) | zip (a b : Y) | rev (z : Y)

/-! ### calls of defs by data -/
/-- a def as it is called: its name, the names of the keywords behind the positional arguments -/
abbrev Fk : Type := Str × List Str
instance : Coe String Fk := ⟨fun s => (Str.ofString s, [])⟩
abbrev ZSp := List U → List DO → (U → List DO → Prop) → ZX → Prop
mutual
def shU (f : Nat → Nat) : U → U
  | .d x => .d x
  | .o k => .o (f k)
  | .t us => .t (shUs f us)
  | .l us => .l (shUs f us)
def shUs (f : Nat → Nat) : List U → List U
  | [] => []
  | u :: us => shU f u :: shUs f us
end
/-- the arguments of a call: owned places are lent (the first to be written, the others to be read), all else is data that stays -/
def lendU (O : List DO) : Bool → List U → Nat → Option (List U × List Nat × List DO)
  | _, [], _ => some ([], [], [])
  | fst, u :: us, j => match u with
    | .o k => (match go O k with
      | some (.lst ds) => (match lendU O false us (j + 1) with
        | some (r, ks, L) => some (.o j :: r, k :: ks, (if fst = true then .lst ds else .brw ds) :: L)
        | none => none)
      | some (.brw ds) => (match lendU O false us (j + 1) with
        | some (r, ks, L) => some (.o j :: r, k :: ks, .brw ds :: L)
        | none => none)
      | some (.frz ds) => (match lendU O false us j with
        | some (r, ks, L) => some (.d (.lst ds) :: r, ks, L)
        | none => none)
      | none => none)
    | u => (match toD O u with
      | some d => (match lendU O false us j with
        | some (r, ks, L) => some (.d d :: r, ks, L)
        | none => none)
      | none => none)
/-- the lent places come back -/
def mrg : List Nat → List DO → List DO → List DO → Option (List DO)
  | [], [], A, O => some (O ++ A)
  | k :: ks, .lst _ :: L, a :: A, O => mrg ks L A (so O k a)
  | _ :: ks, .brw _ :: L, .brw _ :: A, O => mrg ks L A O
  | _, _, _, _ => none
def ren : List Nat → Nat → Nat → Nat
  | [], n, j => n + j
  | k :: _, _, 0 => k
  | _ :: ks, n, j + 1 => ren ks n j
def callZ (P : ZSp) (us : List U) (O : List DO) (Q : U → List DO → Prop) (E : ZX) : Prop :=
  ∃ r ks L, lendU O true us 0 = some (r, ks, L) ∧ ks.Nodup ∧
    P r L (fun u O' => ∃ O2, mrg ks L O' O = some O2 ∧ Q (shU (ren ks O.length) u) O2) (fun x O' => ∃ O2, mrg ks L O' O = some O2 ∧ E x (O2.take O.length))

/-! ### what is to be shown -/
def oneK (us : List U) (k : U → Prop) : Prop := match us with
  | [u] => k u
  | _ => False
def boolK (us : List U) (k : Bool → Prop) : Prop := match us with
  | [.d (.bl b)] => k b
  | _ => False
def nrK (O : List DO) (u : U) (k : D → Prop) : Prop := match nrm O u with
  | some x => k x
  | none => False
def toK (O : List DO) (u : U) (k : D → Prop) : Prop := match toD O u with
  | some x => k x
  | none => False
def tosK (O : List DO) (us : List U) (k : List D → Prop) : Prop := match toDs O us with
  | some ds => k ds
  | none => False
def nrs (O : List DO) : List U → Option (List D)
  | [] => some []
  | u :: us => match nrm O u with
    | some d => (match nrs O us with
      | some ds => some (d :: ds)
      | none => none)
    | none => none
def nrsK (O : List DO) (us : List U) (k : List D → Prop) : Prop := match nrs O us with
  | some ds => k ds
  | none => False
/-- read for a walk: an owned list is borrowed -/
def brK (O : List DO) (u : U) (k : D → List DO → Prop) : Prop := match u with
  | .o j => (match go O j with
    | some (.lst ds) => k (.lst ds) (so O j (.brw ds))
    | some (.brw ds) => k (.lst ds) O
    | some (.frz ds) => k (.lst ds) O
    | none => False)
  | u => (match toD O u with
    | some x => k x O
    | none => False)
/-- .. and given back -/
def unb1 : DO → DO → DO
  | .lst _, .brw ds => .lst ds
  | _, x => x
def unb : List DO → List DO → List DO
  | [], s => s
  | _ :: _, [] => []
  | o :: r, x :: s => unb1 o x :: unb r s
/-- the kind of a value -/
def tyD : D → Option String
  | .non => some "NoneType" | .bl _ => some "bool" | .int _ => some "int" | .str _ => some "str" | .tup _ => some "tuple" | .lst _ => some "list" | .scr _ => none | .dct _ _ => some "dict" | .obj _ _ _ => none
def tyU (O : List DO) : U → Option String
  | .d x => tyD x
  | .o k => match go O k with
    | some _ => some "list"
    | none => none
  | .t _ => some "tuple"
  | .l _ => some "list"
def isiB (t : String) (cs : List String) : Option Bool := match cs with
  | [] => some false
  | c :: r => match kitB t c with
    | some true => some true
    | some false => isiB t r
    | none => none
mutual
def bindT : T1 → D → List (Option U) → (List (Option U) → Prop) → Prop
  | .nm i, d, ρ, k => k (st ρ i (.d d))
  | .tp r, d, ρ, k => match d with
    | .tup ds => bindTs r ds ρ k
    | .lst ds => bindTs r ds ρ k
    | _ => False
  | .nil, _, _, _ => False
  | .cons _ _, _, _, _ => False
def bindTs : T1 → List D → List (Option U) → (List (Option U) → Prop) → Prop
  | .nil, ds, ρ, k => match ds with
    | [] => k ρ
    | _ :: _ => False
  | .cons a r, ds, ρ, k => match ds with
    | d :: ds => bindT a d ρ fun ρ1 => bindTs r ds ρ1 k
    | [] => False
  | .nm _, _, _, _ => False
  | .tp _, _, _, _ => False
end
def wipeR (ρ : List (Option U)) : List Nat → List (Option U)
  | [] => ρ
  | v :: vs => rm (wipeR ρ vs) v
where rm : List (Option U) → Nat → List (Option U)
  | [], _ => []
  | _ :: r, 0 => none :: r
  | x :: r, n + 1 => x :: rm r n
/-- a comprehension's turns -/
def compR (tg : T1) (vt ve : List (Option U) → List DO → ZQ → Prop) (ρ0 : List (Option U)) (n : Nat) : List D → List D → List DO → (List D → List DO → Prop) → Prop
  | [], acc, O, Q => Q acc O
  | d :: ds, acc, O, Q => bindT tg d ρ0 fun ρ1 => vt ρ1 O fun us O1 => boolK us fun b =>
    (b = true → ve ρ1 O1 fun ws O2 => oneK ws fun w => toK O2 w fun x => compR tg vt ve ρ0 n ds (acc ++ [x]) (O2.take n) Q) ∧
    (b = false → compR tg vt ve ρ0 n ds acc (O1.take n) Q)
/-- .. whose elements stay ours -/
def compUR (tg : T1) (ve : List (Option U) → List DO → ZQ → Prop) (ρ0 : List (Option U)) : List D → List U → List DO → (List U → List DO → Prop) → Prop
  | [], acc, O, Q => Q acc O
  | d :: ds, acc, O, Q => bindT tg d ρ0 fun ρ1 => ve ρ1 O fun ws O2 => oneK ws fun w => compUR tg ve ρ0 ds (acc ++ [w]) O2 Q
/-- owned lists become data -/
def frzAll : List U → List DO → List DO
  | [], O => O
  | .o j :: us, O => (match go O j with
    | some (.lst ds) => frzAll us (so O j (.frz ds))
    | _ => frzAll us O)
  | _ :: us, O => frzAll us O
def newL (own : Bool) (ds : List D) (O : List DO) (Q : ZQ) : Prop := match own with
  | true => Q [.o O.length] (O ++ [.lst ds])
  | false => Q [.d (.lst ds)] O
/-- an end of a slice -/
def partK (us : List U) (k : Option Int → Prop) : Prop := match us with
  | [] => k none
  | [.d (.int i)] => k (some i)
  | _ => False
def ofInts (ns : List Int) : List D := ns.map .int
/-- what an error tells: its code, the attributes that go with it -/
def lookD (fs : List (Str × D)) : List Str → Option (List D)
  | [] => some []
  | n :: ns => match fs.lookup n, lookD fs ns with
    | some v, some vs => some (v :: vs)
    | _, _ => none
def lawFields (x : Exc) : Option D := match x.fs.lookup ("code" : Str) with
  | some (.str c) => (match lookD x.fs (pickF fldT c) with
    | some ds => some (.tup (.str c :: ds))
    | none => none)
  | _ => none
def vc (Γ : List (Fk × ZSp)) : Y → ZE
  | .var i => fun _ ρ O Q => match gt ρ i with
    | some u => Q [u] O
    | none => False
  | .int i => fun _ _ O Q => Q [.d (.int i)] O
  | .bl b => fun _ _ O Q => Q [.d (.bl b)] O
  | .non => fun _ _ O Q => Q [.d .non] O
  | .str x => fun _ _ O Q => Q [.d (.str x)] O
  | .gint _ i => fun _ _ O Q => Q [.d (.int i)] O
  | .gstr _ z => fun _ _ O Q => Q [.d (.str z)] O
  | .bin op a b => fun E ρ O Q => vc Γ a E ρ O fun us O1 => oneK us fun u => vc Γ b E ρ O1 fun ws O2 => oneK ws fun w => nrK O2 u fun x => nrK O2 w fun y => binD op x y fun z => Q [.d z] O2
  | .neg a => fun E ρ O Q => vc Γ a E ρ O fun us O1 => oneK us fun u => nrK O1 u fun x => match x with
    | .int i => Q [.d (.int (-i))] O1
    | _ => False
  | .not a => fun E ρ O Q => vc Γ a E ρ O fun us O1 => boolK us fun b => Q [.d (.bl (!b))] O1
  | .and a b => fun E ρ O Q => vc Γ a E ρ O fun us O1 => boolK us fun t => (t = true → vc Γ b E ρ O1 Q) ∧ (t = false → Q [.d (.bl false)] O1)
  | .or a b => fun E ρ O Q => vc Γ a E ρ O fun us O1 => boolK us fun t => (t = true → Q [.d (.bl true)] O1) ∧ (t = false → vc Γ b E ρ O1 Q)
  | .one a => vc Γ a
  | .cmp op a b => fun E ρ O Q => vc Γ a E ρ O fun us O1 => oneK us fun u => vc Γ b E ρ O1 fun ws O2 => oneK ws fun w => nrK O2 u fun x => nrK O2 w fun y => cmpD op x y fun t => Q [.d (.bl t)] O2
  | .chain o p a b c => fun E ρ O Q => vc Γ a E ρ O fun us O1 => oneK us fun u => vc Γ b E ρ O1 fun ws O2 => oneK ws fun w => nrK O2 u fun x => nrK O2 w fun y => cmpD o x y fun t =>
    (t = true → vc Γ c E ρ O2 fun vs O3 => oneK vs fun v => nrK O3 w fun y2 => nrK O3 v fun z => cmpD p y2 z fun t2 => Q [.d (.bl t2)] O3) ∧ (t = false → Q [.d (.bl false)] O2)
  | .ite c a b => fun E ρ O Q => vc Γ c E ρ O fun us O1 => boolK us fun t => (t = true → vc Γ a E ρ O1 Q) ∧ (t = false → vc Γ b E ρ O1 Q)
  | .tup es => fun E ρ O Q => vc Γ es E ρ O fun us O1 => tosK O1 us fun ds => ds.length ≤ sizeLine ∧ Q [.d (.tup ds)] O1
  | .tupU es => fun E ρ O Q => vc Γ es E ρ O fun us O1 => us.length ≤ sizeLine ∧ Q [.t us] O1
  | .lst own es => fun E ρ O Q => vc Γ es E ρ O fun us O1 => tosK O1 us fun ds => ds.length ≤ sizeLine ∧ newL own ds O1 Q
  | .call g es => fun E ρ O Q => vc Γ es E ρ O fun us O1 => match Γ[g]? with
    | some (_, P) => callZ P us O1 (fun u O2 => Q [u] O2) E
    | none => False
  | .callk g es ks => fun E ρ O Q => vc Γ es E ρ O fun us O1 => vc Γ ks E ρ O1 fun ws O2 => match Γ[g]? with
    | some (x, P) => ws.length = x.2.length ∧ callZ P (us ++ ws) O2 (fun u O3 => Q [u] O3) E
    | none => False
  | .ask g xs b d => fun E ρ O Q => vc Γ d E ρ O fun us O1 => oneK us fun u => toK O1 u fun due =>
    vc Γ b (fun x O2 => x.cls ∈ xs ∧ ∃ f, lawFields x = some f ∧ (match Γ[g]? with
      | some (_, P) => callZ P [.d f, .d due] O2 (fun u O3 => Q [u] O3) fun _ _ => False
      | none => False)) ρ O1 fun ws O2 => oneK ws fun w => toK O2 w fun x => match Γ[g]? with
    | some (_, P) => callZ P [.d (.tup [.str "", x]), .d due] O2 (fun u O3 => Q [u] O3) fun _ _ => False
    | none => False
  | .got xs b => fun E ρ O Q => vc Γ b (fun x O2 => x.cls ∈ xs ∧ ∃ f, lawFields x = some f ∧ Q [.d f] O2) ρ O fun ws O2 => oneK ws fun w => toK O2 w fun x => Q [.d (.tup [.str "", x])] O2
  | .blt f es => fun E ρ O Q => vc Γ es E ρ O fun us O1 => nrsK O1 us fun ds => f.op ds fun z => Q [.d z] O1
  | .lis z => fun E ρ O Q => vc Γ z E ρ O fun us O1 => oneK us fun u => nrK O1 u fun x => listD [x] fun y => match y with
    | .lst ds => newL true ds O1 Q
    | _ => False
  | .sml z => fun E ρ O Q => vc Γ z E ρ O fun us O1 => oneK us fun u => nrK O1 u fun x => match x with
    | .lst ds => ∃ xss : List (List D), ds = xss.map .lst ∧ xss.flatten.length ≤ sizeLine ∧ Q [.d (.lst xss.flatten)] O1
    | _ => False
  | .isi a cs => fun E ρ O Q => vc Γ a E ρ O fun us O1 => oneK us fun u => match tyU O1 u with
    | some t => ∃ b, isiB t cs = some b ∧ Q [.d (.bl b)] O1
    | none => False
  | .ix a b => fun E ρ O Q => vc Γ a E ρ O fun us O1 => oneK us fun u => vc Γ b E ρ O1 fun ws O2 => oneK ws fun w => nrK O2 w fun y => match u with
    | .t vs => (match y with
      | .int i => ∃ v, atI vs i = some v ∧ Q [v] O2
      | _ => False)
    | .l vs => (match y with
      | .int i => ∃ v, atI vs i = some v ∧ Q [v] O2
      | _ => False)
    | u => nrK O2 u fun x => ixD x y fun z => Q [.d z] O2
  | .sl a lo hi => fun E ρ O Q => vc Γ a E ρ O fun us O1 => oneK us fun u => vc Γ lo E ρ O1 fun ls O2 => partK ls fun l => vc Γ hi E ρ O2 fun hs O3 => partK hs fun h =>
    nrK O3 u fun x => slD x l h fun z => Q [.d z] O3
  | .rep a b => fun E ρ O Q => vc Γ a E ρ O fun us O1 => oneK us fun u => vc Γ b E ρ O1 fun ws O2 => oneK ws fun w => nrK O2 u fun x => nrK O2 w fun y => mulD x y fun z => match z with
    | .lst ds => newL true ds O2 Q
    | _ => False
  | .comp own vs tg src tst elt => fun E ρ O Q => vc Γ src E ρ O fun us O1 => ∃ ds, us = ds.map .d ∧ ds.length ≤ sizeLine ∧
    compR tg (vc Γ tst fun _ _ => False) (vc Γ elt fun _ _ => False) (wipeR ρ vs) O1.length ds [] O1 fun acc O2 => newL own acc (unb O O2) Q
  | .compU vs tg src elt => fun E ρ O Q => vc Γ src E ρ O fun us O1 => ∃ ds, us = ds.map .d ∧ ds.length ≤ sizeLine ∧
    compUR tg (vc Γ elt fun _ _ => False) (wipeR ρ vs) ds [] O1 fun acc O2 => Q [.l acc] (unb O O2)
  | .fzl z => fun E ρ O Q => vc Γ z E ρ O fun us O1 => oneK us fun u => match u with
    | .l ws => toK (frzAll ws O1) (.l ws) fun d => Q [.d d] (frzAll ws O1)
    | _ => False
  | .app r z => fun E ρ O Q => vc Γ r E ρ O fun rs O0 => oneK rs fun r => match r with
    | .o k => vc Γ z E ρ O0 fun us O1 => oneK us fun u => toK O1 u fun x => (match go O1 k with
      | some (.lst ds) => ds.length < sizeLine ∧ Q [.d .non] (so O1 k (.lst (ds ++ [x])))
      | _ => False)
    | _ => False
  | .fdq a b => fun E ρ O Q => vc Γ a E ρ O fun us O1 => oneK us fun u => vc Γ b E ρ O1 fun ws O2 => oneK ws fun w => nrK O2 u fun x => nrK O2 w fun y => fdqD x y fun z => Q [.d z] O2
  | .ins r i z => fun E ρ O Q => vc Γ r E ρ O fun rs O0 => oneK rs fun r => match r with
    | .o k => vc Γ i E ρ O0 fun is O1 => oneK is fun i => vc Γ z E ρ O1 fun us O2 => oneK us fun u => toK O2 u fun x => (match go O2 k, i with
      | some (.lst ds), .d (.int j) => (ds.length < sizeLine ∧ 0 ≤ j ∧ j < 2 ^ 63) ∧ Q [.d .non] (so O2 k (.lst (ds.take j.toNat ++ [x] ++ ds.drop j.toNat)))
      | _, _ => False)
    | _ => False
  | .lnt z => fun E ρ O Q => vc Γ z E ρ O fun us O1 => oneK us fun u => match u with
    | .t vs => Q [.d (.int vs.length)] O1
    | _ => False
  | .dic0 => fun _ _ O Q => Q [.d (.dct [] [])] O
  | .dic1 x z => fun E ρ O Q => vc Γ z E ρ O fun us O1 => oneK us fun u => toK O1 u fun d => Q [.d (.dct [.inr x] [d])] O1
  | .fz z => fun E ρ O Q => vc Γ z E ρ O fun us O1 => oneK us fun u => match u with
    | .o k => (match go O1 k with
      | some (.lst ds) => Q [.d (.lst ds)] (so O1 k (.frz ds))
      | _ => False)
    | u => Q [u] O1
  | .nil => fun _ _ O Q => Q [] O
  | .cons a r => fun E ρ O Q => vc Γ a E ρ O fun us O1 => oneK us fun u => vc Γ r E ρ O1 fun ws O2 => Q (u :: ws) O2
  | .star a r => fun E ρ O Q => vc Γ a E ρ O fun us O1 => oneK us fun u => nrK O1 u fun x => match x with
    | .lst ds => vc Γ r E ρ O1 fun ws O2 => Q (ds.map .d ++ ws) O2
    | .tup ds => vc Γ r E ρ O1 fun ws O2 => Q (ds.map .d ++ ws) O2
    | _ => False
  | .nop => fun _ _ O Q => Q [] O
  | .sm a => fun E ρ O Q => vc Γ a E ρ O fun us O1 => oneK us fun u => Q [u] O1
  | .yes => fun _ _ O Q => Q [.d (.bl true)] O
  | .seq z => fun E ρ O Q => vc Γ z E ρ O fun us O1 => oneK us fun u => brK O1 u fun x O2 => match x with
    | .lst ds => Q (ds.map .d) O2
    | .tup ds => Q (ds.map .d) O2
    | _ => False
  | .rng a => fun E ρ O Q => vc Γ a E ρ O fun us O1 => oneK us fun u => nrK O1 u fun x => match x with
    | .int j => (-(2 ^ 62) ≤ j ∧ j < 2 ^ 62) ∧ Q (((List.range j.toNat).map fun (i : Nat) => D.int (0 + (i : Int))).map .d) O1
    | _ => False
  | .rng2 a b => fun E ρ O Q => vc Γ a E ρ O fun us O1 => oneK us fun u => vc Γ b E ρ O1 fun ws O2 => oneK ws fun w => nrK O2 u fun x => nrK O2 w fun y => match x, y with
    | .int i, .int j => (-(2 ^ 62) ≤ i ∧ i < 2 ^ 62 ∧ -(2 ^ 62) ≤ j ∧ j < 2 ^ 62) ∧ Q (((List.range (j - i).toNat).map fun (m : Nat) => D.int (i + (m : Int))).map .d) O2
    | _, _ => False
  | .enm z => fun E ρ O Q => vc Γ z E ρ O fun us O1 => oneK us fun u => brK O1 u fun x O2 => match x with
    | .lst ds => Q ((ds.mapIdx fun (i : Nat) d => D.tup [.int (i : Int), d]).map .d) O2
    | .tup ds => Q ((ds.mapIdx fun (i : Nat) d => D.tup [.int (i : Int), d]).map .d) O2
    | _ => False
  | .zip a b => fun E ρ O Q => vc Γ a E ρ O fun us O1 => oneK us fun u => vc Γ b E ρ O1 fun ws O2 => oneK ws fun w => brK O2 u fun x O3 => brK O3 w fun y O4 => match x, y with
    | .lst ds, .lst es => Q ((List.zipWith (fun d e => D.tup [d, e]) ds es).map .d) O4
    | .tup ds, .tup es => Q ((List.zipWith (fun d e => D.tup [d, e]) ds es).map .d) O4
    | .lst ds, .tup es => Q ((List.zipWith (fun d e => D.tup [d, e]) ds es).map .d) O4
    | .tup ds, .lst es => Q ((List.zipWith (fun d e => D.tup [d, e]) ds es).map .d) O4
    | _, _ => False
  | .rev z => fun E ρ O Q => vc Γ z E ρ O fun us O1 => oneK us fun u => brK O1 u fun x O2 => match x with
    | .lst ds => Q (ds.reverse.map .d) O2
    | _ => False
end Z

set_option Elab.async false
set_option linter.all false
set_option maxRecDepth 100000
set_option maxHeartbeats 4000000
namespace Z
open PySem PySem.Spec PyProof.Rows L2

/-! ### the text is the resolved one -/
/-- where an error's attribute comes from: an argument, a text -/
inductive XSrc where
  | arg (i : Nat) | str (z : Str)
deriving DecidableEq
/-- an error class: its name, how many arguments, its attributes in the order of their stores -/
structure XcD where
  nm : Str
  n : Nat
  fl : List (Str × XSrc)
deriving DecidableEq
structure Sx where
  N : List Str
  sc : Scope
  so : Scope
  lam : Bool := false
  ex : List Str := []
  gi : List (Str × Int) := []
  gs : List (Str × Str) := []
  xs : List XcD := []
/-- within a block or a lambda: no lambdas there -/
def Sx.inn (S : Sx) (sc so : Scope) : Sx := { S with sc := sc, so := so, lam := false }
structure Ck where
  E : Expr → Bool := fun _ => false
  T : Expr → Bool := fun _ => false
  A : List Expr → Bool := fun _ => false
  I : Expr → Expr → Bool := fun _ _ => false
  O : Option Expr → Bool := fun _ => false
def visB (sc : Scope) (x : Str) : Bool := match sc.names.lookup x with
  | some .local => true
  | some .cell => true
  | some .free => true
  | _ => false
def gloB (sc : Scope) (x : Str) : Bool := decide (sc.names.lookup x = some .globalImplicit)
def oknB (x : Str) : Bool := !(x == ("__debug__" : Str)) && !(x == ("__classdict__" : Str))
def ownB (sc : Scope) (x : Str) : Bool := match sc.names.lookup x with
  | some .local => true
  | some .cell => true
  | _ => false
def plainT : Expr → Bool
  | .UnaryOp .Not _ _ => false
  | .BoolOp _ _ _ => false
  | .IfExp _ _ _ _ => false
  | .Compare _ _ _ _ => false
  | _ => true
def noStar : Expr → Bool
  | .Starred _ _ => false
  | _ => true
def noSet : Expr → Bool
  | .Set _ _ _ => false
  | _ => true
def noSlice : Expr → Bool
  | .Slice _ _ _ _ => false
  | _ => true
def plainO : Expr → Bool
  | .Name _ _ => true
  | .Subscript _ _ _ => true
  | _ => false
def isTup : Expr → Bool
  | .Tuple _ _ _ => true
  | _ => false
mutual
def ckG (S : Sx) : T1 → Expr → Bool
  | .nm i, .Name x _ => decide (S.N[i]? = some x) && ownB S.so x
  | .tp r, .Tuple es _ _ => ckGs S r es
  | _, _ => false
def ckGs (S : Sx) : T1 → List Expr → Bool
  | .nil, [] => true
  | .cons a r, e :: es => noStar e && ckG S a e && ckGs S r es
  | _, _ => false
end
mutual
def slots : T1 → List Nat
  | .nm i => [i]
  | .tp r => slots r
  | .nil => []
  | .cons a r => slots a ++ slots r
end
def cE (f : Expr → Bool) : Ck := { E := f, T := fun e => plainT e && f e, O := fun _ => false }
def ownN (N : List Str) (vs : List Nat) : List (Str × Nat) := vs.map fun i => (N.getD i Str.empty, i)
def tyB (sc : Scope) (t : Str) (n : String) : Bool := decide (t = Str.ofString n) && gloB sc t && ["int", "bool", "str", "list", "tuple", "dict"].contains n
def tysB (sc : Scope) : List Expr → List String → Bool
  | [], [] => true
  | .Name t _ :: ts, n :: ns => tyB sc t n && tysB sc ts ns
  | _, _ => false
def isiC (sc : Scope) : Expr → List String → Bool
  | .Name t _, [n] => tyB sc t n
  | .Tuple ts _ _, ns => tysB sc ts ns
  | _, _ => false
def compC (Γt Γe : Sx → Ck) (Γs : Ck) (S : Sx) (vs : List Nat) (tg : T1) (yes : Bool) : Expr → Bool
  | .ListComp e [⟨t, it, ifs, 0⟩] scope _ => blkC S.N S.sc scope (ownN S.N vs) && ckG (S.inn (relS scope S.sc) scope) tg t && (slots tg).all (fun i => vs.contains i) && Γs.I t it && noSet it &&
      (match ifs with
        | [] => yes
        | [c] => !yes && (Γt (S.inn (relS scope S.sc) scope)).T c
        | _ => false) && (Γe (S.inn (relS scope S.sc) scope)).E e
  | _ => false
def isNilY : Y → Bool
  | .nil => true
  | _ => false
def isYes : Y → Bool
  | .yes => true
  | _ => false
def notC (f : Expr → Bool) : Expr → Bool
  | .UnaryOp .Not x _ => f x
  | _ => false
def andC (f g : Expr → Bool) : Expr → Bool
  | .BoolOp .And (x :: y :: r) p => f x && g (.BoolOp .And (y :: r) p)
  | _ => false
def orC (f g : Expr → Bool) : Expr → Bool
  | .BoolOp .Or (x :: y :: r) p => f x && g (.BoolOp .Or (y :: r) p)
  | _ => false
def oneC (f : Expr → Bool) : Expr → Bool
  | .BoolOp _ [x] _ => f x
  | _ => false
def cmpC (op : CmpOp) (f g : Expr → Bool) : Expr → Bool
  | .Compare l [o] [r] _ => decide (op = o) && f l && g r && noSet r
  | _ => false
def chainC (o p : CmpOp) (f g h : Expr → Bool) : Expr → Bool
  | .Compare l [o1, p1] [m, r] _ => decide (o = o1) && decide (p = p1) && f l && g m && h r && noSet m && noSet r
  | _ => false
def iteC (f g h : Expr → Bool) : Expr → Bool
  | .IfExp t x y _ => f t && g x && h y
  | _ => false
def nilC : List Expr → Bool
  | [] => true
  | _ => false
def consC (f : Expr → Bool) (g : List Expr → Bool) : List Expr → Bool
  | e :: es => noStar e && f e && g es
  | _ => false
def starC (f : Expr → Bool) (g : List Expr → Bool) : List Expr → Bool
  | .Starred e _ :: es => f e && g es
  | _ => false
def nopC : Option Expr → Bool
  | none => true
  | _ => false
def smC (f : Expr → Bool) : Option Expr → Bool
  | some e => f e
  | _ => false
def rngC (sc : Scope) (f : Expr → Bool) : Expr → Bool
  | .Call (.Name n _) [x] [] _ => decide (n = "range") && gloB sc n && noStar x && f x
  | _ => false
def rng2C (sc : Scope) (f g : Expr → Bool) : Expr → Bool
  | .Call (.Name n _) [x, y] [] _ => decide (n = "range") && gloB sc n && noStar x && noStar y && f x && g y
  | _ => false
def enmC (sc : Scope) (f : Expr → Bool) (t : Expr) : Expr → Bool
  | .Call (.Name n _) [x] [] _ => isTup t && decide (n = "enumerate") && gloB sc n && noStar x && f x
  | _ => false
def zipC (sc : Scope) (f g : Expr → Bool) (t : Expr) : Expr → Bool
  | .Call (.Name n _) [x, y] [] _ => isTup t && decide (n = "zip") && gloB sc n && noStar x && noStar y && f x && g y
  | _ => false
def revC (sc : Scope) (f : Expr → Bool) : Expr → Bool
  | .Call (.Name n _) [x] [] _ => decide (n = "reversed") && gloB sc n && noStar x && f x
  | _ => false
/-- _law_is(lambda: body, due), _law_got(lambda: body) -/
def noArgs : Arguments → Bool
  | ⟨[], [], none, [], [], none, []⟩ => true
  | _ => false
def askC (S : Sx) (xs : List Str) (fb : Sx → Expr → Bool) (fd : Expr → Bool) : Expr → Bool
  | .Call (.Name f _) [.Lambda ps body scope _, e] [] _ => S.lam && decide (f = "_law_is") && gloB S.sc f && noArgs ps && LamX.lamSB S.sc scope && xs.all (fun x => decide (x ∈ S.ex)) && fb (S.inn scope scope) body && noStar e && fd e
  | _ => false
def gotEC (S : Sx) (xs : List Str) (fb : Sx → Expr → Bool) : Expr → Bool
  | .Call (.Name f _) [.Lambda ps body scope _] [] _ => S.lam && decide (f = "_law_got") && gloB S.sc f && noArgs ps && LamX.lamSB S.sc scope && xs.all (fun x => decide (x ∈ S.ex)) && fb (S.inn scope scope) body
  | _ => false
def kwC : List Str → (List Expr → Bool) → List Keyword → Bool
  | ks, f, kws => kws.all (fun k => k.arg.isSome) && decide (kws.filterMap (·.arg) = ks) && f (kws.map (·.value)) && kws.all fun k => noStar k.value
def ck (Γn : List Fk) : Y → Sx → Ck
  | .var i, S => cE (fun | .Name x _ => decide (S.N[i]? = some x) && visB S.sc x && oknB x | _ => false)
  | .int i, S => cE (fun | .Constant (.int j) _ _ => decide (i = j) | _ => false)
  | .bl b, S => cE (fun | .Constant (.bool c) _ _ => decide (b = c) | _ => false)
  | .non, S => cE (fun | .Constant .none _ _ => true | _ => false)
  | .str x, S => cE (fun | .Constant (.str y) _ _ => decide (x = y) | _ => false)
  | .gint x i, S => cE (fun | .Name y _ => decide (x = y) && decide ((x, i) ∈ S.gi) && gloB S.sc x && oknB x | _ => false)
  | .gstr x z, S => cE (fun | .Name y _ => decide (x = y) && decide ((x, z) ∈ S.gs) && gloB S.sc x && oknB x | _ => false)
  | .bin op a b, S => cE (fun | .BinOp l o r _ => decide (op = o) && (ck Γn a S).E l && (ck Γn b S).E r | _ => false)
  | .neg a, S => cE (fun | .UnaryOp .USub x _ => (ck Γn a S).E x | _ => false)
  | .not a, S => { E := notC (ck Γn a S).E, T := notC (ck Γn a S).T }
  | .and a b, S => { E := andC (ck Γn a S).E (ck Γn b S).E, T := andC (ck Γn a S).T (ck Γn b S).T }
  | .or a b, S => { E := orC (ck Γn a S).E (ck Γn b S).E, T := orC (ck Γn a S).T (ck Γn b S).T }
  | .one a, S => { E := oneC (ck Γn a S).E, T := oneC (ck Γn a S).T }
  | .cmp op a b, S => { E := cmpC op (ck Γn a S).E (ck Γn b S).E, T := cmpC op (ck Γn a S).E (ck Γn b S).E }
  | .chain o p a b c, S => { E := chainC o p (ck Γn a S).E (ck Γn b S).E (ck Γn c S).E, T := chainC o p (ck Γn a S).E (ck Γn b S).E (ck Γn c S).E }
  | .ite c a b, S => { E := iteC (ck Γn c S).T (ck Γn a S).E (ck Γn b S).E }
  | .tup es, S => cE (fun | .Tuple xs _ _ => (ck Γn es S).A xs | _ => false)
  | .tupU es, S => cE (fun | .Tuple xs _ _ => (ck Γn es S).A xs | _ => false)
  | .lst _ es, S => cE (fun | .List xs _ => (ck Γn es S).A xs | _ => false)
  | .call g es, S => cE (fun | .Call (.Name f _) (x :: xs) [] _ => decide (Γn[g]? = some (f, [])) && gloB S.sc f && oknB f && noStar x && xs.all noStar && (ck Γn es S).A (x :: xs) | .Call (.Name f _) [] [] _ => decide (Γn[g]? = some (f, [])) && gloB S.sc f && oknB f && isNilY es | _ => false)
  | .callk g es ks, S => cE (fun
    | .Call (.Name f _) [] (k :: kws) _ => decide (Γn[g]? = some (f, (k :: kws).filterMap (·.arg))) && gloB S.sc f && oknB f && isNilY es && kwC ((k :: kws).filterMap (·.arg)) (ck Γn ks S).A (k :: kws)
    | .Call (.Name f _) (x :: xs) (k :: kws) _ => decide (Γn[g]? = some (f, (k :: kws).filterMap (·.arg))) && gloB S.sc f && oknB f && noStar x && xs.all noStar && (ck Γn es S).A (x :: xs) && kwC ((k :: kws).filterMap (·.arg)) (ck Γn ks S).A (k :: kws)
    | _ => false)
  | .ask g xs b d, S => cE (fun e => (match Γn[g]? with
    | some (f, []) => decide (f = "_law_same")
    | _ => false) && askC S xs (fun S2 => (ck Γn b S2).E) (ck Γn d S).E e)
  | .got xs b, S => cE (gotEC S xs fun S2 => (ck Γn b S2).E)
  | .blt b es, S => cE (fun | .Call (.Name f _) (x :: xs) [] _ => decide (f = b.name) && gloB S.sc f && noStar x && xs.all noStar && (ck Γn es S).A (x :: xs) | _ => false)
  | .lis z, S => cE (fun | .Call (.Name f _) [x] [] _ => decide (f = "list") && gloB S.sc f && noStar x && (ck Γn z S).E x | _ => false)
  | .sml z, S => cE (fun | .Call (.Name f _) [x, .List [] _] [] _ => decide (f = "sum") && gloB S.sc f && noStar x && (ck Γn z S).E x | _ => false)
  | .isi a cs, S => cE (fun | .Call (.Name f _) [x, c] [] _ => decide (f = "isinstance") && gloB S.sc f && noStar x && noStar c && (ck Γn a S).E x && isiC S.sc c cs && decide (cs.length ≤ 20) | _ => false)
  | .ix a b, S => cE (fun | .Subscript x i _ => (ck Γn a S).E x && (ck Γn b S).E i && noSlice i | _ => false)
  | .sl a lo hi, S => cE (fun | .Subscript x (.Slice l h none _) _ => (ck Γn a S).E x && (ck Γn lo S).O l && (ck Γn hi S).O h | _ => false)
  | .rep a b, S => cE (fun | .BinOp l .Mult r _ => (ck Γn a S).E l && (ck Γn b S).E r | _ => false)
  | .comp _ vs tg src tst elt, S => cE (compC (ck Γn tst) (ck Γn elt) (ck Γn src S) S vs tg (isYes tst))
  | .compU vs tg src elt, S => cE (compC (fun _ => {}) (ck Γn elt) (ck Γn src S) S vs tg true)
  | .fzl z, S => cE (ck Γn z S).E
  | .app r z, S => cE (fun | .Call (.Attribute o m ap) [e] [] cp => (ap.endLine == cp.line) && decide (m = "append") && plainO o && noStar e && (ck Γn r S).E o && (ck Γn z S).E e | _ => false)
  | .fdq a b, S => cE (fun | .BinOp l o r _ => decide (Operator.FloorDiv = o) && (ck Γn a S).E l && (ck Γn b S).E r | _ => false)
  | .ins r i z, S => cE (fun | .Call (.Attribute o m ap) [x, e] [] cp => (ap.endLine == cp.line) && decide (m = "insert") && plainO o && noStar x && noStar e && (ck Γn r S).E o && (ck Γn i S).E x && (ck Γn z S).E e | _ => false)
  | .dic0, S => cE (fun | .Dict [] [] _ => true | _ => false)
  | .dic1 x z, S => cE (fun | .Dict [some (.Constant (.str y) _ _)] [v] _ => decide (x = y) && (ck Γn z S).E v | _ => false)
  | .lnt z, S => cE (fun | .Call (.Name f _) [x] [] _ => decide (f = "len") && gloB S.sc f && noStar x && (ck Γn z S).E x | _ => false)
  | .fz z, S => cE (ck Γn z S).E
  | .nil, _ => { A := nilC }
  | .cons a r, S => { A := consC (ck Γn a S).E (ck Γn r S).A }
  | .star a r, S => { A := starC (ck Γn a S).E (ck Γn r S).A }
  | .nop, _ => { O := nopC }
  | .sm a, S => { O := smC (ck Γn a S).E }
  | .yes, _ => {}
  | .seq z, S => { I := fun _ e => (ck Γn z S).E e }
  | .rng a, S => { I := fun _ e => rngC S.sc (ck Γn a S).E e }
  | .rng2 a b, S => { I := fun _ e => rng2C S.sc (ck Γn a S).E (ck Γn b S).E e }
  | .enm z, S => { I := fun t e => enmC S.sc (ck Γn z S).E t e }
  | .zip a b, S => { I := fun t e => zipC S.sc (ck Γn a S).E (ck Γn b S).E t e }
  | .rev z, S => { I := fun _ e => revC S.sc (ck Γn z S).E e }
end Z

set_option Elab.async false
set_option linter.all false
set_option maxRecDepth 100000
set_option maxHeartbeats 4000000
namespace Z
open PySem PySem.Spec PyProof.Rows L2

/-- a def's promise by data, as a promise of the layer -/
def lowSp (G : Gx) (P : ZSp) : Sp := fun vs H Q E => ∃ B α O us Q0 E0, Own G B α O H ∧ AtUs G.K B α O H vs us ∧ P us O Q0 E0 ∧
  (∀ u O', Q0 u O' → ∀ α' v H', Stp α O H α' O' H' → Own G B α' O' H' → AtU G.K B α' O' H' v u → Q v H') ∧ ELow G B E α O H E0
section
variable {G : Gx} {B : Addr → Prop} {α α' β : List Addr} {O O' N : List DO} {H H' : Hp} {W0 : XK} {E0 : ZX}
theorem Own.tracked (w : Own G B α O H) {a : Addr} (h : a ∈ α) : ∃ o, H a = some o := by
  cases q : H a with
  | some o => exact ⟨o, rfl⟩
  | none => exact absurd h (own_fresh w q)
theorem ow_app (hl : α.length = O.length) {b : Addr} (m : Ow (α ++ β) (O ++ N) b) : Ow α O b ∨ Ow β N b := by
  obtain ⟨k, o, e1, e2, l⟩ := m
  by_cases hk : k < α.length
  · rw [List.getElem?_append_left hk] at e1
    rw [List.getElem?_append_left (by omega)] at e2
    exact .inl ⟨k, o, e1, e2, l⟩
  · rw [List.getElem?_append_right (by omega)] at e1
    rw [List.getElem?_append_right (by omega)] at e2
    rw [hl] at e1
    exact .inr ⟨k - O.length, o, e1, e2, l⟩
theorem ow_appL {b : Addr} (m : Ow α O b) : Ow (α ++ β) (O ++ N) b := by
  obtain ⟨k, o, e1, e2, l⟩ := m
  exact ⟨k, o, by rw [List.getElem?_append_left (List.getElem?_eq_some_iff.mp e1).1]; exact e1, by rw [List.getElem?_append_left (List.getElem?_eq_some_iff.mp e2).1]; exact e2, l⟩
theorem ow_appR (hl : α.length = O.length) {b : Addr} (m : Ow β N b) : Ow (α ++ β) (O ++ N) b := by
  obtain ⟨k, o, e1, e2, l⟩ := m
  refine ⟨O.length + k, o, ?_, ?_, l⟩
  · rw [List.getElem?_append_right (by omega), hl]
    rw [show O.length + k - O.length = k by omega]
    exact e1
  · rw [List.getElem?_append_right (by omega)]
    rw [show O.length + k - O.length = k by omega]
    exact e2
mutual
theorem AtU.sh {B2 : Addr → Prop} {α2 : List Addr} {O2 : List DO} {f : Nat → Nat} (hm : ∀ a, Mu B2 α2 O2 a → Mu B α O a) (hi : ∀ k a, α[k]? = some a → α2[f k]? = some a) : ∀ {u : U} {v : V}, AtU G.K B α O H v u → AtU G.K B2 α2 O2 H v (shU f u)
  | .d x, _, .d a => by rw [shU]; exact .d (a.less hm)
  | .o k, _, .o e => by rw [shU]; exact .o (hi _ _ e)
  | .t us, _, .t e m r => by rw [shU]; exact .t e (fun z => m (hm _ z)) (AtUs.sh hm hi r)
  | .l us, _, .l e m r => by rw [shU]; exact .l e (fun z => m (hm _ z)) (AtUs.sh hm hi r)
theorem AtUs.sh {B2 : Addr → Prop} {α2 : List Addr} {O2 : List DO} {f : Nat → Nat} (hm : ∀ a, Mu B2 α2 O2 a → Mu B α O a) (hi : ∀ k a, α[k]? = some a → α2[f k]? = some a) : ∀ {us : List U} {vs : List V}, AtUs G.K B α O H vs us → AtUs G.K B2 α2 O2 H vs (shUs f us)
  | [], _, .nil => by rw [shUs]; exact .nil
  | _ :: _, _, .cons a r => by rw [shUs]; exact .cons (AtU.sh hm hi a) (AtUs.sh hm hi r)
end

/-- what is lent: places of ours, in some order -/
structure Lent (α : List Addr) (O : List DO) (ks : List Nat) (L : List DO) : Prop where
  len : ks.length = L.length
  ok : ∀ (j k : Nat), ks[j]? = some k → ∃ o o', O[k]? = some o ∧ L[j]? = some o' ∧ live o = true ∧ live o' = true ∧ (hot o' = true → hot o = true) ∧ (o' = o ∨ ∃ ds, o = .lst ds ∧ o' = .brw ds)
theorem lendU_ok (w : Own G B α O H) : ∀ {us r : List U} {vs : List V} {ks : List Nat} {L : List DO} {f : Bool} {j0 : Nat}, lendU O f us j0 = some (r, ks, L) → AtUs G.K B α O H vs us → Lent α O ks L ∧
    ∀ (B2 : Addr → Prop) (α2 : List Addr) (O2 : List DO), (∀ a, Mu B2 α2 O2 a → Mu B α O a) → (∀ (i k : Nat) a, ks[i]? = some k → α[k]? = some a → α2[j0 + i]? = some a) → AtUs G.K B2 α2 O2 H vs r
  | [], r, [], ks, L, f, j0, e, a => by
    rw [lendU] at e
    cases e
    exact ⟨⟨rfl, fun j k e => by simp at e⟩, fun _ _ _ _ _ => .nil⟩
  | u :: us, r, _ :: vs, ks, L, f, j0, e, .cons au ar => by
    have cons1 : ∀ {k : Nat} {o o' : DO} {r' : List U} {ks' : List Nat} {L' : List DO} {vs' : List V} {p : Addr}, O[k]? = some o → live o = true → live o' = true → (hot o' = true → hot o = true) → (o' = o ∨ ∃ ds, o = .lst ds ∧ o' = .brw ds) → α[k]? = some p →
        (Lent α O ks' L' ∧ ∀ (B2 : Addr → Prop) (α2 : List Addr) (O2 : List DO), (∀ a, Mu B2 α2 O2 a → Mu B α O a) → (∀ (i k : Nat) a, ks'[i]? = some k → α[k]? = some a → α2[(j0 + 1) + i]? = some a) → AtUs G.K B2 α2 O2 H vs' r') →
        Lent α O (k :: ks') (o' :: L') ∧ ∀ (B2 : Addr → Prop) (α2 : List Addr) (O2 : List DO), (∀ a, Mu B2 α2 O2 a → Mu B α O a) → (∀ (i k' : Nat) a, (k :: ks')[i]? = some k' → α[k']? = some a → α2[j0 + i]? = some a) → AtUs G.K B2 α2 O2 H (.ref p :: vs') (.o j0 :: r') := by
      intro k o o' r' ks' L' vs' p h1 h2 h3 h4 h5 h6 ⟨ih1, ih2⟩
      refine ⟨⟨by rw [List.length_cons, List.length_cons, ih1.len], fun j k' e => ?_⟩, fun B2 α2 O2 hm hi => .cons (.o (hi 0 k p rfl h6)) (ih2 B2 α2 O2 hm fun i k' a e1 e2 => ?_)⟩
      · cases j with
        | zero =>
          cases e
          exact ⟨o, o', h1, rfl, h2, h3, h4, h5⟩
        | succ j =>
          obtain ⟨o1, o2, g⟩ := ih1.ok j k' (by simpa using e)
          exact ⟨o1, o2, g.1, by simpa using g.2.1, g.2.2⟩
      · have := hi (i + 1) k' a (by simpa using e1) e2
        rw [← this]
        congr 1
        omega
    have cons0 : ∀ {d : D} {r' : List U} {ks' : List Nat} {L' : List DO} {v : V} {vs' : List V}, At G.K (Mu B α O) H v d →
        (Lent α O ks' L' ∧ ∀ (B2 : Addr → Prop) (α2 : List Addr) (O2 : List DO), (∀ a, Mu B2 α2 O2 a → Mu B α O a) → (∀ (i k : Nat) a, ks'[i]? = some k → α[k]? = some a → α2[j0 + i]? = some a) → AtUs G.K B2 α2 O2 H vs' r') →
        Lent α O ks' L' ∧ ∀ (B2 : Addr → Prop) (α2 : List Addr) (O2 : List DO), (∀ a, Mu B2 α2 O2 a → Mu B α O a) → (∀ (i k' : Nat) a, ks'[i]? = some k' → α[k']? = some a → α2[j0 + i]? = some a) → AtUs G.K B2 α2 O2 H (v :: vs') (.d d :: r') := by
      intro d r' ks' L' v vs' ha ⟨ih1, ih2⟩
      exact ⟨ih1, fun B2 α2 O2 hm hi => .cons (.d (ha.less hm)) (ih2 B2 α2 O2 hm hi)⟩
    have dat : (match toD O u with
      | some d => (match lendU O false us j0 with
        | some (r, ks, L) => some (.d d :: r, ks, L)
        | none => none)
      | none => none) = some (r, ks, L) → Lent α O ks L ∧ ∀ (B2 : Addr → Prop) (α2 : List Addr) (O2 : List DO), (∀ a, Mu B2 α2 O2 a → Mu B α O a) → (∀ (i k : Nat) a, ks[i]? = some k → α[k]? = some a → α2[j0 + i]? = some a) → AtUs G.K B2 α2 O2 H _ r := fun e => by
      cases q : toD O u with
      | none => rw [q] at e; cases e
      | some d =>
        rw [q] at e
        cases q2 : lendU O false us j0 with
        | none => rw [q2] at e; cases e
        | some p =>
          rw [q2] at e
          obtain ⟨r', ks', L'⟩ := p
          cases e
          exact cons0 (At.of w au q) (lendU_ok w q2 ar)
    cases u with
    | d x => exact dat e
    | t x => exact dat e
    | l x => exact dat e
    | o k =>
      rw [lendU] at e
      cases au with
      | @o _ p ep =>
      rw [go_eq] at e
      cases q : O[k]? with
      | none => rw [q] at e; cases e
      | some o =>
        rw [q] at e
        cases o with
        | lst ds =>
          cases q2 : lendU O false us (j0 + 1) with
          | none => simp only [q2] at e; cases e
          | some t =>
            obtain ⟨r', ks', L'⟩ := t
            simp only [q2] at e
            cases e
            refine cons1 q rfl ?_ (fun _ => rfl) ?_ ep (lendU_ok w q2 ar)
            · cases f <;> rfl
            · cases f
              · exact .inr ⟨ds, rfl, rfl⟩
              · exact .inl rfl
        | brw ds =>
          cases q2 : lendU O false us (j0 + 1) with
          | none => simp only [q2] at e; cases e
          | some t =>
            obtain ⟨r', ks', L'⟩ := t
            simp only [q2] at e
            cases e
            exact cons1 q rfl rfl id (.inl rfl) ep (lendU_ok w q2 ar)
        | frz ds =>
          cases q2 : lendU O false us j0 with
          | none => simp only [q2] at e; cases e
          | some t =>
            obtain ⟨r', ks', L'⟩ := t
            simp only [q2] at e
            cases e
            have h := w.at_ k p _ ep q
            exact cons0 h (lendU_ok w q2 ar)
/-- what comes back -/
theorem mrg_ok : ∀ {ks : List Nat} {L A O O2 : List DO}, mrg ks L A O = some O2 → ks.Nodup → (∀ k ∈ ks, k < O.length) →
    ∃ A0 rest M, A = A0 ++ rest ∧ A0.length = ks.length ∧ O2 = M ++ rest ∧ M.length = O.length ∧ (∀ i, i ∉ ks → M[i]? = O[i]?) ∧
      ∀ (j k : Nat), ks[j]? = some k → M[k]? = A0[j]? ∨ (M[k]? = O[k]? ∧ ∃ ds ds', L[j]? = some (.brw ds) ∧ A0[j]? = some (.brw ds'))
  | [], [], A, O, O2, e, _, _ => by
    rw [mrg] at e
    cases e
    exact ⟨[], A, O, rfl, rfl, rfl, rfl, fun _ _ => rfl, fun j k e => by simp at e⟩
  | [], _ :: _, A, O, O2, e, _, _ => by simp [mrg] at e
  | k :: ks, [], A, O, O2, e, _, _ => by simp [mrg] at e
  | k :: ks, .frz _ :: L, A, O, O2, e, _, _ => by simp [mrg] at e
  | k :: ks, .lst _ :: L, [], O, O2, e, _, _ => by simp [mrg] at e
  | k :: ks, .brw _ :: L, [], O, O2, e, _, _ => by simp [mrg] at e
  | k :: ks, .brw _ :: L, .lst _ :: A, O, O2, e, _, _ => by simp [mrg] at e
  | k :: ks, .brw _ :: L, .frz _ :: A, O, O2, e, _, _ => by simp [mrg] at e
  | k :: ks, .lst d0 :: L, a :: A, O, O2, e, nd, hk => by
    rw [mrg, so_eq] at e
    have nd' := List.nodup_cons.mp nd
    obtain ⟨A0, rest, M, h1, h2, h3, h4, h5, h6⟩ := mrg_ok e nd'.2 (fun k' hk' => by rw [List.length_set]; exact hk k' (List.mem_cons_of_mem _ hk'))
    refine ⟨a :: A0, rest, M, by rw [h1]; rfl, by rw [List.length_cons, h2]; rfl, h3, by rw [h4, List.length_set], fun i hi => ?_, fun j k' ej => ?_⟩
    · rw [h5 i (fun z => hi (List.mem_cons_of_mem _ z)), List.getElem?_set_ne (fun z => hi (by rw [z]; exact List.mem_cons_self))]
    · cases j with
      | zero =>
        have ej : k = k' := by simpa using ej
        subst ej
        left
        rw [h5 k nd'.1, List.getElem?_set_self (hk k List.mem_cons_self)]
        rfl
      | succ j =>
        have ej : ks[j]? = some k' := by simpa using ej
        have hne : k ≠ k' := fun z => nd'.1 (by rw [z]; exact List.mem_of_getElem? ej)
        rcases h6 j k' ej with g | ⟨g, ds, ds', g2, g3⟩
        · exact .inl (by rw [g]; simp)
        · exact .inr ⟨by rw [g, List.getElem?_set_ne hne], ds, ds', by simpa using g2, by simpa using g3⟩
  | k :: ks, .brw d0 :: L, .brw d1 :: A, O, O2, e, nd, hk => by
    rw [mrg] at e
    have nd' := List.nodup_cons.mp nd
    obtain ⟨A0, rest, M, h1, h2, h3, h4, h5, h6⟩ := mrg_ok e nd'.2 (fun k' hk' => hk k' (List.mem_cons_of_mem _ hk'))
    refine ⟨.brw d1 :: A0, rest, M, by rw [h1]; rfl, by rw [List.length_cons, h2]; rfl, h3, h4, fun i hi => h5 i (fun z => hi (List.mem_cons_of_mem _ z)), fun j k' ej => ?_⟩
    cases j with
    | zero =>
      have ej : k = k' := by simpa using ej
      subst ej
      exact .inr ⟨h5 k nd'.1, d0, d1, rfl, rfl⟩
    | succ j =>
      have ej : ks[j]? = some k' := by simpa using ej
      rcases h6 j k' ej with g | ⟨g, ds, ds', g2, g3⟩
      · exact .inl (by rw [g]; simp)
      · exact .inr ⟨g, ds, ds', by simpa using g2, by simpa using g3⟩
theorem ren_lt : ∀ {ks : List Nat} {n j k : Nat}, ks[j]? = some k → ren ks n j = k
  | [], _, _, _, h => by simp at h
  | _ :: _, _, 0, _, h => by simpa [ren] using h
  | _ :: ks, n, j + 1, k, h => by
    rw [ren]
    exact ren_lt (by simpa using h)
theorem ren_ge : ∀ {ks : List Nat} {n j : Nat}, ks.length ≤ j → ren ks n j = n + (j - ks.length)
  | [], _, _, _ => rfl
  | _ :: _, _, 0, h => by simp at h
  | _ :: ks, n, j + 1, h => by
    rw [ren, ren_ge (by simpa using h), List.length_cons]
    congr 1
    omega
/-- our places, those that are lent -/
def pick (α : List Addr) (ks : List Nat) : List Addr := ks.map fun k => α.getD k 0
theorem pick_at {α : List Addr} {ks : List Nat} {j k : Nat} {a : Addr} (h : ks[j]? = some k) (e : α[k]? = some a) : (pick α ks)[j]? = some a := by
  unfold pick
  rw [List.getElem?_map, h]
  show some (α.getD k 0) = some a
  rw [List.getD_eq_getElem?_getD, e]
  rfl
theorem call_key {ks : List Nat} {L : List DO} (w : Own G B α O H) (nd : ks.Nodup) (l : Lent α O ks L) : ∃ B' : Addr → Prop, Own G B' (pick α ks) L H ∧ (∀ b, Mu B' (pick α ks) L b → Mu B α O b) ∧
    ∀ {γ : List Addr} {N O2 : List DO} {H' : Hp}, mrg ks L N O = some O2 → Stp (pick α ks) L H γ N H' → Own G B' γ N H' → ∃ α2, Stp α O H α2 O2 H' ∧ Own G B α2 O2 H' ∧ (∀ b, Mu B α2 O2 b → Mu B' γ N b) ∧ (∀ (j : Nat) a, γ[j]? = some a → α2[ren ks O.length j]? = some a) := by
  have hk : ∀ (j k : Nat), ks[j]? = some k → ∃ a, α[k]? = some a ∧ (pick α ks)[j]? = some a := fun j k e => by
    obtain ⟨o, o', h1, _⟩ := l.ok j k e
    have hlt : k < α.length := by rw [w.len]; exact (List.getElem?_eq_some_iff.mp h1).1
    exact ⟨α[k], List.getElem?_eq_getElem hlt, pick_at e (List.getElem?_eq_getElem hlt)⟩
  have hpl : (pick α ks).length = ks.length := by unfold pick; rw [List.length_map]
  have hpk : ∀ (j : Nat) a, (pick α ks)[j]? = some a → ∃ k, ks[j]? = some k ∧ α[k]? = some a := fun j a e => by
    have hlt := (List.getElem?_eq_some_iff.mp e).1
    rw [hpl] at hlt
    have e1 : ks[j]? = some ks[j] := List.getElem?_eq_getElem hlt
    obtain ⟨b, h1, h2⟩ := hk j _ e1
    rw [e] at h2
    cases h2
    exact ⟨_, e1, h1⟩
  have hmem : ∀ a, a ∈ pick α ks → ∃ j k, ks[j]? = some k ∧ α[k]? = some a := fun a m => by
    obtain ⟨j, hj, e⟩ := List.mem_iff_getElem.mp m
    obtain ⟨k, h1, h2⟩ := hpk j a (by rw [List.getElem?_eq_getElem hj, e])
    exact ⟨j, k, h1, h2⟩
  have owp : ∀ a, a ∈ pick α ks → Ow α O a := fun a m => by
    obtain ⟨j, k, h1, h2⟩ := hmem a m
    obtain ⟨o, o', g1, _, g3, _⟩ := l.ok j k h1
    exact ⟨k, o, h2, g1, g3⟩
  have owL : ∀ a, a ∈ pick α ks → Ow (pick α ks) L a := fun a m => by
    obtain ⟨j, k, h1, h2⟩ := hmem a m
    obtain ⟨o, o', g1, g2, g3, g4, _⟩ := l.ok j k h1
    exact ⟨j, o', pick_at h1 h2, g2, g4⟩
  have owm : ∀ a, Ow (pick α ks) L a → a ∈ pick α ks := fun a ⟨j, o, e1, _⟩ => List.mem_of_getElem? e1
  have hoL : ∀ a, Ho (pick α ks) L a → Ho α O a := fun a ⟨j, o', e1, e2, h⟩ => by
    obtain ⟨k, h1, h2⟩ := hpk j a e1
    obtain ⟨o, o2, g1, g2, _, _, g5, _⟩ := l.ok j k h1
    rw [e2] at g2
    cases g2
    exact ⟨k, o, h2, g1, g5 h⟩
  obtain ⟨B', hB⟩ : ∃ B' : Addr → Prop, B' = fun b => Mu B α O b ∧ b ∉ pick α ks := ⟨_, rfl⟩
  have hm : ∀ b, Mu B' (pick α ks) L b → Mu B α O b := fun b m => by
    rw [hB] at m
    rcases m with m | m
    · exact m.1
    · exact .inr (owp b (owm b m))
  have ndp : (pick α ks).Nodup := by
    refine List.pairwise_iff_getElem.mpr fun i j hi hj hij e => ?_
    obtain ⟨k1, h1, h2⟩ := hpk i _ (List.getElem?_eq_getElem hi)
    obtain ⟨k2, h3, h4⟩ := hpk j _ (List.getElem?_eq_getElem hj)
    rw [← e] at h4
    have := nodup_at w.nd h2 h4
    subst this
    obtain ⟨a1, b1⟩ := List.getElem?_eq_some_iff.mp h1
    obtain ⟨a2, b2⟩ := List.getElem?_eq_some_iff.mp h3
    have := (List.getElem_inj nd).mp (b1.trans b2.symm)
    omega
  have W1 : Own G B' (pick α ks) L H := by
    refine ⟨by rw [hpl, l.len], ndp, fun j a o' e1 e2 => ?_, fun b m => ?_, fun b m z => ?_, w.tabs⟩
    · obtain ⟨k, h1, h2⟩ := hpk j a e1
      obtain ⟨o, o2, g1, g2, _, _, _, g6⟩ := l.ok j k h1
      rw [e2] at g2
      cases g2
      have h := (w.at_ k a o h2 g1).less hm
      rcases g6 with rfl | ⟨ds, rfl, rfl⟩
      · exact h
      · exact h
    · rw [hB] at m
      rcases m.1 with m | m
      · exact w.bt b m
      · exact m.some w
    · rw [hB] at z
      exact z.2 (owm b m)
  refine ⟨B', W1, hm, fun {γ N O2 H'} e s w' => ?_⟩
  obtain ⟨A0, rest, M, rfl, hA, rfl, hM, hMi, hMk⟩ := mrg_ok e nd fun k hk' => by
    obtain ⟨j, hj, ej⟩ := List.mem_iff_getElem.mp hk'
    obtain ⟨o, _, h1, _⟩ := l.ok j k (by rw [List.getElem?_eq_getElem hj, ej])
    exact (List.getElem?_eq_some_iff.mp h1).1
  obtain ⟨more, rfl⟩ := s.pre
  have hAp : A0.length = (pick α ks).length := by rw [hA, hpl]
  have hlm : more.length = rest.length := by
    have := w'.len
    rw [List.length_append, List.length_append] at this
    omega
  have hMα : α.length = M.length := by rw [hM]; exact w.len
  have nf : ∀ b, b ∈ more → H b = none := fun b hb => by
    rcases s.fresh b (List.mem_append_right _ hb) with z | z
    · have := (List.nodup_append.mp w'.nd).2.2 b z b hb
      exact absurd rfl this
    · exact z
  -- places of the new state
  have here : ∀ (i : Nat) (a : Addr) (o : DO), (α ++ more)[i]? = some a → (M ++ rest)[i]? = some o →
      (i ∉ ks ∧ α[i]? = some a ∧ O[i]? = some o ∧ a ∉ pick α ks) ∨
      (∃ j : Nat, ks[j]? = some i ∧ α[i]? = some a ∧ (pick α ks ++ more)[j]? = some a ∧ (A0 ++ rest)[j]? = some o) ∨
      (∃ j : Nat, ks[j]? = some i ∧ α[i]? = some a ∧ O[i]? = some o ∧ ∃ ds ds', L[j]? = some (DO.brw ds) ∧ (pick α ks ++ more)[j]? = some a ∧ (A0 ++ rest)[j]? = some (DO.brw ds')) ∨
      (∃ j : Nat, (pick α ks ++ more)[j]? = some a ∧ (A0 ++ rest)[j]? = some o ∧ a ∈ more) := by
    intro i a o e1 e2
    by_cases hi : i < α.length
    · rw [List.getElem?_append_left hi] at e1
      rw [List.getElem?_append_left (by rw [← hMα]; exact hi)] at e2
      by_cases hk' : i ∈ ks
      · obtain ⟨j, hj, ej⟩ := List.mem_iff_getElem.mp hk'
        have ej : ks[j]? = some i := by rw [List.getElem?_eq_getElem hj, ej]
        have hjp : j < (pick α ks).length := by rw [hpl]; exact hj
        have p1 : (pick α ks ++ more)[j]? = some a := by rw [List.getElem?_append_left hjp]; exact pick_at ej e1
        rcases hMk j i ej with g | ⟨g, ds, ds', g2, g3⟩
        · refine .inr (.inl ⟨j, ej, e1, p1, ?_⟩)
          rw [List.getElem?_append_left (by rw [hAp]; exact hjp), ← g]
          exact e2
        · refine .inr (.inr (.inl ⟨j, ej, e1, by rw [← g]; exact e2, ds, ds', g2, p1, ?_⟩))
          rw [List.getElem?_append_left (by rw [hAp]; exact hjp)]
          exact g3
      · refine .inl ⟨hk', e1, by rw [← hMi i hk']; exact e2, fun m => ?_⟩
        obtain ⟨j, k, h1, h2⟩ := hmem a m
        exact hk' (by rw [nodup_at w.nd e1 h2]; exact List.mem_of_getElem? h1)
    · rw [List.getElem?_append_right (by omega)] at e1
      rw [List.getElem?_append_right (by omega), ← hMα] at e2
      refine .inr (.inr (.inr ⟨(pick α ks).length + (i - α.length), ?_, ?_, List.mem_of_getElem? e1⟩))
      · rw [List.getElem?_append_right (by omega), show (pick α ks).length + (i - α.length) - (pick α ks).length = i - α.length by omega]; exact e1
      · rw [List.getElem?_append_right (by omega), show (pick α ks).length + (i - α.length) - A0.length = i - α.length by omega]; exact e2
  have nL : ∀ b, ¬ Ho α O b → ¬ Ho (pick α ks) L b := fun b m z => m (hoL b z)
  have S : Stp α O H (α ++ more) (M ++ rest) H' := by
    refine ⟨⟨more, rfl⟩, fun b o e m n => s.keep b o e (nL b m) n, s.there, fun b ⟨i, o, e1, e2, lo⟩ => ?_, fun b ⟨i, o, e1, e2, lo⟩ => ?_, fun b m => ?_⟩
    · rcases here i b o e1 e2 with ⟨_, g1, g2, _⟩ | ⟨j, _, g1, g2, g3⟩ | ⟨j, _, g1, g2, _⟩ | ⟨j, g1, g2, g3⟩
      · exact .inl ⟨i, o, g1, g2, lo⟩
      · rcases s.new b ⟨j, o, g2, g3, lo⟩ with z | z
        · exact .inl (owp b (owm b z))
        · exact .inr z
      · exact .inl ⟨i, o, g1, g2, lo⟩
      · exact .inr (nf b g3)
    · rcases here i b o e1 e2 with ⟨_, g1, g2, _⟩ | ⟨j, _, g1, g2, g3⟩ | ⟨j, _, g1, g2, _⟩ | ⟨j, g1, g2, g3⟩
      · exact .inl ⟨i, o, g1, g2, lo⟩
      · rcases s.hnew b ⟨j, o, g2, g3, lo⟩ with z | z
        · exact .inl (hoL b z)
        · exact .inr z
      · exact .inl ⟨i, o, g1, g2, lo⟩
      · exact .inr (nf b g3)
    · rcases List.mem_append.mp m with m | m
      · exact .inl m
      · exact .inr (nf b m)
  have hm2 : ∀ b, Mu B (α ++ more) (M ++ rest) b → Mu B' (pick α ks ++ more) (A0 ++ rest) b := fun b m => by
    rcases m with m | ⟨i, o, e1, e2, lo⟩
    · exact .inl (by rw [hB]; exact ⟨.inl m, fun z => w.nb b (owp b z) m⟩)
    · rcases here i b o e1 e2 with ⟨_, g1, g2, g3⟩ | ⟨j, _, g1, g2, g3⟩ | ⟨j, _, g1, g2, ds, ds', _, g4, g5⟩ | ⟨j, g1, g2, g3⟩
      · exact .inl (by rw [hB]; exact ⟨.inr ⟨i, o, g1, g2, lo⟩, g3⟩)
      · exact .inr ⟨j, o, g2, g3, lo⟩
      · exact .inr ⟨j, _, g4, g5, rfl⟩
      · exact .inr ⟨j, o, g1, g2, lo⟩
  have same : ∀ (i : Nat) (a : Addr) (o : DO), α[i]? = some a → O[i]? = some o → live o = true → ¬ Ho (pick α ks) L a → H' a = H a := fun i a o e1 e2 lo nh => by
    obtain ⟨q, e⟩ := Ow.some w ⟨i, o, e1, e2, lo⟩
    rw [e]
    refine s.keep a q e nh fun ps z => ?_
    have h := w.at_ i a o e1 e2
    cases o with
    | lst ds =>
      obtain ⟨vs, h, _⟩ := h
      rw [e, z] at h; cases h
    | brw ds =>
      obtain ⟨vs, h, _⟩ := h
      rw [e, z] at h; cases h
    | frz ds => cases lo
  have W2 : Own G B (α ++ more) (M ++ rest) H' := by
    refine ⟨by rw [List.length_append, List.length_append, hMα, hlm], ?_, fun i a o e1 e2 => ?_, fun b m => ?_, fun b ⟨i, o, e1, e2, lo⟩ => ?_, w'.tabs⟩
    · rw [List.nodup_append]
      refine ⟨w.nd, (List.nodup_append.mp w'.nd).2.1, fun x hx y hy z => ?_⟩
      obtain ⟨o, q⟩ := w.tracked hx
      rw [z, nf y hy] at q; cases q
    · rcases here i a o e1 e2 with ⟨_, g1, g2, g3⟩ | ⟨j, _, g1, g2, g3⟩ | ⟨j, hj, g1, g2, ds, ds', gL, g4, g5⟩ | ⟨j, g1, g2, g3⟩
      · exact (w.at_ i a o g1 g2).stp S fun lo => same i a o g1 g2 lo fun z => g3 (owm a z.ow)
      · exact (w'.at_ j a o g2 g3).less hm2
      · refine (w.at_ i a o g1 g2).stp S fun lo => same i a o g1 g2 lo fun ⟨j', o', z1, z2, z3⟩ => ?_
        have : (pick α ks)[j]? = some a := pick_at hj g1
        have := nodup_at ndp z1 this
        subst this
        rw [gL] at z2
        cases z2
        cases z3
      · exact (w'.at_ j a o g1 g2).less hm2
    · obtain ⟨o, e⟩ := w.bt b m
      cases q : H' b with
      | some o => exact ⟨o, rfl⟩
      | none => rw [s.there b q] at e; cases e
    · rcases here i b o e1 e2 with ⟨_, g1, g2, g3⟩ | ⟨j, _, g1, g2, g3⟩ | ⟨j, _, g1, g2, _⟩ | ⟨j, g1, g2, g3⟩
      · exact w.nb b ⟨i, o, g1, g2, lo⟩
      · obtain ⟨o1, _, k1, _, k3, _⟩ := l.ok j i (by assumption)
        exact w.nb b ⟨i, o1, g1, k1, k3⟩
      · exact w.nb b ⟨i, o, g1, g2, lo⟩
      · intro z
        obtain ⟨q, e⟩ := w.bt b z
        rw [nf b g3] at e; cases e
  refine ⟨α ++ more, S, W2, hm2, fun j a e => ?_⟩
  by_cases hj : j < (pick α ks).length
  · rw [List.getElem?_append_left hj] at e
    obtain ⟨k, h1, h2⟩ := hpk j a e
    rw [ren_lt h1, List.getElem?_append_left (List.getElem?_eq_some_iff.mp h2).1]
    exact h2
  · rw [List.getElem?_append_right (by omega)] at e
    rw [ren_ge (by omega), ← w.len, List.getElem?_append_right (by omega), show α.length + (j - ks.length) - α.length = j - ks.length by omega, ← hpl]
    exact e
/-- a call by data is a call -/
theorem call_low {P : ZSp} {us : List U} {vs : List V} {Q0 : U → List DO → Prop} {Q : VK} (w : Own G B α O H) (a : AtUs G.K B α O H vs us) (h : callZ P us O Q0 E0)
    (hq : ∀ u O', Q0 u O' → ∀ α' v H', Stp α O H α' O' H' → Own G B α' O' H' → AtU G.K B α' O' H' v u → Q v H') (he : ELow G B W0 α O H E0) : lowSp G P vs H Q W0 := by
  obtain ⟨r, ks, L, e, nd, h⟩ := h
  obtain ⟨l, hr⟩ := lendU_ok w e a
  obtain ⟨B', W1, hm, key⟩ := call_key w nd l
  refine ⟨B', pick α ks, L, r, _, _, W1, hr B' _ L hm fun i k a e1 e2 => by rw [Nat.zero_add]; exact pick_at e1 e2, h, fun u N q γ v H' s w' a' => ?_, fun x N q γ cls dd H' s w' a' => ?_⟩
  · obtain ⟨O2, e2, q⟩ := q
    obtain ⟨α2, S, W2, hm2, hi⟩ := key e2 s w'
    exact hq _ _ q _ _ _ S W2 (a'.sh hm2 hi)
  · obtain ⟨O2, e2, q⟩ := q
    obtain ⟨α2, S, W2, hm2, hi⟩ := key e2 s w'
    have S3 := stp_take S w
    have W3 := own_take W2 α.length
    rw [S3.2] at W3
    have S3 := S3.1
    rw [w.len] at S3 W3
    refine he x _ q α cls dd H' S3 W3 ?_
    obtain ⟨h1, dx, fs, h2, h3, h4, h5, h6⟩ := a'
    have hm3 : ∀ b, Mu B α (O2.take O.length) b → Mu B' γ N b := fun b m => hm2 b (by
      rcases m with m | ⟨j, o, e1, e2, lo⟩
      · exact .inl m
      · obtain ⟨mm, e⟩ := S.pre
        refine .inr ⟨j, o, ?_, take_some e2, lo⟩
        rw [e, List.getElem?_append_left (List.getElem?_eq_some_iff.mp e1).1]; exact e1)
    exact ⟨h1, dx, fs, h2, h3, fun m => h4 (hm3 _ m), h5, h6.less hm3⟩
end
end Z

set_option Elab.async false
set_option linter.all false
set_option maxRecDepth 100000
set_option maxHeartbeats 4000000
namespace Z
open PySem PySem.Spec PyProof.Rows L2

/-- a promise by the values in the order in which they are written, ks the names of the keywords behind -/
def FnRK (P : Program) (w : World) (K : PySem.W.Frag) (mg : Str → Option Value) (base : Heap) (k : Nat) (f : Addr) (ks : List Str) (sp : Sp) : Prop :=
  ∀ (A : Around) (outer : List Env) (s : Shared) (H : Hp) (us ws : List Value) (vs zs : List V) (Q : VK) (E : XK), Room k A → Env0 P w K mg base A outer s H → Vals vs us → Vals zs ws → ws.length = ks.length → sp (vs ++ zs) H Q E →
    codeAny (model P w) A (.call (.ref f) ⟨us, ks.zip ws⟩) (CR (L2.CX P w) outer P w H s Q E) s
theorem FnRK.mono {P : Program} {w : World} {K : PySem.W.Frag} {mg : Str → Option Value} {base : Heap} {j k : Nat} {f : Addr} {ks : List Str} {sp : Sp} (h : FnRK P w K mg base j f ks sp) (l : j ≤ k) : FnRK P w K mg base k f ks sp :=
  fun A outer s H us ws vs zs Q E hr => h A outer s H us ws vs zs Q E (hr.mono l)
theorem FnRK.imp {P : Program} {w : World} {K : PySem.W.Frag} {mg : Str → Option Value} {base : Heap} {k : Nat} {f : Addr} {ks : List Str} {sp sp' : Sp} (h : FnRK P w K mg base k f ks sp) (l : ∀ vs H Q E, sp' vs H Q E → sp vs H Q E) : FnRK P w K mg base k f ks sp' :=
  fun A outer s H us ws vs zs Q E hr e0 r1 r2 hl q => h A outer s H us ws vs zs Q E hr e0 r1 r2 hl (l _ _ _ _ q)
theorem FnRK.of {P : Program} {w : World} {K : PySem.W.Frag} {mg : Str → Option Value} {base : Heap} {k : Nat} {f : Addr} {fd : FuncData} {ps : List Str} {sp : Sp} {ds : List Value} {dvs : List V} (F : FnOk P w K mg base (L2.CX P w) k f fd ps sp) (hb : Binds K fd ps ds) (hd : Vals dvs ds) :
    FnRK P w K mg base k f [] (fun vs H Q E => sp (vs ++ dvs) H Q E) := by
  intro A outer s H us ws vs zs Q E hr e0 r1 r2 hl q
  cases ws with
  | cons _ _ => cases hl
  | nil =>
    cases r2
    rw [List.append_nil] at q
    exact F.raw hb hd A outer s H us vs Q E hr e0 r1 q
/-- the def x keeps the promise P -/
def FnK (X : Cx) (G : Gx) (k : Nat) (x : Fk) (P : ZSp) : Prop := ∃ f, X.mg x.1 = some (.ref f) ∧ PySem.W.keepIn X.K (.ref f) = true ∧ FnRK X.prog X.w X.K X.mg X.base k f x.2 (lowSp G P)
def bnames : List Str := ["len", "abs", "int", "list", "tuple", "sum", "all", "any", "min", "max", "isinstance", "range", "enumerate", "zip", "reversed", "bool", "str", "dict", "sorted"]
/-! ### errors that are made -/
def initFs (ws : List V) : List (Str × XSrc) → Option (List (Str × V))
  | [] => some []
  | (f, .arg i) :: r => (match ws[i]?, initFs ws r with
    | some v, some fs => some ((f, v) :: fs)
    | _, _ => none)
  | (f, .str z) :: r => (match initFs ws r with
    | some fs => some ((f, .str z) :: fs)
    | none => none)
structure InitH (H : Hp) (a dx C : Addr) (fs : List (Str × V)) (H' : Hp) : Prop where
  ea : H' a = some (exo a C (some dx))
  ed : H' dx = some (exd dx fs)
  all : ∀ b, b ≠ a → b ≠ dx → H' b = H b
/-- what __init__ of such a class does -/
def initSp (C : Addr) (e : XcD) : Sp := fun vs H Q _ => ∃ a ws fs, vs = .ref a :: ws ∧ ws.length = e.n ∧ initFs ws e.fl = some fs ∧ H a = some (exo a C none) ∧ ∀ dx H', H dx = none → InitH H a dx C fs.reverse H' → Q .non H'
structure XcF (P : Program) (w : World) (K : PySem.W.Frag) (mg : Str → Option Value) (base : Heap) (e : XcD) : Prop where
  T : OexC K (He.ga K e.nm)
  hm : mg e.nm = some (.ref (He.ga K e.nm))
  ini : ∃ fI fd ps, PySem.W.findIn K (.ref (He.ga K e.nm)) "__init__" = some (some (.ref fI)) ∧ PySem.W.typeIn K (.ref fI) = some (.type "function") ∧ FnOk P w K mg base (L2.CX P w) 1 fI fd ps (initSp (He.ga K e.nm) e) ∧ Binds K fd ps []
  n : e.n ≤ 1000
/-- the lambdas of a def: its code object, the code's table -/
def LamF (X : Cx) (G : Gx) : Prop := ∃ c P, LamX.TabB X.base X.mg c P ∧ X.env.code = .ref c ∧ (P, X.env.qual ++ "<lambda>") ∈ G.T ∧ ∀ p ∈ G.T, p.1 = P → p.2 = X.env.qual ++ "<lambda>"
structure Good (X : Cx) (G : Gx) (W0 : XK) (k : Nat) (S : Sx) (Γ : List (Fk × ZSp)) : Prop where
  hN : X.N = S.N
  nd : X.N.Nodup
  sc : X.env.scope = S.sc
  calm : X.calm = true
  hK : X.K = G.K
  takes : Takes X fun c d _ H => W0 c d H
  rm : Room (if S.lam = true then k + 3 else k) X.A
  fns : ∀ (i : Nat) (x : Fk) (P : ZSp), Γ[i]? = some (x, P) → FnK X G k x P
  free : ∀ x ∈ bnames, X.mg x = none
  sto : ∀ x, ownB S.so x = true → Loc X.env.scope x ∧ (X.fn x = true ∨ X.env.scope.names.lookup x = some .local)
  gi : ∀ p ∈ S.gi, ∃ t, X.mg p.1 = some (.int p.2 t)
  gs : ∀ p ∈ S.gs, ∃ t, X.mg p.1 = some (.str p.2 t)
  xs : ∀ e ∈ S.xs, XcF X.prog X.w X.K X.mg X.base e
  lam : S.lam = true → LamF X G ∧ AskE X.K X.mg S.ex ∧ X.stack = X.env :: X.outer
theorem Good.room {X : Cx} {G : Gx} {W0 : XK} {k : Nat} {S : Sx} {Γ : List (Fk × ZSp)} (g : Good X G W0 k S Γ) : Room k X.A := g.rm.mono (by split <;> omega)
def LfO (G : Gx) (W0 : XK) (t : ZE) : TO := fun σ H Q => ∃ B α ρ O Q0 E0, Rep G B α σ H ρ O ∧ t E0 ρ O Q0 ∧
  (∀ us O', Q0 us O' → ∃ l, ((us = [] ∧ l = none) ∨ ∃ i, us = [.d (.int i)] ∧ l = some i) ∧ ∀ α' H', Stp α O H α' O' H' → Own G B α' O' H' → Q l H') ∧ ELow G B W0 α O H E0
/-- what a loop walks, by data -/
structure WalkD (G : Gx) (B : Addr → Prop) (α : List Addr) (O : List DO) (H : Hp) (J : It) (ds : List D) : Prop where
  ex : ∃ Gd Yy, L2.Walk J ds.length Gd Yy ∧
    ∀ (B2 : Addr → Prop) (α2 : List Addr) (O2 : List DO) (H2 : Hp), (∀ b, Mu B2 α2 O2 b → Mu B α O b ∨ H b = none) → (∀ b o, H b = some o → ¬ Ho α O b → (∀ ps, o ≠ .tbl ps) → H2 b = some o) → Own G B2 α2 O2 H2 →
      Gd H2 ∧ ∀ (i : Nat) x H3, i < ds.length → Yy i H2 x H3 → ∃ d, ds[i]? = some d ∧ (H3 = H2 ∨ ∃ p vs, H2 p = none ∧ H3 = upd H2 p (.tup vs)) ∧ At G.K (Mu B2 α2 O2) H3 x d
def LfI (G : Gx) (W0 : XK) (t : ZE) : TI := fun σ H R => ∃ B α ρ O Q0 E0, Rep G B α σ H ρ O ∧ t E0 ρ O Q0 ∧
  (∀ us O', Q0 us O' → ∃ ds, us = List.map U.d ds ∧ ∀ α' H' J, Stp α O H α' O' H' → Own G B α' O' H' → WalkD G B α' O' H' J ds → R J H') ∧ ELow G B W0 α O H E0
theorem pi_imp {X : Cx} {tg e : Expr} {t t' : TI} (h : PI X tg e t) (i : ∀ σ H Q, t' σ H Q → t σ H Q) : PI X tg e t' := ⟨fun pins s σ H Q I q => h.run pins s σ H Q I (i σ H Q q)⟩
theorem po_imp {X : Cx} {e : Option Expr} {t t' : TO} (h : PO X e t) (i : ∀ σ H Q, t' σ H Q → t σ H Q) : PO X e t' := ⟨fun pins s σ H Q I q => h.run pins s σ H Q I (i σ H Q q)⟩

structure Sd (G : Gx) (k : Nat) (Γ : List (Fk × ZSp)) (z : Y) : Prop where
  E : ∀ X W0 S, Good X G W0 k S Γ → ∀ e, (ck (Γ.map (·.1)) z S).E e = true → SE X G W0 e (vc Γ z)
  T : ∀ X W0 S, Good X G W0 k S Γ → ∀ e, (ck (Γ.map (·.1)) z S).T e = true → ST X G W0 e (vc Γ z)
  W : ∀ X W0 S, Good X G W0 k S Γ → ∀ op xs p, (ck (Γ.map (·.1)) z S).T (.BoolOp op xs p) = true → PW X (.BoolOp op xs p) (LfT G W0 (vc Γ z))
  A : ∀ X W0 S, Good X G W0 k S Γ → ∀ es, (ck (Γ.map (·.1)) z S).A es = true → SA X G W0 es (vc Γ z)
  I : ∀ X W0 S, Good X G W0 k S Γ → ∀ tg e, (ck (Γ.map (·.1)) z S).I tg e = true → PI X tg e (LfI G W0 (vc Γ z))
  O : ∀ X W0 S, Good X G W0 k S Γ → ∀ e, (ck (Γ.map (·.1)) z S).O e = true → PO X e (LfO G W0 (vc Γ z))

section
variable {G : Gx} {B : Addr → Prop} {α : List Addr} {O : List DO} {H : Hp} {σ : L2.St} {ρ : List (Option U)} {W0 : XK} {E0 : ZX} {t : ZE}
theorem oneK_of {us : List U} {k : U → Prop} (h : oneK us k) : ∃ u, us = [u] ∧ k u := by
  unfold oneK at h
  split at h
  · exact ⟨_, rfl, h⟩
  · exact h.elim
theorem boolK_of {us : List U} {k : Bool → Prop} (h : boolK us k) : ∃ b, us = [.d (.bl b)] ∧ k b := by
  unfold boolK at h
  split at h
  · exact ⟨_, rfl, h⟩
  · exact h.elim
theorem nrK_of {u : U} {k : D → Prop} (h : nrK O u k) : ∃ x, nrm O u = some x ∧ k x := by
  unfold nrK at h
  split at h
  · exact ⟨_, by assumption, h⟩
  · exact h.elim
theorem toK_of {u : U} {k : D → Prop} (h : toK O u k) : ∃ x, toD O u = some x ∧ k x := by
  unfold toK at h
  split at h
  · exact ⟨_, by assumption, h⟩
  · exact h.elim
theorem tosK_of {us : List U} {k : List D → Prop} (h : tosK O us k) : ∃ x, toDs O us = some x ∧ k x := by
  unfold tosK at h
  split at h
  · exact ⟨_, by assumption, h⟩
  · exact h.elim
theorem nrsK_of {us : List U} {k : List D → Prop} (h : nrsK O us k) : ∃ x, nrs O us = some x ∧ k x := by
  unfold nrsK at h
  split at h
  · exact ⟨_, by assumption, h⟩
  · exact h.elim
theorem seqE {F : U → List DO → Prop} {Q : VK} (R : Rep G B α σ H ρ O) (h : t E0 ρ O fun us O1 => oneK us fun u => F u O1) (he : ELow G B W0 α O H E0)
    (k : ∀ u O1, F u O1 → ∀ α1 v H1, Stp α O H α1 O1 H1 → Own G B α1 O1 H1 → AtU G.K B α1 O1 H1 v u → Q v H1) : LfE G W0 t σ H Q :=
  ⟨B, α, ρ, O, _, E0, R, h, fun us O1 q => by
    obtain ⟨u, e, q⟩ := oneK_of q
    exact ⟨u, e, k u O1 q⟩, he⟩
theorem seqB {F : Bool → List DO → Prop} {Q : VK} (R : Rep G B α σ H ρ O) (h : t E0 ρ O fun us O1 => boolK us fun u => F u O1) (he : ELow G B W0 α O H E0)
    (k : ∀ b O1, F b O1 → ∀ α1 H1, Stp α O H α1 O1 H1 → Own G B α1 O1 H1 → Q (.bl b) H1) : LfE G W0 t σ H Q :=
  ⟨B, α, ρ, O, _, E0, R, h, fun us O1 q => by
    obtain ⟨b, e, q⟩ := boolK_of q
    refine ⟨_, e, fun α1 v H1 s w a => ?_⟩
    cases a with
    | d a => cases a; exact k b O1 q α1 H1 s w, he⟩
theorem seqT {F : Bool → List DO → Prop} {Q : Bool → Hp → Prop} (R : Rep G B α σ H ρ O) (h : t E0 ρ O fun us O1 => boolK us fun u => F u O1) (he : ELow G B W0 α O H E0)
    (k : ∀ b O1, F b O1 → ∀ α1 H1, Stp α O H α1 O1 H1 → Own G B α1 O1 H1 → Q b H1) : LfT G W0 t σ H Q :=
  ⟨B, α, ρ, O, _, E0, R, h, fun us O1 q => by
    obtain ⟨b, e, q⟩ := boolK_of q
    exact ⟨_, e, k b O1 q⟩, he⟩
theorem seqA {F : List U → List DO → Prop} {Q : List V → Hp → Prop} (R : Rep G B α σ H ρ O) (h : t E0 ρ O F) (he : ELow G B W0 α O H E0)
    (k : ∀ us O1, F us O1 → ∀ α1 vs H1, Stp α O H α1 O1 H1 → Own G B α1 O1 H1 → AtUs G.K B α1 O1 H1 vs us → Q vs H1) : LfA G W0 t σ H Q :=
  ⟨B, α, ρ, O, F, E0, R, h, k, he⟩
/-- the end: a value -/
theorem QLow.to {Q0 : ZQ} {Q : VK} (hq : QLow G B α O H Q0 Q) {u : U} {O' : List DO} (h : Q0 [u] O') {α' : List Addr} {v : V} {H' : Hp} (s : Stp α O H α' O' H') (w : Own G B α' O' H') (a : AtU G.K B α' O' H' v u) : Q v H' := by
  obtain ⟨u', e, k⟩ := hq _ _ h
  cases e
  exact k α' v H' s w a
theorem QLow.stp {Q0 : ZQ} {Q : VK} (hq : QLow G B α O H Q0 Q) {α' : List Addr} {O' : List DO} {H' : Hp} (s : Stp α O H α' O' H') : QLow G B α' O' H' Q0 Q := fun us O2 h =>
  let ⟨u, e, k⟩ := hq us O2 h; ⟨u, e, fun α2 v H2 s2 w a => k α2 v H2 (s.trans s2) w a⟩
theorem BLow.stp {Q0 : ZQ} {Q : Bool → Hp → Prop} (hq : BLow G B α O H Q0 Q) {α' : List Addr} {O' : List DO} {H' : Hp} (s : Stp α O H α' O' H') : BLow G B α' O' H' Q0 Q := fun us O2 h =>
  let ⟨u, e, k⟩ := hq us O2 h; ⟨u, e, fun α2 H2 s2 w => k α2 H2 (s.trans s2) w⟩
theorem BLow.to {Q0 : ZQ} {Q : Bool → Hp → Prop} (hq : BLow G B α O H Q0 Q) {b : Bool} {O' : List DO} (h : Q0 [.d (.bl b)] O') {α' : List Addr} {H' : Hp} (s : Stp α O H α' O' H') (w : Own G B α' O' H') : Q b H' := by
  obtain ⟨u', e, k⟩ := hq _ _ h
  cases e
  exact k α' H' s w
/-- a test by its value -/
theorem st_of {X : Cx} {e : Expr} (h : SE X G W0 e t) (p : plainT e = true) : ST X G W0 e t := by
  have he : ∀ whole, isTrue e X.env whole = (do let v ← whole; standAt e.pos; holding [v] (truthy v)) := by
    intro whole
    cases e with
    | UnaryOp op a pos => cases op <;> first | rfl | cases p
    | BoolOp _ _ _ => cases p
    | IfExp _ _ _ _ => cases p
    | Compare _ _ _ _ => cases p
    | _ => rfl
  refine pt_imp (pt_truth h he) fun σ H Q ⟨B, α, ρ, O, Q0, E0, R, h, hq, hl⟩ => ⟨B, α, ρ, O, Q0, E0, R, h, fun us O' q => ?_, hl⟩
  obtain ⟨b, e, k⟩ := hq us O' q
  refine ⟨_, e, fun α' v H' s w a => ?_⟩
  cases a with
  | d a => cases a; exact ⟨b, rfl, k α' H' s w⟩
end
section
variable {G : Gx} {k : Nat} {Γ : List (Fk × ZSp)} {z : Y}
theorem Sd.ofE (f : Sx → Expr → Bool) (hf : ∀ S, ck (Γ.map (·.1)) z S = cE (f S)) (h : ∀ X W0 S, Good X G W0 k S Γ → ∀ e, f S e = true → SE X G W0 e (vc Γ z)) : Sd G k Γ z where
  E := fun X W0 S g e c => h X W0 S g e (by rw [hf S] at c; exact c)
  T := fun X W0 S g e c => by
    rw [hf S] at c
    have c' : (plainT e && f S e) = true := c
    rw [Bool.and_eq_true] at c'
    exact st_of (h X W0 S g e c'.2) c'.1
  W := fun X W0 S g op xs p c => by
    rw [hf S] at c
    have c' : (false && f S (.BoolOp op xs p)) = true := c
    cases c'
  A := fun X W0 S g es c => by rw [hf S] at c; cases c
  I := fun X W0 S g tg e c => by rw [hf S] at c; cases c
  O := fun X W0 S g e c => by rw [hf S] at c; cases c
end
theorem ba {a b : Bool} (h : (a && b) = true) : a = true ∧ b = true := Bool.and_eq_true_iff.mp h
theorem vis_of {sc : Scope} {x : Str} (h : visB sc x = true) : Vis sc x := by
  unfold visB at h
  split at h
  · exact .inl (by assumption)
  · exact .inr (.inl (by assumption))
  · exact .inr (.inr (by assumption))
  · cases h
theorem okn_of {x : Str} (h : oknB x = true) : (x == ("__debug__" : Str)) = false ∧ (x == ("__classdict__" : Str)) = false := by
  obtain ⟨a, b⟩ := ba h
  exact ⟨by simpa using a, by simpa using b⟩
section
variable {G : Gx} {k : Nat} {Γ : List (Fk × ZSp)}
theorem pe_name {X : Cx} {W0 : XK} {S : Sx} (g : Good X G W0 k S Γ) {x : Str} {i : Nat} {pos : Pos} (c : (decide (S.N[i]? = some x) && visB S.sc x && oknB x) = true) : PE X (.Name x pos) (tVar i) := by
  obtain ⟨c1, c3⟩ := ba c
  obtain ⟨c1, c2⟩ := ba c1
  exact pe_var (by rw [g.hN]; exact of_decide_eq_true c1) (by rw [g.sc]; exact vis_of c2) (okn_of c3).1 (okn_of c3).2
theorem sd_var (i : Nat) : Sd G k Γ (.var i) := .ofE _ (fun _ => rfl) fun X W0 S g e c => by
  split at c
  · refine pe_imp (pe_name g c) fun σ H Q ⟨B, α, ρ, O, Q0, E0, R, h, hq, hl⟩ => ?_
    have h' : (match gt ρ i with | some u => Q0 [u] O | none => False) := h
    cases q : gt ρ i with
    | none => rw [q] at h'; exact h'.elim
    | some u =>
      rw [q] at h'
      obtain ⟨v, e, a⟩ := R.vars i u q
      exact ⟨v, e, hq.to h' Stp.refl R.own a⟩
  · cases c
theorem sd_int (i : Int) : Sd G k Γ (.int i) := .ofE _ (fun _ => rfl) fun X W0 S g e c => by
  split at c
  · rw [of_decide_eq_true c]
    exact pe_imp pe_int fun σ H Q ⟨B, α, ρ, O, Q0, E0, R, h, hq, hl⟩ => hq.to h Stp.refl R.own (.d (.int _))
  · cases c
theorem sd_bl (i : Bool) : Sd G k Γ (.bl i) := .ofE _ (fun _ => rfl) fun X W0 S g e c => by
  split at c
  · rw [of_decide_eq_true c]
    exact pe_imp pe_bl fun σ H Q ⟨B, α, ρ, O, Q0, E0, R, h, hq, hl⟩ => hq.to h Stp.refl R.own (.d (.bl _))
  · cases c
theorem sd_non : Sd G k Γ .non := .ofE _ (fun _ => rfl) fun X W0 S g e c => by
  split at c
  · exact pe_imp pe_non fun σ H Q ⟨B, α, ρ, O, Q0, E0, R, h, hq, hl⟩ => hq.to h Stp.refl R.own (.d .non)
  · cases c
theorem sd_str (i : Str) : Sd G k Γ (.str i) := .ofE _ (fun _ => rfl) fun X W0 S g e c => by
  split at c
  · rw [of_decide_eq_true c]
    exact pe_imp pe_str fun σ H Q ⟨B, α, ρ, O, Q0, E0, R, h, hq, hl⟩ => hq.to h Stp.refl R.own (.d (.str _))
  · cases c
theorem sd_gint (y : Str) (i : Int) : Sd G k Γ (.gint y i) := .ofE _ (fun _ => rfl) fun X W0 S g e c => by
  split at c
  · obtain ⟨c, c4⟩ := ba c
    obtain ⟨c, c3⟩ := ba c
    obtain ⟨c1, c2⟩ := ba c
    cases of_decide_eq_true c1
    obtain ⟨t, hm⟩ := g.gi _ (of_decide_eq_true c2)
    have hg : Gl X y := by
      have h' := of_decide_eq_true c3
      rw [← g.sc] at h'
      exact h'
    refine ⟨fun pins s σ H Q I ⟨B, α, ρ, O, Q0, E0, R, h, hq, hl⟩ => ld_glob I hg hm ⟨.int i, H, I, ⟨t, rfl⟩, hq.to h Stp.refl R.own (.d (.int _))⟩ (okn_of c4).1⟩
  · cases c
theorem sd_gstr (y z : Str) : Sd G k Γ (.gstr y z) := .ofE _ (fun _ => rfl) fun X W0 S g e c => by
  split at c
  · obtain ⟨c, c4⟩ := ba c
    obtain ⟨c, c3⟩ := ba c
    obtain ⟨c1, c2⟩ := ba c
    cases of_decide_eq_true c1
    obtain ⟨t, hm⟩ := g.gs _ (of_decide_eq_true c2)
    have hg : Gl X y := by
      have h' := of_decide_eq_true c3
      rw [← g.sc] at h'
      exact h'
    refine ⟨fun pins s σ H Q I ⟨B, α, ρ, O, Q0, E0, R, h, hq, hl⟩ => ld_glob I hg hm ⟨.str z, H, I, ⟨t, rfl⟩, hq.to h Stp.refl R.own (.d (.str _))⟩ (okn_of c4).1⟩
  · cases c
theorem sd_none (z : Y) (h : ∀ S, ck (Γ.map (·.1)) z S = {}) : Sd G k Γ z where
  E := fun X W0 S g e c => by rw [h S] at c; cases c
  T := fun X W0 S g e c => by rw [h S] at c; cases c
  W := fun X W0 S g op xs p c => by rw [h S] at c; cases c
  A := fun X W0 S g es c => by rw [h S] at c; cases c
  I := fun X W0 S g tg e c => by rw [h S] at c; cases c
  O := fun X W0 S g e c => by rw [h S] at c; cases c
/-- two operands -/
theorem seq2 {W0 : XK} {ta tb : ZE} {B : Addr → Prop} {α : List Addr} {O : List DO} {H : Hp} {σ : L2.St} {ρ : List (Option U)} {E0 : ZX} {F : U → U → List DO → Prop} {Q : V → V → Hp → Prop} (R : Rep G B α σ H ρ O)
    (h : ta E0 ρ O fun us O1 => oneK us fun u => tb E0 ρ O1 fun ws O2 => oneK ws fun w => F u w O2) (he : ELow G B W0 α O H E0)
    (kk : ∀ u w O2, F u w O2 → ∀ α2 v v2 H2, Stp α O H α2 O2 H2 → Own G B α2 O2 H2 → AtU G.K B α2 O2 H2 v u → AtU G.K B α2 O2 H2 v2 w → Q v v2 H2) :
    LfE G W0 ta σ H fun v H1 => LfE G W0 tb σ H1 fun v2 H2 => Q v v2 H2 :=
  seqE R h he fun u O1 f α1 v H1 s1 w1 a1 => seqE (R.stp s1 w1) f (he.stp s1) fun w O2 f2 α2 v2 H2 s2 w2 a2 => kk u w O2 f2 α2 v v2 H2 (s1.trans s2) w2 (s2.atU a1) a2
theorem sd_bin (op : Operator) {a b : Y} (da : Sd G k Γ a) (db : Sd G k Γ b) : Sd G k Γ (.bin op a b) := .ofE _ (fun _ => rfl) fun X W0 S g e c => by
  split at c
  · obtain ⟨c, c3⟩ := ba c
    obtain ⟨c1, c2⟩ := ba c
    rw [← of_decide_eq_true c1]
    refine pe_imp (pe_op (opr_bin g.hK op) (da.E X W0 S g _ c2) (db.E X W0 S g _ c3)) fun σ H Q ⟨B, α, ρ, O, Q0, E0, R, h, hq, hl⟩ => ?_
    refine seq2 R h hl fun u w O2 f α2 v v2 H2 s2 w2 a1 a2 => ?_
    obtain ⟨x, e1, f⟩ := nrK_of f
    obtain ⟨y, e2, f⟩ := nrK_of f
    exact ⟨B, α2, O2, x, y, _, w2, Vw.of w2 a1 e1, Vw.of w2 a2 e2, f, fun z q v' H' s' w' a' => hq.to q (s2.trans s') w' (.d a')⟩
  · cases c
theorem sd_fdq {a b : Y} (da : Sd G k Γ a) (db : Sd G k Γ b) : Sd G k Γ (.fdq a b) := .ofE _ (fun _ => rfl) fun X W0 S g e c => by
  split at c
  · obtain ⟨c, c3⟩ := ba c
    obtain ⟨c1, c2⟩ := ba c
    rw [← of_decide_eq_true c1]
    refine pe_imp (pe_op (opr_fdq g.hK) (da.E X W0 S g _ c2) (db.E X W0 S g _ c3)) fun σ H Q ⟨B, α, ρ, O, Q0, E0, R, h, hq, hl⟩ => ?_
    refine seq2 R h hl fun u w O2 f α2 v v2 H2 s2 w2 a1 a2 => ?_
    obtain ⟨x, e1, f⟩ := nrK_of f
    obtain ⟨y, e2, f⟩ := nrK_of f
    exact ⟨B, α2, O2, x, y, _, w2, Vw.of w2 a1 e1, Vw.of w2 a2 e2, f, fun z q v' H' s' w' a' => hq.to q (s2.trans s') w' (.d a')⟩
  · cases c
theorem sd_neg {a : Y} (da : Sd G k Γ a) : Sd G k Γ (.neg a) := .ofE _ (fun _ => rfl) fun X W0 S g e c => by
  split at c
  · refine pe_imp (pe_un un_neg (da.E X W0 S g _ c)) fun σ H Q ⟨B, α, ρ, O, Q0, E0, R, h, hq, hl⟩ => ?_
    refine seqE R h hl fun u O1 f α1 v H1 s1 w1 a1 => ?_
    obtain ⟨x, e1, f⟩ := nrK_of f
    have av := Vw.of w1 a1 e1
    cases x with
    | int i =>
      obtain rfl := av.int
      exact ⟨i, rfl, hq.to f s1 w1 (.d (.int _))⟩
    | _ => exact f.elim
  · cases c
theorem marks_of {op : CmpOp} {r : Expr} (h : noSet r = true) : behindInMarks op r = false := by
  cases r <;> first | rfl | cases h
theorem sd_cmp (op : CmpOp) {a b : Y} (da : Sd G k Γ a) (db : Sd G k Γ b) : Sd G k Γ (.cmp op a b) where
  E := fun X W0 S g e c => by
    have c' : cmpC op (ck (Γ.map (·.1)) a S).E (ck (Γ.map (·.1)) b S).E e = true := c
    unfold cmpC at c'
    split at c'
    · obtain ⟨c, c4⟩ := ba c'
      obtain ⟨c, c3⟩ := ba c
      obtain ⟨c1, c2⟩ := ba c
      rw [← of_decide_eq_true c1]
      refine pe_imp (pe_cmpR (opc_all g.room.units g.hK op) (da.E X W0 S g _ c2) (db.E X W0 S g _ c3) (marks_of c4)) fun σ H Q ⟨B, α, ρ, O, Q0, E0, R, h, hq, hl⟩ => ?_
      refine seq2 R h hl fun u w O2 f α2 v v2 H2 s2 w2 a1 a2 => ?_
      obtain ⟨x, e1, f⟩ := nrK_of f
      obtain ⟨y, e2, f⟩ := nrK_of f
      exact ⟨B, α2, O2, x, y, _, w2, Vw.of w2 a1 e1, Vw.of w2 a2 e2, f, fun t q => hq.to q s2 w2 (.d (.bl _))⟩
    · cases c'
  T := fun X W0 S g e c => by
    have c' : cmpC op (ck (Γ.map (·.1)) a S).E (ck (Γ.map (·.1)) b S).E e = true := c
    unfold cmpC at c'
    split at c'
    · obtain ⟨c, c4⟩ := ba c'
      obtain ⟨c, c3⟩ := ba c
      obtain ⟨c1, c2⟩ := ba c
      rw [← of_decide_eq_true c1]
      refine pt_imp (pt_cmpR (opc_all g.room.units g.hK op) (da.E X W0 S g _ c2) (db.E X W0 S g _ c3) (marks_of c4)) fun σ H Q ⟨B, α, ρ, O, Q0, E0, R, h, hq, hl⟩ => ?_
      refine seq2 R h hl fun u w O2 f α2 v v2 H2 s2 w2 a1 a2 => ?_
      obtain ⟨x, e1, f⟩ := nrK_of f
      obtain ⟨y, e2, f⟩ := nrK_of f
      exact ⟨B, α2, O2, x, y, _, w2, Vw.of w2 a1 e1, Vw.of w2 a2 e2, f, fun t q => ⟨t, rfl, hq.to q s2 w2⟩⟩
    · cases c'
  W := fun X W0 S g op xs p c => by cases c
  A := fun X W0 S g es c => by cases c
  I := fun X W0 S g tg e c => by cases c
  O := fun X W0 S g e c => by cases c
/-- a op b op c, the reading -/
theorem chain_low {o p : CmpOp} {X : Cx} {W0 : XK} {a b c : Y} {σ : L2.St} {H : Hp} {Q : VK} {B : Addr → Prop} {α : List Addr} {ρ : List (Option U)} {O : List DO} {Q0 : ZQ} {E0 : ZX} (hK : X.K = G.K) (R : Rep G B α σ H ρ O) (h : vc Γ (.chain o p a b c) E0 ρ O Q0)
    (hq : ∀ b O', Q0 [.d (.bl b)] O' → ∀ α' H', Stp α O H α' O' H' → Own G B α' O' H' → Q (.bl b) H') (hl : ELow G B W0 α O H E0) : tChain (rC G (cmpD o)) (rC G (cmpD p)) (LfE G W0 (vc Γ a)) (LfE G W0 (vc Γ b)) (LfE G W0 (vc Γ c)) σ H Q := by
  refine seq2 R h hl fun u w O2 f α2 v v2 H2 s2 w2 a1 a2 => ?_
  obtain ⟨x, e1, f⟩ := nrK_of f
  obtain ⟨y, e2, f⟩ := nrK_of f
  refine ⟨B, α2, O2, x, y, _, w2, Vw.of w2 a1 e1, Vw.of w2 a2 e2, f, fun t f => ⟨t, rfl, ?_⟩⟩
  cases t with
  | true =>
    rw [if_pos rfl]
    refine seqE (R.stp s2 w2) (f.1 rfl) (hl.stp s2) fun u3 O3 f3 α3 v3 H3 s3 w3 a3 => ?_
    obtain ⟨y2, e3, f3⟩ := nrK_of f3
    obtain ⟨z, e4, f3⟩ := nrK_of f3
    exact ⟨B, α3, O3, y2, z, _, w3, Vw.of w3 (s3.atU a2) e3, Vw.of w3 a3 e4, f3, fun t q => hq t O3 q α3 H3 (s2.trans s3) w3⟩
  | false =>
    rw [if_neg (by decide)]
    exact hq false O2 (f.2 rfl) α2 H2 s2 w2
theorem sd_chain (o p : CmpOp) {a b c : Y} (da : Sd G k Γ a) (db : Sd G k Γ b) (dc : Sd G k Γ c) : Sd G k Γ (.chain o p a b c) where
  E := fun X W0 S g e ch => by
    have c' : chainC o p (ck (Γ.map (·.1)) a S).E (ck (Γ.map (·.1)) b S).E (ck (Γ.map (·.1)) c S).E e = true := ch
    unfold chainC at c'
    split at c'
    · obtain ⟨c', c7⟩ := ba c'
      obtain ⟨c', c6⟩ := ba c'
      obtain ⟨c', c5⟩ := ba c'
      obtain ⟨c', c4⟩ := ba c'
      obtain ⟨c', c3⟩ := ba c'
      obtain ⟨c1, c2⟩ := ba c'
      rw [← of_decide_eq_true c1, ← of_decide_eq_true c2]
      refine pe_imp (pe_chain (opc_all g.room.units g.hK o) (opc_all g.room.units g.hK p) (da.E X W0 S g _ c3) (db.E X W0 S g _ c4) (dc.E X W0 S g _ c5) (marks_of c7)) fun σ H Q ⟨B, α, ρ, O, Q0, E0, R, h, hq, hl⟩ => ?_
      exact chain_low (X := X) g.hK R h (fun b O' q α' H' s w => hq.to q s w (.d (.bl _))) hl
    · cases c'
  T := fun X W0 S g e ch => by
    have c' : chainC o p (ck (Γ.map (·.1)) a S).E (ck (Γ.map (·.1)) b S).E (ck (Γ.map (·.1)) c S).E e = true := ch
    unfold chainC at c'
    split at c'
    · obtain ⟨c', c7⟩ := ba c'
      obtain ⟨c', c6⟩ := ba c'
      obtain ⟨c', c5⟩ := ba c'
      obtain ⟨c', c4⟩ := ba c'
      obtain ⟨c', c3⟩ := ba c'
      obtain ⟨c1, c2⟩ := ba c'
      rw [← of_decide_eq_true c1, ← of_decide_eq_true c2]
      refine pt_imp (pt_chain (opc_all g.room.units g.hK o) (opc_all g.room.units g.hK p) (da.E X W0 S g _ c3) (db.E X W0 S g _ c4) (dc.E X W0 S g _ c5) (marks_of c7)) fun σ H Q ⟨B, α, ρ, O, Q0, E0, R, h, hq, hl⟩ => ?_
      exact chain_low (X := X) g.hK R h (fun b O' q α' H' s w => ⟨b, rfl, hq.to q s w⟩) hl
    · cases c'
  W := fun X W0 S g op xs p c => by cases c
  A := fun X W0 S g es c => by cases c
  I := fun X W0 S g tg e c => by cases c
  O := fun X W0 S g e c => by cases c
theorem sd_not {a : Y} (da : Sd G k Γ a) : Sd G k Γ (.not a) where
  E := fun X W0 S g e c => by
    have c' : notC (ck (Γ.map (·.1)) a S).E e = true := c
    unfold notC at c'
    split at c'
    · refine pe_imp (pe_not (da.E X W0 S g _ c')) fun σ H Q ⟨B, α, ρ, O, Q0, E0, R, h, hq, hl⟩ => ?_
      exact seqB R h hl fun b O1 f α1 H1 s1 w1 => ⟨b, rfl, hq.to f s1 w1 (.d (.bl _))⟩
    · cases c'
  T := fun X W0 S g e c => by
    have c' : notC (ck (Γ.map (·.1)) a S).T e = true := c
    unfold notC at c'
    split at c'
    · refine pt_imp (pt_not (da.T X W0 S g _ c')) fun σ H Q ⟨B, α, ρ, O, Q0, E0, R, h, hq, hl⟩ => ?_
      exact seqT R h hl fun b O1 f α1 H1 s1 w1 => hq.to f s1 w1
    · cases c'
  W := fun X W0 S g op xs p c => by cases c
  A := fun X W0 S g es c => by cases c
  I := fun X W0 S g tg e c => by cases c
  O := fun X W0 S g e c => by cases c
theorem sd_one {a : Y} (da : Sd G k Γ a) : Sd G k Γ (.one a) where
  E := fun X W0 S g e c => by
    have c' : oneC (ck (Γ.map (·.1)) a S).E e = true := c
    unfold oneC at c'
    split at c'
    · exact pe_one (da.E X W0 S g _ c')
    · cases c'
  T := fun X W0 S g e c => by
    have c' : oneC (ck (Γ.map (·.1)) a S).T e = true := c
    unfold oneC at c'
    split at c'
    · rename_i op x p
      cases op with
      | And => exact (pw_and1 (da.T X W0 S g _ c')).pt
      | Or => exact (pw_or1 (da.T X W0 S g _ c')).pt
    · cases c'
  W := fun X W0 S g op xs p c => by
    have c' : oneC (ck (Γ.map (·.1)) a S).T (.BoolOp op xs p) = true := c
    unfold oneC at c'
    split at c'
    · rename_i e
      cases e
      cases op with
      | And => exact pw_and1 (da.T X W0 S g _ c')
      | Or => exact pw_or1 (da.T X W0 S g _ c')
    · cases c'
  A := fun X W0 S g es c => by cases c
  I := fun X W0 S g tg e c => by cases c
  O := fun X W0 S g e c => by cases c
theorem and_low {W0 : XK} {a b : Y} {σ : L2.St} {H : Hp} {Q : Bool → Hp → Prop} (h : LfT G W0 (vc Γ (.and a b)) σ H Q) : tAnd (LfT G W0 (vc Γ a)) (LfT G W0 (vc Γ b)) σ H Q := by
  obtain ⟨B, α, ρ, O, Q0, E0, R, h, hq, hl⟩ := h
  refine seqT R h hl fun t O1 f α1 H1 s1 w1 => ?_
  cases t with
  | true => rw [if_pos rfl]; exact ⟨B, α1, ρ, O1, Q0, E0, R.stp s1 w1, f.1 rfl, hq.stp s1, hl.stp s1⟩
  | false => rw [if_neg (by decide)]; exact hq.to (f.2 rfl) s1 w1
theorem or_low {W0 : XK} {a b : Y} {σ : L2.St} {H : Hp} {Q : Bool → Hp → Prop} (h : LfT G W0 (vc Γ (.or a b)) σ H Q) : tOr (LfT G W0 (vc Γ a)) (LfT G W0 (vc Γ b)) σ H Q := by
  obtain ⟨B, α, ρ, O, Q0, E0, R, h, hq, hl⟩ := h
  refine seqT R h hl fun t O1 f α1 H1 s1 w1 => ?_
  cases t with
  | true => rw [if_pos rfl]; exact hq.to (f.1 rfl) s1 w1
  | false => rw [if_neg (by decide)]; exact ⟨B, α1, ρ, O1, Q0, E0, R.stp s1 w1, f.2 rfl, hq.stp s1, hl.stp s1⟩
theorem sd_and {a b : Y} (da : Sd G k Γ a) (db : Sd G k Γ b) : Sd G k Γ (.and a b) where
  E := fun X W0 S g e c => by
    have c' : andC (ck (Γ.map (·.1)) a S).E (ck (Γ.map (·.1)) b S).E e = true := c
    unfold andC at c'
    split at c'
    · obtain ⟨c1, c2⟩ := ba c'
      refine pe_imp (pe_and (da.E X W0 S g _ c1) (db.E X W0 S g _ c2)) fun σ H Q ⟨B, α, ρ, O, Q0, E0, R, h, hq, hl⟩ => ?_
      refine seqB R h hl fun t O1 f α1 H1 s1 w1 => ⟨t, rfl, ?_⟩
      cases t with
      | true => rw [if_pos rfl]; exact ⟨B, α1, ρ, O1, Q0, E0, R.stp s1 w1, f.1 rfl, hq.stp s1, hl.stp s1⟩
      | false => rw [if_neg (by decide)]; exact hq.to (f.2 rfl) s1 w1 (.d (.bl _))
    · cases c'
  T := fun X W0 S g e c => by
    have c' : andC (ck (Γ.map (·.1)) a S).T (ck (Γ.map (·.1)) b S).T e = true := c
    unfold andC at c'
    split at c'
    · obtain ⟨c1, c2⟩ := ba c'
      exact pt_imp (pw_and (da.T X W0 S g _ c1) (db.W X W0 S g _ _ _ c2)).pt fun σ H Q h => and_low h
    · cases c'
  W := fun X W0 S g op xs p c => by
    have c' : andC (ck (Γ.map (·.1)) a S).T (ck (Γ.map (·.1)) b S).T (.BoolOp op xs p) = true := c
    unfold andC at c'
    split at c'
    · rename_i e
      cases e
      obtain ⟨c1, c2⟩ := ba c'
      exact pw_imp (pw_and (da.T X W0 S g _ c1) (db.W X W0 S g _ _ _ c2)) fun σ H Q h => and_low h
    · cases c'
  A := fun X W0 S g es c => by cases c
  I := fun X W0 S g tg e c => by cases c
  O := fun X W0 S g e c => by cases c
theorem sd_or {a b : Y} (da : Sd G k Γ a) (db : Sd G k Γ b) : Sd G k Γ (.or a b) where
  E := fun X W0 S g e c => by
    have c' : orC (ck (Γ.map (·.1)) a S).E (ck (Γ.map (·.1)) b S).E e = true := c
    unfold orC at c'
    split at c'
    · obtain ⟨c1, c2⟩ := ba c'
      refine pe_imp (pe_or (da.E X W0 S g _ c1) (db.E X W0 S g _ c2)) fun σ H Q ⟨B, α, ρ, O, Q0, E0, R, h, hq, hl⟩ => ?_
      refine seqB R h hl fun t O1 f α1 H1 s1 w1 => ⟨t, rfl, ?_⟩
      cases t with
      | true => rw [if_pos rfl]; exact hq.to (f.1 rfl) s1 w1 (.d (.bl _))
      | false => rw [if_neg (by decide)]; exact ⟨B, α1, ρ, O1, Q0, E0, R.stp s1 w1, f.2 rfl, hq.stp s1, hl.stp s1⟩
    · cases c'
  T := fun X W0 S g e c => by
    have c' : orC (ck (Γ.map (·.1)) a S).T (ck (Γ.map (·.1)) b S).T e = true := c
    unfold orC at c'
    split at c'
    · obtain ⟨c1, c2⟩ := ba c'
      exact pt_imp (pw_or (da.T X W0 S g _ c1) (db.W X W0 S g _ _ _ c2)).pt fun σ H Q h => or_low h
    · cases c'
  W := fun X W0 S g op xs p c => by
    have c' : orC (ck (Γ.map (·.1)) a S).T (ck (Γ.map (·.1)) b S).T (.BoolOp op xs p) = true := c
    unfold orC at c'
    split at c'
    · rename_i e
      cases e
      obtain ⟨c1, c2⟩ := ba c'
      exact pw_imp (pw_or (da.T X W0 S g _ c1) (db.W X W0 S g _ _ _ c2)) fun σ H Q h => or_low h
    · cases c'
  A := fun X W0 S g es c => by cases c
  I := fun X W0 S g tg e c => by cases c
  O := fun X W0 S g e c => by cases c
theorem sd_ite {c a b : Y} (dc : Sd G k Γ c) (da : Sd G k Γ a) (db : Sd G k Γ b) : Sd G k Γ (.ite c a b) where
  E := fun X W0 S g e ch => by
    have c' : iteC (ck (Γ.map (·.1)) c S).T (ck (Γ.map (·.1)) a S).E (ck (Γ.map (·.1)) b S).E e = true := ch
    unfold iteC at c'
    split at c'
    · obtain ⟨c', c3⟩ := ba c'
      obtain ⟨c1, c2⟩ := ba c'
      refine pe_imp (pe_ifExp (dc.T X W0 S g _ c1) (da.E X W0 S g _ c2) (db.E X W0 S g _ c3)) fun σ H Q ⟨B, α, ρ, O, Q0, E0, R, h, hq, hl⟩ => ?_
      refine seqT R h hl fun t O1 f α1 H1 s1 w1 => ?_
      cases t with
      | true => rw [if_pos rfl]; exact ⟨B, α1, ρ, O1, Q0, E0, R.stp s1 w1, f.1 rfl, hq.stp s1, hl.stp s1⟩
      | false => rw [if_neg (by decide)]; exact ⟨B, α1, ρ, O1, Q0, E0, R.stp s1 w1, f.2 rfl, hq.stp s1, hl.stp s1⟩
    · cases c'
  T := fun X W0 S g e c => by cases c
  W := fun X W0 S g op xs p c => by cases c
  A := fun X W0 S g es c => by cases c
  I := fun X W0 S g tg e c => by cases c
  O := fun X W0 S g e c => by cases c
theorem sd_nil : Sd G k Γ .nil where
  E := fun X W0 S g e c => by cases c
  T := fun X W0 S g e c => by cases c
  W := fun X W0 S g op xs p c => by cases c
  A := fun X W0 S g es c => by
    have c' : nilC es = true := c
    unfold nilC at c'
    split at c'
    · exact pa_imp pa_nil fun σ H Q ⟨B, α, ρ, O, Q0, E0, R, h, hq, hl⟩ => hq _ _ h _ _ _ Stp.refl R.own .nil
    · cases c'
  I := fun X W0 S g tg e c => by cases c
  O := fun X W0 S g e c => by cases c
theorem starEach_plain {e : Expr} {es : List Expr} {env : Env} (h : noStar e = true) : starEach (e :: es) env = (false, eval e env) :: starEach es env := by
  cases e <;> first | rfl | cases h
theorem sd_cons {a r : Y} (da : Sd G k Γ a) (dr : Sd G k Γ r) : Sd G k Γ (.cons a r) where
  E := fun X W0 S g e c => by cases c
  T := fun X W0 S g e c => by cases c
  W := fun X W0 S g op xs p c => by cases c
  A := fun X W0 S g es c => by
    have c' : consC (ck (Γ.map (·.1)) a S).E (ck (Γ.map (·.1)) r S).A es = true := c
    unfold consC at c'
    split at c'
    · obtain ⟨c', c3⟩ := ba c'
      obtain ⟨c1, c2⟩ := ba c'
      refine pa_imp (pa_cons (da.E X W0 S g _ c2) (dr.A X W0 S g _ c3) (starEach_plain c1)) fun σ H Q ⟨B, α, ρ, O, Q0, E0, R, h, hq, hl⟩ => ?_
      refine seqE R h hl fun u O1 f α1 v H1 s1 w1 a1 => ?_
      exact seqA (R.stp s1 w1) f (hl.stp s1) fun us O2 f2 α2 vs H2 s2 w2 a2 => hq _ _ f2 _ _ _ (s1.trans s2) w2 (.cons (s2.atU a1) a2)
    · cases c'
  I := fun X W0 S g tg e c => by cases c
  O := fun X W0 S g e c => by cases c
theorem sd_nop : Sd G k Γ .nop where
  E := fun X W0 S g e c => by cases c
  T := fun X W0 S g e c => by cases c
  W := fun X W0 S g op xs p c => by cases c
  A := fun X W0 S g es c => by cases c
  I := fun X W0 S g tg e c => by cases c
  O := fun X W0 S g e c => by
    have c' : nopC e = true := c
    unfold nopC at c'
    split at c'
    · refine po_imp po_none fun σ H Q ⟨B, α, ρ, O, Q0, E0, R, h, hq, hl⟩ => ?_
      obtain ⟨l, h1, h2⟩ := hq _ _ h
      rcases h1 with ⟨_, rfl⟩ | ⟨i, z, _⟩
      · exact h2 _ _ Stp.refl R.own
      · cases z
    · cases c'
theorem sd_sm {a : Y} (da : Sd G k Γ a) : Sd G k Γ (.sm a) where
  E := fun X W0 S g e c => by cases c
  T := fun X W0 S g e c => by cases c
  W := fun X W0 S g op xs p c => by cases c
  A := fun X W0 S g es c => by cases c
  I := fun X W0 S g tg e c => by cases c
  O := fun X W0 S g e c => by
    have c' : smC (ck (Γ.map (·.1)) a S).E e = true := c
    unfold smC at c'
    split at c'
    · refine po_imp (po_some (da.E X W0 S g _ c')) fun σ H Q ⟨B, α, ρ, O, Q0, E0, R, h, hq, hl⟩ => ?_
      refine seqE R h hl fun u O1 f α1 v H1 s1 w1 a1 => ?_
      obtain ⟨l, h1, h2⟩ := hq _ _ f
      rcases h1 with ⟨z, _⟩ | ⟨i, z, rfl⟩
      · cases z
      · cases z
        cases a1 with
        | d a => cases a; exact ⟨i, rfl, h2 _ _ s1 w1⟩
    · cases c'
end
end Z

set_option Elab.async false
set_option linter.all false
set_option maxRecDepth 100000
set_option maxHeartbeats 4000000
namespace Z
open PySem PySem.Spec PyProof.Rows L2
section
variable {G : Gx} {k : Nat} {Γ : List (Fk × ZSp)}
theorem sd_tup {es : Y} (de : Sd G k Γ es) : Sd G k Γ (.tup es) := .ofE _ (fun _ => rfl) fun X W0 S g e c => by
  split at c
  · refine pe_imp (pe_tup (de.A X W0 S g _ c)) fun σ H Q ⟨B, α, ρ, O, Q0, E0, R, h, hq, hl⟩ => ?_
    refine seqA R h hl fun us O1 f α1 vs H1 s1 w1 a1 => ?_
    obtain ⟨ds, e1, z, f⟩ := tosK_of f
    have r := Ats.of w1 a1 e1
    refine ⟨by rw [r.length]; exact z, fun p hp => hq.to f (s1.trans (stp_new hp)) (own_new w1 hp) (.d (At.tupNew w1 hp r))⟩
  · cases c
theorem sd_tupU {es : Y} (de : Sd G k Γ es) : Sd G k Γ (.tupU es) := .ofE _ (fun _ => rfl) fun X W0 S g e c => by
  split at c
  · refine pe_imp (pe_tup (de.A X W0 S g _ c)) fun σ H Q ⟨B, α, ρ, O, Q0, E0, R, h, hq, hl⟩ => ?_
    refine seqA R h hl fun us O1 f α1 vs H1 s1 w1 a1 => ?_
    refine ⟨by rw [a1.length]; exact f.1, fun p hp => hq.to f.2 (s1.trans (stp_new hp)) (own_new w1 hp) (.t upd_same (w1.mu_ne hp) ((stp_new hp).atUs a1))⟩
  · cases c
theorem AtUs.append {B : Addr → Prop} {α : List Addr} {O : List DO} {H : Hp} {K : PySem.W.Frag} : ∀ {vs ws : List V} {us us' : List U}, AtUs K B α O H vs us → AtUs K B α O H ws us' → AtUs K B α O H (vs ++ ws) (us ++ us')
  | _, _, _, _, .nil, s => s
  | _, _, _, _, .cons a r, s => .cons a (AtUs.append r s)
theorem Ats.atUs {B : Addr → Prop} {α : List Addr} {O : List DO} {H : Hp} {K : PySem.W.Frag} : ∀ {vs : List V} {ds : List D}, Ats K (Mu B α O) H vs ds → AtUs K B α O H vs (ds.map .d)
  | _, _, .nil => .nil
  | _, _, .cons a r => .cons (.d a) (Ats.atUs r)
theorem sd_star {a r : Y} (da : Sd G k Γ a) (dr : Sd G k Γ r) : Sd G k Γ (.star a r) where
  E := fun X W0 S g e c => by cases c
  T := fun X W0 S g e c => by cases c
  W := fun X W0 S g op xs p c => by cases c
  A := fun X W0 S g es c => by
    have c' : starC (ck (Γ.map (·.1)) a S).E (ck (Γ.map (·.1)) r S).A es = true := c
    unfold starC at c'
    split at c'
    · obtain ⟨c1, c2⟩ := ba c'
      refine pa_imp (StX.pa_star (da.E X W0 S g _ c1) (dr.A X W0 S g _ c2)) fun σ H Q ⟨B, α, ρ, O, Q0, E0, R, h, hq, hl⟩ => ?_
      refine seqE R h hl fun u O1 f α1 v H1 s1 w1 a1 => ?_
      obtain ⟨x, e1, f⟩ := nrK_of f
      have av := Vw.of w1 a1 e1
      have fin : ∀ {vs : List V} {ds : List D}, Ats G.K (Mu B α1 O1) H1 vs ds → (vc Γ r E0 ρ O1 fun ws O2 => Q0 (ds.map .d ++ ws) O2) → LfA G W0 (vc Γ r) σ H1 fun ws H2 => Q (vs ++ ws) H2 := fun {vs ds} ra f =>
        seqA (R.stp s1 w1) f (hl.stp s1) fun us O2 f2 α2 ws H2 s2 w2 a2 => hq _ _ f2 _ _ _ (s1.trans s2) w2 ((Ats.atUs (s2.ats ra)).append a2)
      cases x with
      | lst ds =>
        obtain ⟨p, vs, rfl, e, ra⟩ := av.lst
        exact ⟨p, vs, rfl, .inr (SqL.of e), fin ra f⟩
      | tup ds =>
        obtain ⟨p, vs, rfl, e, ra⟩ := av.tup
        exact ⟨p, vs, rfl, .inl (SqT.of e), fin ra f⟩
      | _ => exact f.elim
    · cases c'
  I := fun X W0 S g tg e c => by cases c
  O := fun X W0 S g e c => by cases c
theorem newL_to {B : Addr → Prop} {α α1 : List Addr} {O O1 : List DO} {H H1 : Hp} {Q0 : ZQ} {Q : VK} (hq : QLow G B α O H Q0 Q) {own : Bool} {ds : List D} (f : newL own ds O1 Q0) (s1 : Stp α O H α1 O1 H1) (w1 : Own G B α1 O1 H1) {vs : List V} (r : Ats G.K (Mu B α1 O1) H1 vs ds) :
    ∀ p, H1 p = none → Q (.ref p) (upd H1 p (.lst vs)) := fun p hp => by
  cases own with
  | true => exact hq.to f (s1.trans (stp_own w1 hp)) (own_own w1 hp r) (.o (by rw [List.getElem?_append_right (by rw [w1.len]; exact Nat.le_refl _)]; rw [w1.len]; simp))
  | false => exact hq.to f (s1.trans (stp_new hp)) (own_new w1 hp) (.d (At.lstNew w1 hp r))
theorem sd_lst (own : Bool) {es : Y} (de : Sd G k Γ es) : Sd G k Γ (.lst own es) := .ofE _ (fun _ => rfl) fun X W0 S g e c => by
  split at c
  · refine pe_imp (pe_lst (de.A X W0 S g _ c)) fun σ H Q ⟨B, α, ρ, O, Q0, E0, R, h, hq, hl⟩ => ?_
    refine seqA R h hl fun us O1 f α1 vs H1 s1 w1 a1 => ?_
    obtain ⟨ds, e1, z, f⟩ := tosK_of f
    have r := Ats.of w1 a1 e1
    exact ⟨by rw [r.length]; exact z, newL_to hq f s1 w1 r⟩
  · cases c
theorem any_plain {pos : Pos} {env : Env} : ∀ {es : List Expr}, es.all noStar = true → (backTo pos (starEach es env)).any (·.1) = false
  | [], _ => rfl
  | e :: es, h => by
    rw [List.all_cons] at h
    obtain ⟨h1, h2⟩ := ba h
    rw [starEach_plain h1]
    show (false || (backTo pos (starEach es env)).any (·.1)) = false
    rw [any_plain h2]
    rfl
theorem glo_of {X : Cx} {W0 : XK} {S : Sx} (g : Good X G W0 k S Γ) {x : Str} (h : gloB S.sc x = true) : Gl X x := by
  have h' := of_decide_eq_true h
  show X.env.kindOf x = _
  rw [← g.sc] at h'
  exact h'
theorem pass_of {X : Cx} {W0 : XK} (t : Takes X fun c d _ H => W0 c d H) : Passes (L2.CX X.prog X.w) X W0 := passes_call t fun _ _ _ _ h => h
/-- a call by values, run -/
theorem run_fk {X : Cx} {W0 : XK} {f : Addr} {ks : List Str} {sp : Sp} {pins : List (Addr × Obj)} {σ : L2.St} {H : Hp} {s : Shared} {us ws : List Value} {vs zs : List V} {Q : VK} (F : FnRK X.prog X.w X.K X.mg X.base k f ks sp) (hr : Room k X.A) (hx : Passes (L2.CX X.prog X.w) X W0)
    (I : Inv X pins σ H s) (r1 : Vals vs us) (r2 : Vals zs ws) (hl : ws.length = ks.length) (h : sp (vs ++ zs) H Q W0) : wpAny (model X.prog X.w) X.A (call (.ref f) us (ks.zip ws)) (EP X pins σ Q) X.xe s := by
  refine wpAny_call (codeAny_mono (F X.A X.stack s H us ws vs zs Q W0 hr I.env0 r1 r2 hl h) fun r t hq => ?_)
  cases r with
  | error e => exact hx pins σ H s e t I hq
  | ok fl =>
    cases fl with
    | ret u => exact I.after hq
    | next => exact False.elim hq
    | brk => exact False.elim hq
    | cont => exact False.elim hq
theorem sd_call (i : Nat) {es : Y} (de : Sd G k Γ es) : Sd G k Γ (.call i es) := .ofE _ (fun _ => rfl) fun X W0 S g e c => by
  split at c
  · obtain ⟨c, c6⟩ := ba c
    obtain ⟨c, c5⟩ := ba c
    obtain ⟨c, c4⟩ := ba c
    obtain ⟨c, c3⟩ := ba c
    obtain ⟨c1, c2⟩ := ba c
    have c1 := of_decide_eq_true c1
    rw [List.getElem?_map] at c1
    cases q : Γ[i]? with
    | none => rw [q] at c1; cases c1
    | some p =>
      obtain ⟨⟨x, ks⟩, P⟩ := p
      rw [q] at c1
      have c1' := Option.some.inj c1
      cases c1'
      obtain ⟨f, hm, hk, F⟩ := g.fns i _ P q
      refine ⟨fun pins s σ H Q I h => ?_⟩
      obtain ⟨B, α, ρ, O, Q0, E0, R, h, hq, hl⟩ := h
      have hA := seqA (W0 := W0) (t := vc Γ es) R h hl (Q := fun vs H1 => lowSp G P vs H1 Q W0) fun us O1 f α1 vs H1 s1 w1 a1 => by
        simp only [q] at f
        exact call_low w1 a1 f (fun u O' h0 α' v H' s' w' a' => hq.to h0 (s1.trans s') w' a') (hl.stp s1)
      refine wpAny_Call_Name_kw (ld_glob I (glo_of g c2) hm ?_ (okn_of c3).1)
      refine PySem.W.callWith_K (h₀ := X.base) I.ok.mod.kin hk (thn ((de.A X W0 S g _ c6).run _ pins s σ H _ I hA) fun us s1 ⟨vs, H1, I1, r, q1⟩ => ⟨I1.kIn, ?_⟩) (starEach_plain c4) (any_plain c5)
      exact run_fk (ks := []) (ws := []) (zs := []) F g.room (pass_of g.takes) I1 r .nil rfl (by rw [List.append_nil]; exact q1)
  · obtain ⟨c, c4⟩ := ba c
    obtain ⟨c, c3⟩ := ba c
    obtain ⟨c1, c2⟩ := ba c
    have c1 := of_decide_eq_true c1
    have en : es = .nil := by
      cases es <;> first | rfl | cases c4
    subst en
    rw [List.getElem?_map] at c1
    cases q : Γ[i]? with
    | none => rw [q] at c1; cases c1
    | some p =>
      obtain ⟨⟨x, ks⟩, P⟩ := p
      rw [q] at c1
      have c1' := Option.some.inj c1
      cases c1'
      obtain ⟨f, hm, hk, F⟩ := g.fns i _ P q
      refine ⟨fun pins s σ H Q I h => ?_⟩
      obtain ⟨B, α, ρ, O, Q0, E0, R, h, hq, hl⟩ := h
      have f : (match Γ[i]? with
        | some (_, P) => callZ P [] O (fun u O2 => Q0 [u] O2) E0
        | none => False) := h
      simp only [q] at f
      refine wpAny_Call_Name_kw (ld_glob I (glo_of g c2) hm ?_ (okn_of c3).1)
      exact PySem.W.callWith_K0 I.kIn hk (run_fk (ks := []) (ws := []) (vs := []) (us := []) (zs := []) F g.room (pass_of g.takes) I .nil .nil rfl (call_low R.own .nil f (fun u O' h0 α' v H' s' w' a' => hq.to h0 s' w' a') hl))
  · cases c
/-- keywords -/
structure SdK (G : Gx) (k : Nat) (Γ : List (Fk × ZSp)) (z : Y) : Prop where
  K : ∀ X W0 S, Good X G W0 k S Γ → ∀ kws : List Keyword, (ck (Γ.map (·.1)) z S).A (kws.map (·.value)) = true → (kws.all fun k => noStar k.value) = true → PK X kws (LfA G W0 (vc Γ z))
theorem pk_imp {X : Cx} {e : List Keyword} {t t' : TA} (h : PK X e t) (i : ∀ σ H Q, t' σ H Q → t σ H Q) : PK X e t' := ⟨fun pos pins s σ H Q I q => h.run pos pins s σ H Q I (i σ H Q q)⟩
theorem sk_nil : SdK G k Γ .nil := ⟨fun X W0 S g kws c _ => by
  cases kws with
  | nil => exact pk_imp pk_nil fun σ H Q ⟨B, α, ρ, O, Q0, E0, R, h, hq, hl⟩ => hq _ _ h _ _ _ Stp.refl R.own .nil
  | cons _ _ => cases c⟩
theorem sk_cons {a r : Y} (da : Sd G k Γ a) (dr : SdK G k Γ r) : SdK G k Γ (.cons a r) := ⟨fun X W0 S g kws c n => by
  cases kws with
  | nil => cases c
  | cons w kws =>
    obtain ⟨nm, e, kp⟩ := w
    obtain ⟨c', c3⟩ := ba (show (noStar e && (ck (Γ.map (·.1)) a S).E e && (ck (Γ.map (·.1)) r S).A (kws.map (·.value))) = true from c)
    obtain ⟨c1, c2⟩ := ba c'
    rw [List.all_cons] at n
    refine pk_imp (pk_cons (da.E X W0 S g _ c2) (dr.K X W0 S g _ c3 (ba n).2)) fun σ H Q ⟨B, α, ρ, O, Q0, E0, R, h, hq, hl⟩ => ?_
    refine seqE R h hl fun u O1 f α1 v H1 s1 w1 a1 => ?_
    exact seqA (R.stp s1 w1) f (hl.stp s1) fun us O2 f2 α2 vs H2 s2 w2 a2 => hq _ _ f2 _ _ _ (s1.trans s2) w2 (.cons (s2.atU a1) a2)⟩
theorem sk_none {z : Y} (h : ∀ S es, es.all noStar = true → (ck (Γ.map (·.1)) z S).A es = false) : SdK G k Γ z := ⟨fun X W0 S g kws c n => by
  rw [h] at c
  · cases c
  · rw [List.all_map]; exact n⟩
theorem kw_facts {f : List Expr → Bool} {kws : List Keyword} {ks : List Str} {pos : Pos} {env : Env} (c : kwC ks f kws = true) : (backToKw pos (keywordEach kws env)).all (·.1.isSome) = true ∧ (backToKw pos (keywordEach kws env)).filterMap (·.1) = ks ∧ (backToKw pos (keywordEach kws env)).any (·.1.isNone) = false ∧
    f (kws.map (·.value)) = true ∧ (kws.all fun k => noStar k.value) = true := by
  unfold kwC at c
  obtain ⟨c, c4⟩ := ba c
  obtain ⟨c, c3⟩ := ba c
  obtain ⟨c1, c2⟩ := ba c
  have key : ∀ l : List Keyword, (backToKw pos (keywordEach l env)).map (·.1) = l.map (·.arg) := fun l => by
    induction l with
    | nil => rfl
    | cons w l ih =>
      obtain ⟨nm, e, kp⟩ := w
      show nm :: (backToKw pos (keywordEach l env)).map (·.1) = nm :: l.map (·.arg)
      rw [ih]
  refine ⟨?_, ?_, ?_, c3, c4⟩
  · have e : (backToKw pos (keywordEach kws env)).all (·.1.isSome) = ((backToKw pos (keywordEach kws env)).map (·.1)).all (·.isSome) := by rw [List.all_map]; rfl
    rw [e, key, List.all_map]
    exact c1
  · have e : (backToKw pos (keywordEach kws env)).filterMap (·.1) = ((backToKw pos (keywordEach kws env)).map (·.1)).filterMap id := by rw [List.filterMap_map]; rfl
    rw [e, key, List.filterMap_map]
    exact of_decide_eq_true c2
  · have e : (backToKw pos (keywordEach kws env)).any (·.1.isNone) = ((backToKw pos (keywordEach kws env)).map (·.1)).any (·.isNone) := by rw [List.any_map]; rfl
    rw [e, key, List.any_map, Bool.eq_false_iff]
    intro z
    obtain ⟨w, hw, z⟩ := List.any_eq_true.mp z
    have y := List.all_eq_true.mp c1 w hw
    cases q : w.arg with
    | none => rw [q] at y; cases y
    | some _ =>
      have z : w.arg.isNone = true := z
      rw [q] at z; cases z
theorem sd_callk (i : Nat) {es ks : Y} (de : Sd G k Γ es) (dk : SdK G k Γ ks) : Sd G k Γ (.callk i es ks) := .ofE _ (fun _ => rfl) fun X W0 S g e c => by
  split at c
  · obtain ⟨c, c5⟩ := ba c
    obtain ⟨c, c4⟩ := ba c
    obtain ⟨c, c3⟩ := ba c
    obtain ⟨c1, c2⟩ := ba c
    have c1 := of_decide_eq_true c1
    have en : es = .nil := by
      cases es <;> first | rfl | cases c4
    subst en
    rw [List.getElem?_map] at c1
    cases q : Γ[i]? with
    | none => rw [q] at c1; cases c1
    | some p =>
      obtain ⟨⟨x, kn⟩, P⟩ := p
      rw [q] at c1
      obtain ⟨rfl, hkn⟩ := Prod.mk.inj (Option.some.inj c1)
      obtain ⟨f, hm, hk, F⟩ := g.fns i _ P q
      refine ⟨fun pins s σ H Q I h => ?_⟩
      obtain ⟨B, α, ρ, O, Q0, E0, R, h, hq, hl⟩ := h
      have h : vc Γ ks E0 ρ O fun ws O2 => (match Γ[i]? with
        | some (x, P) => ws.length = x.2.length ∧ callZ P ([] ++ ws) O2 (fun u O3 => Q0 [u] O3) E0
        | none => False) := h
      have kf := fun pos env => kw_facts (pos := pos) (env := env) c5
      have hA := seqA (W0 := W0) (t := vc Γ ks) R h hl (Q := fun vs H1 => vs.length = kn.length ∧ lowSp G P vs H1 Q W0) fun us O1 f α1 vs H1 s1 w1 a1 => by
        simp only [q] at f
        exact ⟨by rw [a1.length]; exact f.1, call_low w1 a1 f.2 (fun u O' h0 α' v H' s' w' a' => hq.to h0 (s1.trans s') w' a') (hl.stp s1)⟩
      refine wpAny_Call_Name_kw (ld_glob I (glo_of g c2) hm ?_ (okn_of c3).1)
      refine PySem.W.callWith_KW0 (h₀ := X.base) I.ok.mod.kin hk (kf _ _).1 (thn ((dk.K X W0 S g _ (kf ⟨0, 0, 0, 0⟩ X.env).2.2.2.1 (kf ⟨0, 0, 0, 0⟩ X.env).2.2.2.2).run _ pins s σ H _ I hA) fun ws s1 ⟨zs, H1, I1, rz, hn, q1⟩ => ⟨I1.kIn, ?_⟩) (by rw [(kf _ _).2.2.1]; rfl)
      rw [(kf _ _).2.1, ← hkn]
      exact run_fk (us := []) (vs := []) F g.room (pass_of g.takes) I1 .nil rz (by rw [← rz.length]; exact hn) q1
  · obtain ⟨c, c7⟩ := ba c
    obtain ⟨c, c6⟩ := ba c
    obtain ⟨c, c5⟩ := ba c
    obtain ⟨c, c4⟩ := ba c
    obtain ⟨c, c3⟩ := ba c
    obtain ⟨c1, c2⟩ := ba c
    have c1 := of_decide_eq_true c1
    rw [List.getElem?_map] at c1
    cases q : Γ[i]? with
    | none => rw [q] at c1; cases c1
    | some p =>
      obtain ⟨⟨x, kn⟩, P⟩ := p
      rw [q] at c1
      obtain ⟨rfl, hkn⟩ := Prod.mk.inj (Option.some.inj c1)
      obtain ⟨f, hm, hk, F⟩ := g.fns i _ P q
      refine ⟨fun pins s σ H Q I h => ?_⟩
      obtain ⟨B, α, ρ, O, Q0, E0, R, h, hq, hl⟩ := h
      have kf := fun pos env => kw_facts (pos := pos) (env := env) c7
      have hA := seqA (W0 := W0) (t := vc Γ es) R h hl (Q := fun vs H1 => LfA G W0 (vc Γ ks) σ H1 fun ws H2 => ws.length = kn.length ∧ lowSp G P (vs ++ ws) H2 Q W0) fun us O1 f α1 vs H1 s1 w1 a1 => by
        refine seqA (W0 := W0) (t := vc Γ ks) (R.stp s1 w1) f (hl.stp s1) fun ws O2 f α2 vz H2 s2 w2 a2 => ?_
        simp only [q] at f
        exact ⟨by rw [a2.length]; exact f.1, call_low w2 ((s2.atUs a1).append a2) f.2 (fun u O' h0 α' v H' s' w' a' => hq.to h0 ((s1.trans s2).trans s') w' a') ((hl.stp s1).stp s2)⟩
      refine wpAny_Call_Name_kw (ld_glob I (glo_of g c2) hm ?_ (okn_of c3).1)
      refine PySem.W.callWith_KW (h₀ := X.base) I.ok.mod.kin hk (kf _ _).1 (thn ((de.A X W0 S g _ c6).run _ pins s σ H _ I hA) fun us s1 ⟨vs, H1, I1, r, q1⟩ => ?_) (by rw [(kf _ _).2.2.1, starEach_plain c4]; exact Bool.or_eq_false_iff.mpr ⟨any_plain (es := _ :: _) (by rw [List.all_cons, c4, c5]; rfl) |> fun z => by rw [starEach_plain c4] at z; exact z, rfl⟩) (starEach_plain c4)
      refine thn ((dk.K X W0 S g _ (kf ⟨0, 0, 0, 0⟩ X.env).2.2.2.1 (kf ⟨0, 0, 0, 0⟩ X.env).2.2.2.2).run _ pins s1 σ H1 _ I1 q1) fun ws s2 ⟨zs, H2, I2, rz, hn, q2⟩ => ⟨I2.kIn, ?_⟩
      rw [(kf _ _).2.1, ← hkn]
      exact run_fk F g.room (pass_of g.takes) I2 r rz (by rw [← rz.length]; exact hn) q2
  · cases c
theorem nrs_of {B : Addr → Prop} {α : List Addr} {O : List DO} {H : Hp} (w : Own G B α O H) : ∀ {us : List U} {vs : List V} {ds : List D}, AtUs G.K B α O H vs us → nrs O us = some ds → Paired (Vw G.K (Mu B α O) H) vs ds
  | [], _, _, .nil, e => by cases e; exact .nil
  | u :: us, _, _, .cons a r, e => by
    rw [nrs] at e
    cases h1 : nrm O u with
    | none => rw [h1] at e; cases e
    | some d =>
      rw [h1] at e
      cases h2 : nrs O us with
      | none => rw [h2] at e; cases e
      | some ds =>
        rw [h2] at e
        cases e
        exact .cons (Vw.of w a h1) (nrs_of w r h2)
theorem bf_free (f : BF) : f.name ∈ bnames := by cases f <;> decide
theorem blt_pe {X : Cx} {W0 : XK} {S : Sx} (g : Good X G W0 k S Γ) (f : BF) {t : TA} {e : Expr} {es : List Expr} {p pos : Pos} (hg : Gl X f.name) (ha : PA X (e :: es) t) (h1 : noStar e = true) (h2 : es.all noStar = true) : PE X (.Call (.Name f.name p) (e :: es) [] pos) (tCB (rL G f.op) t) := by
  have hm := g.free _ (bf_free f)
  have hs := @starEach_plain e es X.env h1
  have hp := @any_plain pos X.env es h2
  cases f with
  | len => exact pe_callB (cb_len g.hK) hg hm (by decide +kernel) ha (by decide) (by decide) hs hp
  | abs => exact pe_callB (cb_abs g.hK) hg hm (by decide +kernel) ha (by decide) (by decide) hs hp
  | int => exact pe_callTy (cb_int g.hK) hg hm (by decide +kernel) ha (by decide) (by decide) hs hp
  | list => exact pe_callTy (cb_list g.hK) hg hm (by decide +kernel) ha (by decide) (by decide) hs hp
  | tuple => exact pe_callTy (cb_tuple g.hK) hg hm (by decide +kernel) ha (by decide) (by decide) hs hp
  | sum => exact pe_callB (cb_sum g.hK g.calm) hg hm (by decide +kernel) ha (by decide) (by decide) hs hp
  | all => exact pe_callB (cb_all g.hK g.calm) hg hm (by decide +kernel) ha (by decide) (by decide) hs hp
  | any => exact pe_callB (cb_any g.hK g.calm) hg hm (by decide +kernel) ha (by decide) (by decide) hs hp
  | min => exact pe_callB (cb_min g.hK g.calm) hg hm (by decide +kernel) ha (by decide) (by decide) hs hp
  | str => exact pe_callTy (cb_str g.hK) hg hm (by decide +kernel) ha (by decide) (by decide) hs hp
  | bool => exact pe_callTy (cb_bool g.hK) hg hm (by decide +kernel) ha (by decide) (by decide) hs hp
  | max => exact pe_callB (cb_max g.hK g.calm) hg hm (by decide +kernel) ha (by decide) (by decide) hs hp
theorem sd_blt (f : BF) {es : Y} (de : Sd G k Γ es) : Sd G k Γ (.blt f es) := .ofE _ (fun _ => rfl) fun X W0 S g e c => by
  split at c
  · obtain ⟨c, c6⟩ := ba c
    obtain ⟨c, c5⟩ := ba c
    obtain ⟨c, c4⟩ := ba c
    obtain ⟨c1, c2⟩ := ba c
    cases of_decide_eq_true c1
    refine pe_imp (blt_pe g f (glo_of g c2) (de.A X W0 S g _ c6) c4 c5) fun σ H Q ⟨B, α, ρ, O, Q0, E0, R, h, hq, hl⟩ => ?_
    refine seqA R h hl fun us O1 f1 α1 vs H1 s1 w1 a1 => ?_
    obtain ⟨ds, e1, f1⟩ := nrsK_of f1
    exact ⟨B, α1, O1, ds, _, w1, nrs_of w1 a1 e1, f1, fun z q v' H' s' w' a' => hq.to q (s1.trans s') w' (.d a')⟩
  · cases c
theorem pa_one {X : Cx} {e : Expr} {te : TE} (h : PE X e te) (c : noStar e = true) : PA X [e] (tCons te tNil) := pa_cons h pa_nil (starEach_plain c)
theorem pa_two {X : Cx} {e f : Expr} {te tf : TE} (h : PE X e te) (h2 : PE X f tf) (c : noStar e = true) (c2 : noStar f = true) : PA X [e, f] (tCons te (tCons tf tNil)) := pa_cons h (pa_one h2 c2) (starEach_plain c)
theorem base_of {o : Expr} {m : Str} {env : Env} (h : plainO o = true) : attributeBase o m env (eval o env) = eval o env := by
  cases o <;> first | rfl | cases h
theorem sd_app {r z : Y} (dr : Sd G k Γ r) (dz : Sd G k Γ z) : Sd G k Γ (.app r z) := .ofE _ (fun _ => rfl) fun X W0 S g e c => by
  split at c
  · rename_i o m ap e cp
    obtain ⟨c, c6⟩ := ba c
    obtain ⟨c, c5⟩ := ba c
    obtain ⟨c, c4⟩ := ba c
    obtain ⟨c, c3⟩ := ba c
    obtain ⟨c1, c2⟩ := ba c
    cases of_decide_eq_true c2
    have hs := @starEach_plain e [] X.env c4
    refine pe_imp (pe_bm PySem.F.plainAttrs_list PySem.F.slot_list_append PySem.F.type_list_append mt_append (dr.E X W0 S g _ c5) (pa_one (dz.E X W0 S g _ c6) c4) (base_of c3) (by rw [hs]; rfl) c1 hs (by rfl)) fun σ H Q ⟨B, α, ρ, O, Q0, E0, R, h, hq, hl⟩ => ?_
    refine seqE R h hl fun u O0 h' α0 v0 H0 s0 w0 a0 => ?_
    cases u with
    | d _ => exact h'.elim
    | t _ => exact h'.elim
    | l _ => exact h'.elim
    | o k =>
      cases a0 with
      | @o _ a ek =>
      refine ⟨.inl ⟨rfl, ?_⟩, ?_⟩
      · have hk : k < O0.length := by rw [← w0.len]; exact (List.getElem?_eq_some_iff.mp ek).1
        have ho := w0.at_ k a _ ek (List.getElem?_eq_getElem hk)
        cases qo : O0[k] with
        | lst ds => rw [qo] at ho; obtain ⟨vs, e2, _⟩ := ho; exact ⟨vs, SqL.of e2⟩
        | brw ds => rw [qo] at ho; obtain ⟨vs, e2, _⟩ := ho; exact ⟨vs, SqL.of e2⟩
        | frz ds =>
          rw [qo] at ho
          cases (show At G.K (Mu B α0 O0) H0 (.ref a) (.lst ds) from ho) with
          | lst e2 _ _ => exact ⟨_, SqL.of e2⟩
      · refine seqE (R.stp s0 w0) h' (hl.stp s0) fun u O1 f α1 v H1 s1 w1 a1 => ?_
        obtain ⟨x, e3, f⟩ := toK_of f
        have ax := At.of w1 a1 e3
        rw [go_eq] at f
        cases qo : O1[k]? with
        | none => rw [qo] at f; exact f.elim
        | some o =>
          rw [qo] at f
          cases o with
          | frz _ => exact f.elim
          | brw _ => exact f.elim
          | lst ds =>
            have ek1 := s1.idx ek
            obtain ⟨vs, e4, r4⟩ := w1.at_ k a _ ek1 qo
            refine ⟨a, vs, v, rfl, rfl, e4, by rw [r4.length]; exact f.1, ?_⟩
            have f2 := f.2
            rw [so_eq] at f2
            exact hq.to f2 ((s0.trans s1).trans (stp_set ek1 qo rfl)) (own_set w1 ek1 qo (r4.append (.cons ax .nil))) (.d .non)
  · cases c
theorem sd_lnt {z : Y} (dz : Sd G k Γ z) : Sd G k Γ (.lnt z) := .ofE _ (fun _ => rfl) fun X W0 S g e c => by
  split at c
  · obtain ⟨c, c4⟩ := ba c
    obtain ⟨c, c3⟩ := ba c
    obtain ⟨c1, c2⟩ := ba c
    cases of_decide_eq_true c1
    refine pe_imp (pe_callB call_len_seq (glo_of g c2) (g.free "len" (by decide)) (by decide +kernel) (pa_one (dz.E X W0 S g _ c4) c3) (by decide) (by decide) (starEach_plain c3) rfl) fun σ H Q ⟨B, α, ρ, O, Q0, E0, R, h, hq, hl⟩ => ?_
    refine seqE R h hl fun u O1 f α1 v H1 s1 w1 a1 => ?_
    cases u with
    | d _ => exact f.elim
    | o _ => exact f.elim
    | l _ => exact f.elim
    | t us =>
      cases a1 with
      | @t a vs _ e m r =>
      refine ⟨a, vs, rfl, .inr (SqT.of e), ?_⟩
      rw [r.length]
      exact hq.to f s1 w1 (.d (.int _))
  · cases c
theorem sd_ins {r i z : Y} (dr : Sd G k Γ r) (di : Sd G k Γ i) (dz : Sd G k Γ z) : Sd G k Γ (.ins r i z) := .ofE _ (fun _ => rfl) fun X W0 S g e c => by
  split at c
  · rename_i o m ap x e cp
    obtain ⟨c, c8⟩ := ba c
    obtain ⟨c, c7⟩ := ba c
    obtain ⟨c, c6⟩ := ba c
    obtain ⟨c, c5⟩ := ba c
    obtain ⟨c, c4⟩ := ba c
    obtain ⟨c, c3⟩ := ba c
    obtain ⟨c1, c2⟩ := ba c
    cases of_decide_eq_true c2
    have hs := @starEach_plain x [e] X.env c4
    have hs2 := @starEach_plain e [] X.env c5
    refine pe_imp (pe_bm PySem.F.plainAttrs_list PySem.F.slot_list_insert PySem.F.type_list_insert mt_insert (dr.E X W0 S g _ c6) (pa_two (di.E X W0 S g _ c7) (dz.E X W0 S g _ c8) c4 c5) (base_of c3) (by rw [hs, hs2]; rfl) c1 hs (by rw [hs2]; rfl)) fun σ H Q ⟨B, α, ρ, O, Q0, E0, R, h, hq, hl⟩ => ?_
    refine seqE R h hl fun u O0 h' α0 v0 H0 s0 w0 a0 => ?_
    cases u with
    | d _ => exact h'.elim
    | t _ => exact h'.elim
    | l _ => exact h'.elim
    | o k =>
      cases a0 with
      | @o _ a ek =>
      refine ⟨.inl ⟨rfl, ?_⟩, ?_⟩
      · have hk : k < O0.length := by rw [← w0.len]; exact (List.getElem?_eq_some_iff.mp ek).1
        have ho := w0.at_ k a _ ek (List.getElem?_eq_getElem hk)
        cases qo : O0[k] with
        | lst ds => rw [qo] at ho; obtain ⟨vs, e2, _⟩ := ho; exact ⟨vs, SqL.of e2⟩
        | brw ds => rw [qo] at ho; obtain ⟨vs, e2, _⟩ := ho; exact ⟨vs, SqL.of e2⟩
        | frz ds =>
          rw [qo] at ho
          cases (show At G.K (Mu B α0 O0) H0 (.ref a) (.lst ds) from ho) with
          | lst e2 _ _ => exact ⟨_, SqL.of e2⟩
      · refine seqE (R.stp s0 w0) h' (hl.stp s0) fun u O1 f α1 v H1 s1 w1 a1 => ?_
        refine seqE ((R.stp s0 w0).stp s1 w1) f ((hl.stp s0).stp s1) fun y O2 f α2 v2 H2 s2 w2 a2 => ?_
        obtain ⟨x2, e3, f⟩ := toK_of f
        have ax := At.of w2 a2 e3
        rw [go_eq] at f
        cases qo : O2[k]? with
        | none => rw [qo] at f; exact f.elim
        | some o =>
          rw [qo] at f
          cases o with
          | frz _ => exact f.elim
          | brw _ => exact f.elim
          | lst ds =>
            cases u with
            | o _ => exact f.elim
            | t _ => exact f.elim
            | l _ => exact f.elim
            | d d0 =>
              cases d0 with
              | int j =>
                cases a1 with
                | d a1 =>
                cases a1
                obtain ⟨⟨f1, f2, f3⟩, f4⟩ := f
                have ek2 := (s1.trans s2).idx ek
                obtain ⟨vs, e4, r4⟩ := w2.at_ k a _ ek2 qo
                refine ⟨a, vs, j, v2, rfl, rfl, e4, by rw [r4.length]; exact f1, f2, f3, ?_⟩
                rw [so_eq] at f4
                exact hq.to f4 ((s0.trans (s1.trans s2)).trans (stp_set ek2 qo rfl)) (own_set w2 ek2 qo (((r4.take j.toNat).append (.cons ax .nil)).append (r4.drop j.toNat))) (.d .non)
              | _ => exact f.elim
  · cases c
theorem sd_fz {z : Y} (dz : Sd G k Γ z) : Sd G k Γ (.fz z) := .ofE _ (fun _ => rfl) fun X W0 S g e c => by
  refine pe_imp (dz.E X W0 S g e c) fun σ H Q ⟨B, α, ρ, O, Q0, E0, R, h, hq, hl⟩ => ?_
  refine seqE R h hl fun u O1 f α1 v H1 s1 w1 a1 => ?_
  cases u with
  | d x => exact hq.to f s1 w1 a1
  | t x => exact hq.to f s1 w1 a1
  | l x => exact hq.to f s1 w1 a1
  | o k =>
    have f' : (match go O1 k with
      | some (.lst ds) => Q0 [.d (.lst ds)] (so O1 k (.frz ds))
      | _ => False) := f
    rw [go_eq] at f'
    cases qo : O1[k]? with
    | none => rw [qo] at f'; exact f'.elim
    | some o =>
      rw [qo] at f'
      cases o with
      | frz _ => exact f'.elim
      | brw _ => exact f'.elim
      | lst ds =>
        have f2 : Q0 [.d (.lst ds)] (so O1 k (.frz ds)) := f'
        rw [so_eq] at f2
        cases a1 with
        | @o _ a ek =>
        exact hq.to f2 (s1.trans (stp_frz qo rfl)) (own_frz w1 qo) (.d (by
          have h := (own_frz w1 qo).at_ k a (.frz ds) ek (by rw [List.getElem?_set_self (by exact (List.getElem?_eq_some_iff.mp qo).1)])
          exact h))
theorem sd_lis {z : Y} (dz : Sd G k Γ z) : Sd G k Γ (.lis z) := .ofE _ (fun _ => rfl) fun X W0 S g e c => by
  split at c
  · obtain ⟨c, c4⟩ := ba c
    obtain ⟨c, c3⟩ := ba c
    obtain ⟨c1, c2⟩ := ba c
    cases of_decide_eq_true c1
    refine pe_imp (pe_callTy call_list_of (glo_of g c2) (g.free _ (bf_free .list)) (by decide +kernel) (pa_one (dz.E X W0 S g _ c4) c3) (by decide) (by decide) (starEach_plain c3) rfl) fun σ H Q ⟨B, α, ρ, O, Q0, E0, R, h, hq, hl⟩ => ?_
    refine seqE R h hl fun u O1 f α1 v H1 s1 w1 a1 => ?_
    obtain ⟨x, e1, f⟩ := nrK_of f
    have av := Vw.of w1 a1 e1
    unfold listD at f
    split at f
    · rename_i h0
      cases h0
      obtain ⟨p, ws, rfl, e, r⟩ := av.lst
      exact ⟨_, _, rfl, .inl (SqL.of e), newL_to hq f s1 w1 r⟩
    · rename_i h0
      cases h0
      obtain ⟨p, ws, rfl, e, r⟩ := av.tup
      exact ⟨_, _, rfl, .inr (SqT.of e), newL_to hq f s1 w1 r⟩
    · rename_i h0
      cases h0
      obtain ⟨p, rfl, e⟩ := av.scr
      exact ⟨_, _, rfl, .inl (by rw [g.hK]; exact e), newL_to hq f s1 w1 (Ats.ints _)⟩
    · exact f.elim
  · cases c
theorem sd_sml {z : Y} (dz : Sd G k Γ z) : Sd G k Γ (.sml z) := .ofE _ (fun _ => rfl) fun X W0 S g e c => by
  split at c
  · obtain ⟨c, c4⟩ := ba c
    obtain ⟨c, c3⟩ := ba c
    obtain ⟨c1, c2⟩ := ba c
    cases of_decide_eq_true c1
    refine pe_imp (pe_callB (cr_sumL g.calm) (glo_of g c2) (g.free _ (bf_free .sum)) (by decide +kernel) (pa_two (dz.E X W0 S g _ c4) (pe_lst pa_nil) c3 rfl) (by decide) (by decide) (starEach_plain c3) rfl) fun σ H Q ⟨B, α, ρ, O, Q0, E0, R, h, hq, hl⟩ => ?_
    refine seqE R h hl fun u O1 f α1 v H1 s1 w1 a1 => ?_
    obtain ⟨x, e1, f⟩ := nrK_of f
    have av := Vw.of w1 a1 e1
    cases x with
    | lst ds =>
      obtain ⟨xss, rfl, hz, f⟩ := f
      obtain ⟨p, ws, rfl, e, r⟩ := av.lst
      obtain ⟨as, yss, rfl, h1, h2⟩ := ats_lsts r
      have hl2 : as.length = xss.length := (paired_len h1).trans (paired_len h2)
      refine ⟨Nat.zero_le _, fun b hb => ?_⟩
      have ne : ∀ {c : Addr} {o : HO}, H1 c = some o → upd H1 b (.lst []) c = some o := fun q => by rw [upd_ne (ne_of_none q hb)]; exact q
      have w2 := own_new (o := .lst []) w1 hb
      have s2 := s1.trans (stp_new (O := O1) (α := α1) (o := .lst []) hb)
      refine ⟨p, b, as, yss, [], rfl, ne e, paired_map h1 fun _ _ q => ne q, upd_same, by rw [List.length_nil, Nat.zero_add, ats_flen h2]; exact hz, fun q => ?_, fun p2 hp2 => ?_⟩
      · rw [flat_none fun k hk => ats_emp h2 (q k (by omega))] at f
        exact hq.to f s2 w2 (.d (At.lstNew w1 hb .nil))
      · rw [List.nil_append]
        exact hq.to f (s2.trans (stp_new hp2)) (own_new w2 hp2) (.d (At.lstNew w2 hp2 ((stp_new hb).ats (ats_flat h2))))
    | _ => exact f.elim
  · cases c
theorem sd_rep {a b : Y} (da : Sd G k Γ a) (db : Sd G k Γ b) : Sd G k Γ (.rep a b) := .ofE _ (fun _ => rfl) fun X W0 S g e c => by
  split at c
  · obtain ⟨c2, c3⟩ := ba c
    refine pe_imp (pe_op op_rep (da.E X W0 S g _ c2) (db.E X W0 S g _ c3)) fun σ H Q ⟨B, α, ρ, O, Q0, E0, R, h, hq, hl⟩ => ?_
    refine seq2 R h hl fun u w O2 f α2 v v2 H2 s2 w2 a1 a2 => ?_
    obtain ⟨x, e1, f⟩ := nrK_of f
    obtain ⟨y, e2, f⟩ := nrK_of f
    have ax := Vw.of w2 a1 e1
    have ay := Vw.of w2 a2 e2
    unfold mulD at f
    split at f
    · exact f.2.elim
    · obtain ⟨p, vs, rfl, e, r⟩ := ax.lst
      obtain rfl := ay.int
      exact ⟨p, _, vs, rfl, rfl, e, f.1.1, f.1.2.1, by rw [r.length]; exact f.1.2.2, newL_to hq f.2 s2 w2 (ats_rep r _)⟩
    · exact f.2.elim
    · exact f.elim
  · cases c
theorem tyU_of {B : Addr → Prop} {α : List Addr} {O : List DO} {H : Hp} {u : U} {v : V} {t : String} (w : Own G B α O H) (a : AtU G.K B α O H v u) (h : tyU O u = some t) : TyX G.K H v (.type t) := by
  cases u with
  | d x =>
    cases a with
    | d a =>
      cases a with
      | non => cases h; exact .base .non
      | bl b => cases h; exact .base (.bl b)
      | int b => cases h; exact .base (.int b)
      | str b => cases h; exact .base (.str b)
      | tup e m r => cases h; exact .base (.tup e)
      | lst e m r => cases h; exact .base (.lst e)
      | dct e => cases h; exact .base (.dK e)
      | obj => cases h
      | scr e m => cases h
      | scrK e => cases h
  | o k =>
    have h' : (match go O k with
      | some _ => some "list"
      | none => none) = some t := h
    rw [go_eq] at h'
    cases a with
    | @o _ p ek =>
    cases q : O[k]? with
    | none => rw [q] at h'; cases h'
    | some o =>
      rw [q] at h'
      cases h'
      have ho := w.at_ k p o ek q
      cases o with
      | lst ds => obtain ⟨vs, e, _⟩ := ho; exact .base (.lst e)
      | brw ds => obtain ⟨vs, e, _⟩ := ho; exact .base (.lst e)
      | frz ds =>
        cases (show At G.K (Mu B α O) H (.ref p) (.lst ds) from ho) with
        | lst e2 _ _ => exact .base (.lst e2)
  | t us => cases a with
    | t e m r => cases h; exact .base (.tup e)
  | l us => cases a with
    | l e m r => cases h; exact .base (.lst e)
theorem bt_of {n : String} (h : ["int", "bool", "str", "list", "tuple", "dict"].contains n = true) : Str.ofString n ∈ bnames ∧ bootBuiltins (Str.ofString n) = some (.type n) ∧ Str.ofString n ≠ "__name__" ∧ (Str.ofString n == ("__debug__" : Str)) = false := by
  rw [List.contains_iff_mem] at h
  simp only [List.mem_cons, List.not_mem_nil, or_false] at h
  rcases h with rfl | rfl | rfl | rfl | rfl | rfl <;> exact ⟨by decide, by decide +kernel, by decide, by decide⟩
def tTy (n : String) : TE := fun _ H Q => Q (.ty n) H
theorem pe_tyN {X : Cx} {x : Str} {p : Pos} {n : String} (hg : Gl X x) (hm : X.mg x = none) (hv : bootBuiltins x = some (.type n)) (hn : x ≠ "__name__") (hdb : (x == ("__debug__" : Str)) = false) : PE X (.Name x p) (tTy n) :=
  ⟨fun pins s σ H Q I h => ld_blt I hg hm hv ⟨.ty n, H, I, rfl, h⟩ hn hdb⟩
theorem pe_tyB {X : Cx} {W0 : XK} {S : Sx} (g : Good X G W0 k S Γ) {t : Str} {n : String} {p : Pos} (h : tyB S.sc t n = true) : PE X (.Name t p) (tTy n) := by
  obtain ⟨h, h3⟩ := ba h
  obtain ⟨h1, h2⟩ := ba h
  cases of_decide_eq_true h1
  obtain ⟨a, b, c, d⟩ := bt_of h3
  exact pe_tyN (glo_of g h2) (g.free _ a) b c d
def tTys (ns : List String) : TA := fun _ H Q => Q (ns.map .ty) H
theorem pa_tys {X : Cx} {W0 : XK} {S : Sx} (g : Good X G W0 k S Γ) : ∀ {ts : List Expr} {ns : List String}, tysB S.sc ts ns = true → PA X ts (tTys ns)
  | [], [], _ => pa_imp pa_nil fun _ _ _ h => h
  | [], _ :: _, h => by cases h
  | .Name t p :: ts, [], h => by cases h
  | .Name t p :: ts, n :: ns, h => by
    obtain ⟨h1, h2⟩ := ba h
    exact pa_imp (pa_cons (pe_tyB g h1) (pa_tys g h2)) fun σ H Q h => h
theorem isiB_any {K : PySem.W.Frag} {t : String} : ∀ {cs : List String} {b : Bool}, isiB t cs = some b → PySem.W.kitAny K (.type t) (cs.map Value.type) = some b
  | [], b, h => h
  | c :: cs, b, h => by
    rw [isiB] at h
    cases q : kitB t c with
    | none => rw [q] at h; cases h
    | some r =>
      rw [q] at h
      cases r with
      | true => exact kitAny_cons (kit_ty q) (fun z => by cases z) (fun _ => by cases h; rfl)
      | false => exact kitAny_cons (kit_ty q) (fun _ => isiB_any h) (fun z => by cases z)
theorem paired_ty : ∀ (cs : List String), Paired ClsV (cs.map V.ty) (cs.map Value.type)
  | [] => .nil
  | c :: cs => .cons (.ty c) (paired_ty cs)
theorem sd_isi {a : Y} (cs : List String) (da : Sd G k Γ a) : Sd G k Γ (.isi a cs) := .ofE _ (fun _ => rfl) fun X W0 S g e c => by
  split at c
  · rename_i x tc _
    obtain ⟨c, c7⟩ := ba c
    obtain ⟨c, c6⟩ := ba c
    obtain ⟨c, c5⟩ := ba c
    obtain ⟨c, c4⟩ := ba c
    obtain ⟨c, c3⟩ := ba c
    obtain ⟨c1, c2⟩ := ba c
    cases of_decide_eq_true c1
    have hz : cs.length ≤ sizeLine := Nat.le_trans (of_decide_eq_true c7) (by decide)
    have hm := g.free "isinstance" (by decide)
    have key : ∀ {σ : L2.St} {H : Hp} {F : V → Hp → Prop} {Q : VK} {B : Addr → Prop} {α : List Addr} {ρ : List (Option U)} {O : List DO} {Q0 : ZQ} {E0 : ZX}, Rep G B α σ H ρ O → vc Γ (.isi a cs) E0 ρ O Q0 → QLow G B α O H Q0 Q → ELow G B W0 α O H E0 →
        (∀ v α1 O1 H1 u t b, Own G B α1 O1 H1 → AtU G.K B α1 O1 H1 v u → tyU O1 u = some t → isiB t cs = some b → (∀ H2, Stp α1 O1 H1 α1 O1 H2 → Own G B α1 O1 H2 → Q (.bl b) H2) → F v H1) → LfE G W0 (vc Γ a) σ H F := by
      intro σ H F Q B α ρ O Q0 E0 R h hq hl kk
      refine seqE R h hl fun u O1 f α1 v H1 s1 w1 a1 => ?_
      cases q : tyU O1 u with
      | none => rw [q] at f; exact f.elim
      | some t =>
        rw [q] at f
        obtain ⟨b, e, f⟩ := f
        exact kk v α1 O1 H1 u t b w1 a1 q e fun H2 s2 w2 => hq.to f (s1.trans s2) w2 (.d (.bl _))
    cases tc with
    | Name t p =>
      match cs, c6 with
      | [n], c6 =>
        have c6' : tyB S.sc t n = true := c6
        refine pe_imp (pe_callB call_isi (glo_of g c2) hm (by decide +kernel) (pa_two (da.E X W0 S g _ c5) (pe_tyB g c6') c3 rfl) (by decide) (by decide) (starEach_plain c3) rfl) fun σ H Q ⟨B, α, ρ, O, Q0, E0, R, h, hq, hl⟩ => ?_
        refine key R h hq hl fun v α1 O1 H1 u t b w1 a1 e1 e2 q => ?_
        have e3 := isiB_any (K := X.K) e2
        refine ⟨v, .ty n, .type t, .type n, b, rfl, .ty n, by rw [g.hK]; exact tyU_of w1 a1 e1, ?_, q H1 Stp.refl w1⟩
        rw [isiB] at e2
        cases qk : kitB t n with
        | none => rw [qk] at e2; cases e2
        | some r =>
          rw [qk] at e2
          cases r with
          | true => cases e2; exact kit_ty qk
          | false => cases e2; exact kit_ty qk
      | [], c6 => cases c6
      | _ :: _ :: _, c6 => cases c6
    | Tuple ts m p =>
      have c6' : tysB S.sc ts cs = true := by
        unfold isiC at c6
        exact c6
      refine pe_imp (pe_callB call_isiT (glo_of g c2) hm (by decide +kernel) (pa_two (da.E X W0 S g _ c5) (pe_tup (pa_tys g c6')) c3 rfl) (by decide) (by decide) (starEach_plain c3) rfl) fun σ H Q ⟨B, α, ρ, O, Q0, E0, R, h, hq, hl⟩ => ?_
      refine key R h hq hl fun v α1 O1 H1 u t b w1 a1 e1 e2 q => ?_
      refine ⟨by rw [List.length_map]; exact hz, fun p hp => ?_⟩
      have s := stp_new (α := α1) (O := O1) (o := .tup (cs.map V.ty)) hp
      have w2 := own_new (o := .tup (cs.map V.ty)) w1 hp
      exact ⟨v, p, cs.map V.ty, .type t, cs.map Value.type, b, rfl, upd_same, paired_ty cs, by rw [g.hK]; exact tyU_of w2 (s.atU a1) e1, isiB_any e2, q _ s w2⟩
    | _ => cases c6
  · cases c
theorem plainIx_of {b : Expr} (h : noSlice b = true) : PlainIx b := by
  intro o i
  cases b <;> first | rfl | cases h
def rIxU (K : PySem.W.Frag) : R2 := rIxT K
theorem AtUs.get {B : Addr → Prop} {α : List Addr} {O : List DO} {H : Hp} {K : PySem.W.Frag} : ∀ {vs : List V} {us : List U} {i : Nat} {u : U}, AtUs K B α O H vs us → us[i]? = some u → ∃ v, vs[i]? = some v ∧ AtU K B α O H v u
  | _, _, _, _, .nil, e => by simp at e
  | _, _, 0, _, .cons a _, e => by simp at e; subst e; exact ⟨_, rfl, a⟩
  | _, _, i + 1, v, .cons _ r, e => by
    obtain ⟨d, h1, h2⟩ := AtUs.get (i := i) (u := v) r (by simpa using e)
    exact ⟨d, by simpa using h1, h2⟩
theorem AtUs.atI {B : Addr → Prop} {α : List Addr} {O : List DO} {H : Hp} {K : PySem.W.Frag} {vs : List V} {us : List U} (r : AtUs K B α O H vs us) {i : Int} {u : U} (e : L2.atI us i = some u) : ∃ v, L2.atI vs i = some v ∧ AtU K B α O H v u := by
  unfold L2.atI at e ⊢
  rw [r.length]
  cases q : ixN us.length i with
  | none => rw [q] at e; cases e
  | some j =>
    rw [q] at e
    exact AtUs.get r e
theorem sd_ix {a b : Y} (da : Sd G k Γ a) (db : Sd G k Γ b) : Sd G k Γ (.ix a b) := .ofE _ (fun _ => rfl) fun X W0 S g e c => by
  split at c
  · obtain ⟨c, c3⟩ := ba c
    obtain ⟨c1, c2⟩ := ba c
    refine pe_imp (pe_ix (.or (ix_r g.hK) (.or ix_tup ix_list)) (da.E X W0 S g _ c1) (db.E X W0 S g _ c2) (plainIx_of c3)) fun σ H Q ⟨B, α, ρ, O, Q0, E0, R, h, hq, hl⟩ => ?_
    refine seq2 R h hl fun u w O2 f α2 v v2 H2 s2 w2 a1 a2 => ?_
    obtain ⟨y, e2, f⟩ := nrK_of f
    have ay := Vw.of w2 a2 e2
    have dat : (nrK O2 u fun x => ixD x y fun z => Q0 [.d z] O2) → rB G ixD v v2 H2 Q := fun f => by
      obtain ⟨x, e1, f⟩ := nrK_of f
      exact ⟨B, α2, O2, x, y, _, w2, Vw.of w2 a1 e1, ay, f, fun z q v' H' s' w' a' => hq.to q (s2.trans s') w' (.d a')⟩
    cases u with
    | d x => exact .inl (dat f)
    | o k => exact .inl (dat f)
    | t us =>
      cases y with
      | int i =>
        obtain ⟨w, e3, f⟩ := f
        obtain rfl := ay.int
        cases a1 with
        | t e m r =>
        obtain ⟨v3, e4, a3⟩ := r.atI e3
        exact .inr (.inl ⟨_, _, i, v3, rfl, rfl, SqT.of e, e4, hq.to f s2 w2 a3⟩)
      | _ => exact f.elim
    | l us =>
      cases y with
      | int i =>
        obtain ⟨w, e3, f⟩ := f
        obtain rfl := ay.int
        cases a1 with
        | l e m r =>
        obtain ⟨v3, e4, a3⟩ := r.atI e3
        exact .inr (.inr ⟨_, _, i, v3, rfl, rfl, SqL.of e, e4, hq.to f s2 w2 a3⟩)
      | _ => exact f.elim
  · cases c
theorem partK_of {us : List U} {k : Option Int → Prop} (h : partK us k) : (us = [] ∧ k none) ∨ ∃ i, us = [.d (.int i)] ∧ k (some i) := by
  unfold partK at h
  split at h
  · exact .inl ⟨rfl, h⟩
  · exact .inr ⟨_, rfl, h⟩
  · exact h.elim
theorem sd_sl {a lo hi : Y} (da : Sd G k Γ a) (dl : Sd G k Γ lo) (dh : Sd G k Γ hi) : Sd G k Γ (.sl a lo hi) := .ofE _ (fun _ => rfl) fun X W0 S g e c => by
  split at c
  · obtain ⟨c, c3⟩ := ba c
    obtain ⟨c1, c2⟩ := ba c
    refine pe_imp (pe_slice (sl_r g.hK) (da.E X W0 S g _ c1) (dl.O X W0 S g _ c2) (dh.O X W0 S g _ c3)) fun σ H Q ⟨B, α, ρ, O, Q0, E0, R, h, hq, hl⟩ => ?_
    refine seqE R h hl fun u O1 f α1 v H1 s1 w1 a1 => ?_
    have part : ∀ {σ : L2.St} {B : Addr → Prop} {α : List Addr} {O : List DO} {H : Hp} {t : ZE} {F : Option Int → List DO → Prop} {Q : Option Int → Hp → Prop}, Rep G B α σ H ρ O → (t E0 ρ O fun ls O2 => partK ls fun l => F l O2) → ELow G B W0 α O H E0 →
        (∀ l O2, F l O2 → ∀ α2 H2, Stp α O H α2 O2 H2 → Own G B α2 O2 H2 → Q l H2) → LfO G W0 t σ H Q := fun {σ B α O H t F Q} R h hl kk =>
      ⟨B, α, ρ, O, _, E0, R, h, fun ls O2 q => by
        rcases partK_of q with ⟨e, q⟩ | ⟨i, e, q⟩
        · exact ⟨none, .inl ⟨e, rfl⟩, kk _ _ q⟩
        · exact ⟨some i, .inr ⟨i, e, rfl⟩, kk _ _ q⟩, hl⟩
    refine part (R.stp s1 w1) f (hl.stp s1) fun l O2 f2 α2 H2 s2 w2 => ?_
    refine part ((R.stp s1 w1).stp s2 w2) f2 ((hl.stp s1).stp s2) fun r O3 f3 α3 H3 s3 w3 => ?_
    obtain ⟨x, e1, f3⟩ := nrK_of f3
    exact ⟨B, α3, O3, x, _, w3, Vw.of w3 (s3.atU (s2.atU a1)) e1, f3, fun z q v' H' s' w' a' => hq.to q (((s1.trans s2).trans s3).trans s') w' (.d a')⟩
  · cases c
end
end Z

set_option Elab.async false
set_option linter.all false
set_option maxRecDepth 100000
set_option maxHeartbeats 4000000
namespace Z
open PySem PySem.Spec PyProof.Rows L2
/-! ### enumerate over a tuple -/
theorem meets_enumT (ta : Addr) (xs : Array Value) :
    Meets (Builtin.«enumerate.__new__» ⟨[.type "enumerate", .ref ta], []⟩) (fun _ R s => s.heap.IsTuple ta xs ∧
      R (.ok (.ret (.ref (s.heap.push { cls := .type "tuple_iterator", data := .fields #[.ref ta, .int 0 0] }).objs.size)))
        { s with heap := (s.heap.push { cls := .type "tuple_iterator", data := .fields #[.ref ta, .int 0 0] }).push { cls := .type "enumerate", data := .fields #[.none, .bool false, .ref s.heap.objs.size, rawInt 0, .none, .none] } }) :=
  .of_wp fun prog w A R s h => by
    obtain ⟨hp, g, d, tk, os⟩ := s; obtain ⟨ht, h⟩ := h
    have hs0 := sub_enumerate
    have q1 : ∀ {A2 : Around} {E2 : Value → Shared → Prop} {Q2 : Value → Shared → Prop}, Q2 (.ref hp.objs.size) ⟨hp.push { cls := .type "tuple_iterator", data := .fields #[.ref ta, .int 0 0] }, g, d, tk, os⟩ → wpAny (model prog w) A2 (pyIter (.ref ta)) Q2 E2 ⟨hp, g, d, tk, os⟩ :=
      fun q => wpAny_pyIter_tuple ht q
    wp_walk using q1
    refine wpAny_stack_any fun sk => wpAny_pure ?_
    split
    · rename_i c _ _ _ _ _
      cases (c == Value.type "enumerate") <;> (wp_walk using q1; exact ⟨_, rfl, h⟩)
    · wp_walk using q1; exact ⟨_, rfl, h⟩
section
variable {prog : Program} {w : World} {A : Around} {E : Value → Shared → Prop} {s : Shared}
theorem call_enumT {ta : Addr} {xs : Array Value} {Q : Value → Shared → Prop} (ht : s.heap.IsTuple ta xs)
    (hq : ∀ h2, IsEnum h2 (s.heap.objs.size + 1) s.heap.objs.size 0 .none → h2.IsTupleIter s.heap.objs.size ta 0 → h2.objs.size = s.heap.objs.size + 2 → (∀ b o, s.heap.get? b = some o → h2.get? b = some o) → Q (.ref (s.heap.objs.size + 1)) { s with heap := h2 }) :
    wpAny (model prog w) A (call (.type "enumerate") [.ref ta]) Q E s := by
  refine callType_new F.called_enumerate (by decide) (F.typeCall_enumerate_1 _) (F.newCall_enumerate_1 _) (fun z => F.args_object_init_2 z _) F.entry_enumerate_new (meets_enumT ta xs) ⟨ht, ?_⟩
  have sz : (s.heap.push { cls := .type "tuple_iterator", data := .fields #[.ref ta, .int 0 0] }).objs.size = s.heap.objs.size + 1 := Heap.size_push ..
  show _ ∧ _
  rw [sz]
  have en : IsEnum ((s.heap.push { cls := .type "tuple_iterator", data := .fields #[.ref ta, .int 0 0] }).push { cls := .type "enumerate", data := .fields #[.none, .bool false, .ref s.heap.objs.size, rawInt 0, .none, .none] }) (s.heap.objs.size + 1) s.heap.objs.size 0 .none := by
    have z := Heap.get?_push_size (s.heap.push { cls := .type "tuple_iterator", data := .fields #[.ref ta, .int 0 0] }) (o := { cls := .type "enumerate", data := .fields #[.none, .bool false, .ref s.heap.objs.size, rawInt 0, .none, .none] }) rfl
    rw [sz] at z
    exact z
  refine ⟨⟨_, en, rfl⟩, hq _ en ⟨_, Heap.get?_push_of_some _ (Heap.get?_push_size _ rfl), rfl, rfl⟩ (by rw [Heap.size_push, sz]) fun b o y => Heap.get?_push_of_some _ (Heap.get?_push_of_some _ y)⟩
end
theorem next_enumT_end {prog : Program} {w : World} {A : Around} {E : Value → Shared → Prop} {s : Shared} {e it ta : Addr} {i : Nat} {j : Int} {xs : Array Value} {old : Value} {Q : Option Value → Shared → Prop} (h0 : A.handled = none) (en : IsEnum s.heap e it j old) (hit : s.heap.IsTupleIter it ta i) (ht : s.heap.IsTuple ta xs) (hx : xs[i]? = none)
    (hq : ∀ h2, Heap.ExtBut it s.heap h2 → Q none { s with heap := h2 }) : wpAny (model prog w) A (pyNext (.ref e)) Q E s := by
  have ty : s.TypeIs (.ref e) "enumerate" := ⟨_, en, rfl⟩
  unfold pyNext
  refine wpAny_bind (wpAny_attempt (wpAny_callSpecial?_slot (name := Str.ofString "__next__") ty F.slot_enumerate_next (wpAny_call_entry F.slot_enumerate_next ty F.entry_enumerate_next ?_ (F.args_enumerate_next_1 _))))
  show wpAny _ _ (field (.ref e) 2 >>= _) _ _ _
  refine wpAny_bind (wpAny_field en rfl (x := .ref it) rfl (wpAny_bind (RZ.nextOf_tuple_end (A := A.in1) (show A.in1.handled = none from h0) hit ht hx fun h2 y he2 hy => ?_)))
  obtain ⟨o, ho, hc⟩ := hy
  exact wpAny_bind (wpAny_isInstance (T := "StopIteration") (b := true) ⟨o, ho, hc⟩ isSubtype_stop (wpAny_pure (hq _ he2)))
/-- the tuple at a, each item in a new pair with its place -/
def IteT (K : PySem.W.Frag) (a : Addr) : It :=
  ⟨fun i H => ∃ (xs : List V) (x : V), SqT K H a xs ∧ xs[i]? = some x, fun i H v H2 => ∃ T x, v = .ref T ∧ H T = none ∧ H2 = upd H T (.tup [.int (i : Nat), x]) ∧ ∀ xs, SqT K H a xs → xs[i]? = some x, fun i H => ∃ xs : List V, SqT K H a xs ∧ xs.length ≤ i⟩
theorem turn_enumT {P : Program} {w : World} {K : PySem.W.Frag} {elts : List Expr} {kk : Nat} {tpos : Pos} (a e it : Addr) :
    Turn P w K (.Tuple elts kk tpos) (IteT K a) [e, it] e (fun i h => (∃ old, IsEnum h e it ((i : Nat) : Int) old) ∧ h.IsTupleIter it a i ∧ e ≠ it ∧ a ≠ e ∧ a ≠ it) where
  mem := by simp
  obj := fun i h st b hb => by
    obtain ⟨⟨old, en⟩, ⟨o, ho, hc, hd⟩, _⟩ := st
    have two : b = e ∨ b = it := by simpa using hb
    rcases two with z | z
    · rw [z]; exact ⟨_, en, fun v q => nomatch q⟩
    · rw [z]; exact ⟨o, ho, fun v q => by rw [hd] at q; cases q⟩
  keep := fun i h h2 st k => let ⟨⟨old, en⟩, hi, h3⟩ := st; ⟨⟨old, k e (by simp) _ en⟩, hi.at fun o q => k it (by simp) o q, h3⟩
  item := by
    intro X hP hw hK hc i pins s σ H E I hf st hg
    subst hP hw hK
    obtain ⟨⟨old, en⟩, hit, n1, n2, n3⟩ := st
    obtain ⟨xs, x, hsq, hx⟩ := hg
    obtain ⟨ys, rv, tp, hz⟩ := I.tuple hsq
    obtain ⟨u, hu, ru⟩ := rv.get hx
    have tp : s.heap.IsTuple a ys.toArray := tp
    have le1 : e < s.heap.objs.size := Heap.lt_size en
    have le2 : it < s.heap.objs.size := by obtain ⟨_, q, _⟩ := hit; exact Heap.lt_size q
    have hix : i < ys.toArray.size := by
      have := (List.getElem?_eq_some_iff.mp hu).1
      simpa using this
    refine wpAny_pyNext_enum_itemD (Draws.tuple (A := X.A.in1) (show X.A.in1.handled = none from I.ok.hd hc) it a n3 ys.toArray) en ⟨hit, tp⟩ hix n1 (by simp [n1, Ne.symm n2]) fun y h2 tk hy ho st2 hT hsz hk => ?_
    have huy : ys.toArray[i]? = some y := hy
    have ey : y = u := by
      have z : ys.toArray[i]? = some u := by simpa using hu
      rw [huy] at z
      cases z
      rfl
    subst ey
    refine ⟨_, rfl, wpAny_letOwnedTupleGo_enum (s := { s with heap := h2, toks := tk + 1 }) ho fun h3 he3 sb => ?_⟩
    have hT2 : h3.get? s.heap.objs.size = some { cls := .type "tuple", data := .seq #[.int i tk, y] } := (sb.2 _ (Nat.ne_of_gt le1)).trans hT
    have new : ObjOk X.prog X.w (upd H s.heap.objs.size (.tup [.int (i : Nat), x])) h3 s.heap.objs.size (.tup [.int (i : Nat), x]) :=
      ⟨by show 2 ≤ sizeLine; decide, [.int i tk, y], .cons ⟨_, rfl⟩ (.cons ru .nil), ⟨_, hT2, rfl, _, rfl⟩⟩
    have I1 : Inv X pins σ (upd H s.heap.objs.size (.tup [.int (i : Nat), x])) { s with heap := h3, toks := tk + 1 } :=
      I.turnedNew (ch := [e, it]) (fun b ob hb q => (sb.2 b (fun z => hb (by simp [z]))).trans (hk b ob (fun z => hb (by simp [z])) (fun z => hb (by simp [z])) q)) hf (Nat.le_refl _) new
    refine ⟨.ref s.heap.objs.size, _, I1, rfl, ⟨_, x, rfl, I.hok.fresh (Nat.le_refl _), rfl, fun zs hz2 => by rw [I.tuple_inj hz2 hsq]; exact hx⟩, ⟨⟨y, ?_⟩, st2.1.at fun o q => (sb.2 it (Ne.symm n1)).trans q, n1, n2, n3⟩, fun b hb => ?_⟩
    · have e1 : ((i + 1 : Nat) : Int) = (i : Int) + 1 := by omega
      rw [e1]
      exact he3
    · have two : b = e ∨ b = it := by simpa using hb
      have hb2 : b < s.heap.objs.size := by
        rcases two with z | z
        · rw [z]; exact le1
        · rw [z]; exact le2
      rw [upd_ne (Nat.ne_of_lt hb2)]
      exact (hf b hb).1
  done := by
    intro X hP hw hK hc i pins s σ H E I hf st hg
    subst hP hw hK
    obtain ⟨⟨old, en⟩, hit, n1, n2, n3⟩ := st
    obtain ⟨xs, hsq, hx⟩ := hg
    obtain ⟨ys, rv, tp, hz⟩ := I.tuple hsq
    obtain ⟨g0, g1, g2, g3, g4, g5⟩ := hf it (by simp)
    have tp : s.heap.IsTuple a ys.toArray := tp
    have hl := rv.length
    exact next_enumT_end (I.ok.hd hc) en hit tp (by simp; omega) fun h2 eb => ⟨rfl, I.turned (t' := s.toks) (fun b o hb q => eb b o hb q) g0 g1 g3 g4 g5⟩
  self := fun A i s Q E st h => let ⟨⟨_, en⟩, _⟩ := st; wpAny_pyIter_enum en h
def iEnumA (K : PySem.W.Frag) (ta : TA) : TI := fun σ H R => ta σ H fun vs H1 => ∃ a xs, vs = [.ref a] ∧ ((SqL K H1 a xs ∧ R (Ite K a) H1) ∨ (SqT K H1 a xs ∧ R (IteT K a) H1))
theorem pi_enumA {X : Cx} {e : Expr} {ta : TA} {p pos tpos : Pos} {elts : List Expr} {kk : Nat} (hg : Gl X "enumerate") (hm : X.mg "enumerate" = none) (ha : PA X [e] ta) (hs : starEach [e] X.env = [(false, eval e X.env)]) :
    PI X (.Tuple elts kk tpos) (.Call (.Name "enumerate" p) [e] [] pos) (iEnumA X.K ta) := by
  refine ⟨fun pins s σ H R I h => ?_⟩
  refine Call_ (ld_blt I hg hm boot_enumerate (PyProof.Rows.callWith_type1 (thn (ha.run pos pins s σ H _ I h) fun us s1 ⟨vs, H1, I1, r1, q1⟩ => ?_) hs rfl))
  obtain ⟨a, xs, ex, q1⟩ := q1
  subst ex
  cases r1 with
  | cons r rr =>
  cases rr
  cases r
  have fresh : ∀ b, b ∈ [s1.heap.objs.size + 1, s1.heap.objs.size] → FpOk X pins H1 b := fun b hb => by
    have two : b = s1.heap.objs.size + 1 ∨ b = s1.heap.objs.size := by simpa using hb
    have le1 : s1.heap.objs.size ≤ b := by omega
    exact I1.fpOk le1 (I1.hok.fresh le1)
  rcases q1 with ⟨hq, q⟩ | ⟨hq, q⟩
  · obtain ⟨its, rv, pl, hz⟩ := I1.list hq
    refine call_enumerate_list pl.isList fun h2 en hit hsz hk => wpAny_pyIter_enum en ?_
    exact ⟨s1.heap.objs.size + 1, [s1.heap.objs.size + 1, s1.heap.objs.size], _, _, H1, rfl, I1.kept (t' := s1.toks) hk, turn_enum a (s1.heap.objs.size + 1) s1.heap.objs.size, ⟨⟨.none, en⟩, hit, Nat.succ_ne_self _⟩, fresh, q⟩
  · obtain ⟨its, rv, pt, hz⟩ := I1.tuple hq
    have pt : s1.heap.IsTuple a its.toArray := pt
    have al : a < s1.heap.objs.size := by
      obtain ⟨o, ho, _⟩ := id pt
      exact Heap.lt_size ho
    refine call_enumT pt fun h2 en hit hsz hk => wpAny_pyIter_enum en ?_
    exact ⟨s1.heap.objs.size + 1, [s1.heap.objs.size + 1, s1.heap.objs.size], _, _, H1, rfl, I1.kept (t' := s1.toks) hk, turn_enumT a (s1.heap.objs.size + 1) s1.heap.objs.size, ⟨⟨.none, en⟩, hit, Nat.succ_ne_self _, Nat.ne_of_lt (Nat.lt_succ_of_lt al), Nat.ne_of_lt al⟩, fresh, q⟩
theorem walk_enumT {K : PySem.W.Frag} {a : Addr} {xs : List V} : L2.Walk (IteT K a) xs.length (fun H => SqT K H a xs) (YPair (fun i => some (.int (i : Nat))) (fun i => xs[i]?)) := by
  refine ⟨fun i _ hi q => ⟨xs, xs[i], q, by simp [hi]⟩, fun _ q => ⟨xs, q, Nat.le_refl _⟩, fun i H v H2 _ q y => ?_⟩
  obtain ⟨T, x, h1, h2, h3, h4⟩ := y
  exact ⟨T, .int (i : Nat), x, h1, h2, h3, rfl, h4 xs q⟩
end Z

set_option Elab.async false
set_option linter.all false
set_option maxRecDepth 100000
set_option maxHeartbeats 4000000
namespace Z
open PySem PySem.Spec PyProof.Rows L2
/-! ### zip of a list and a tuple -/
def ItzM (K : PySem.W.Frag) (a b : Addr) : It :=
  ⟨fun i H => ∃ (xs ys : List V) (x y : V), SqL K H a xs ∧ SqT K H b ys ∧ xs[i]? = some x ∧ ys[i]? = some y,
    fun i H v H2 => ∃ T x y, v = .ref T ∧ H T = none ∧ H2 = upd H T (.tup [x, y]) ∧ (∀ xs, SqL K H a xs → xs[i]? = some x) ∧ ∀ ys, SqT K H b ys → ys[i]? = some y,
    fun i H => ∃ xs ys : List V, SqL K H a xs ∧ SqT K H b ys ∧ i ≤ xs.length ∧ i ≤ ys.length ∧ (i = xs.length ∨ i = ys.length)⟩
theorem turn_zipM {P : Program} {w : World} {K : PySem.W.Frag} {elts : List Expr} {kk : Nat} {tpos : Pos} {a b z TI TO i1 i2 : Addr} (S : ZipSep2 z TI TO i1 i2 [i1, a] [i2, b]) (na : a ≠ i1) (nb : b ≠ i2) :
    Turn P w K (.Tuple elts kk tpos) (ItzM K a b) [z, TI, TO, i1, i2] z (fun i h => IsZip h z TI TO .none ∧ IsTupOf2 h TI (.ref i1) (.ref i2) ∧ (∃ x y, IsTupOf2 h TO x y) ∧ h.IsListIter i1 a i ∧ h.IsTupleIter i2 b i) where
  mem := by simp
  obj := fun i h st c hc => by
    obtain ⟨q1, q2, ⟨x, y, q3⟩, ⟨o1, e1, _, d1⟩, ⟨o2, e2, _, d2⟩⟩ := st
    have five : c = z ∨ c = TI ∨ c = TO ∨ c = i1 ∨ c = i2 := by simpa using hc
    rcases five with q | q | q | q | q
    · rw [q]; exact ⟨_, q1, fun v q => nomatch q⟩
    · rw [q]; exact ⟨_, q2, fun v q => nomatch q⟩
    · rw [q]; exact ⟨_, q3, fun v q => nomatch q⟩
    · rw [q]; exact ⟨o1, e1, fun v q => by rw [d1] at q; cases q⟩
    · rw [q]; exact ⟨o2, e2, fun v q => by rw [d2] at q; cases q⟩
  keep := fun i h h2 st k => by
    obtain ⟨q1, q2, ⟨x, y, q3⟩, q4, q5⟩ := st
    exact ⟨k z (by simp) _ q1, k TI (by simp) _ q2, ⟨x, y, k TO (by simp) _ q3⟩, q4.at fun o q => k i1 (by simp) o q, q5.at fun o q => k i2 (by simp) o q⟩
  item := by
    intro X hP hw hK hc i pins s σ H E I hf st hg
    subst hP hw hK
    obtain ⟨q1, q2, ⟨x0, y0, q3⟩, q4, q5⟩ := st
    obtain ⟨xs, ys, x, y, sx, sy, gx, gy⟩ := hg
    obtain ⟨us, rv, pl, _⟩ := I.list sx
    obtain ⟨ws, rw2, pt, _⟩ := I.tuple sy
    obtain ⟨u, hu, ru⟩ := rv.get gx
    obtain ⟨t, ht, rt⟩ := rw2.get gy
    have pt : s.heap.IsTuple b ws.toArray := pt
    have zl : z < s.heap.objs.size := Heap.lt_size q1
    have lu : i < us.toArray.size := by
      have := (List.getElem?_eq_some_iff.mp hu).1
      simpa using this
    have lt : i < ws.toArray.size := by
      have := (List.getElem?_eq_some_iff.mp ht).1
      simpa using this
    have h0 : X.A.in1.handled = none := I.ok.hd hc
    refine wpAny_pyNext_zipD2_item S (Draws.list (A := X.A.in1) h0 i1 a na us.toArray) (Draws.tuple (A := X.A.in1) h0 i2 b nb ws.toArray) q1 q2 q3 ⟨q4, pl.isList⟩ ⟨q5, pt⟩ lu lt fun x1 x2 h2 tk e1 e2 z2 T2 st1 st2 hT hsz hk => ?_
    have e1 : us.toArray[i]? = some x1 := e1
    have e2 : ws.toArray[i]? = some x2 := e2
    have ex1 : x1 = u := by
      have k : us.toArray[i]? = some u := by simpa using hu
      rw [e1] at k
      cases k
      rfl
    have ex2 : x2 = t := by
      have k : ws.toArray[i]? = some t := by simpa using ht
      rw [e2] at k
      cases k
      rfl
    subst ex1 ex2
    refine ⟨_, rfl, wpAny_letOwnedTupleGo_zip (s := { s with heap := h2, toks := tk }) z2 fun h3 z3 sb => ?_⟩
    have hT2 : h3.get? s.heap.objs.size = some { cls := .type "tuple", data := .seq #[x1, x2] } := (sb.2 _ (Nat.ne_of_gt zl)).trans hT
    have new : ObjOk X.prog X.w (upd H s.heap.objs.size (.tup [x, y])) h3 s.heap.objs.size (.tup [x, y]) := ⟨by show 2 ≤ sizeLine; decide, [x1, x2], .cons ru (.cons rt .nil), ⟨_, hT2, rfl, _, rfl⟩⟩
    have I1 : Inv X pins σ (upd H s.heap.objs.size (.tup [x, y])) { s with heap := h3, toks := tk } :=
      I.turnedNew (ch := [z, TI, TO, i1, i2]) (fun c o hb q => (sb.2 c (fun k => hb (by simp [k]))).trans (hk c o (fun k => hb (by simp [k])) (fun k => hb (by simp [k])) (fun k => hb (by simp [k])) (fun k => hb (by simp [k])) q)) hf (Nat.le_refl _) new
    refine ⟨.ref s.heap.objs.size, _, I1, rfl, ⟨_, x, y, rfl, I.hok.fresh (Nat.le_refl _), rfl, fun l hl => by rw [I.list_inj hl sx]; exact gx, fun l hl => by rw [I.tuple_inj hl sy]; exact gy⟩, ⟨z3, ?_, ⟨x1, x2, ?_⟩, ?_, ?_⟩, fun c hcm => ?_⟩
    · exact (sb.2 _ S.TIz).trans (hk _ _ S.TIz S.TITO S.TIi1 S.TIi2 q2)
    · exact (sb.2 _ S.TOz).trans T2
    · exact st1.1.at fun o q => (sb.2 _ (Ne.symm S.zi1)).trans q
    · exact st2.1.at fun o q => (sb.2 _ (Ne.symm S.zi2)).trans q
    · have hlt : c < s.heap.objs.size := by
        have five : c = z ∨ c = TI ∨ c = TO ∨ c = i1 ∨ c = i2 := by simpa using hcm
        rcases five with q | q | q | q | q
        · rw [q]; exact zl
        · rw [q]; exact Heap.lt_size q2
        · rw [q]; exact Heap.lt_size q3
        · rw [q]; obtain ⟨_, e1, _⟩ := q4; exact Heap.lt_size e1
        · rw [q]; obtain ⟨_, e2, _⟩ := q5; exact Heap.lt_size e2
      rw [upd_ne (Nat.ne_of_lt hlt)]
      exact (hf c hcm).1
  done := by
    intro X hP hw hK hc i pins s σ H E I hf st hg
    subst hP hw hK
    obtain ⟨q1, q2, ⟨x0, y0, q3⟩, q4, q5⟩ := st
    obtain ⟨xs, ys, sx, sy, l1, l2, l3⟩ := hg
    obtain ⟨us, rv, pl, _⟩ := I.list sx
    obtain ⟨ws, rw2, pt, _⟩ := I.tuple sy
    have pt : s.heap.IsTuple b ws.toArray := pt
    have k1 := rv.length
    have k2 := rw2.length
    have h0 : X.A.in1.handled = none := I.ok.hd hc
    exact wpAny_pyNext_zipD2_end S (Draws.list (A := X.A.in1) h0 i1 a na us.toArray) (Draws.tuple (A := X.A.in1) h0 i2 b nb ws.toArray) q1 q2 q3 ⟨q4, pl.isList⟩ ⟨q5, pt⟩ (by simp; omega) (by simp; omega) (by simp; omega) fun h2 tk hk => ⟨rfl, I.turnedL (t' := tk) (ch := [z, TI, TO, i1, i2]) (fun c o hb q =>
      hk c o (fun k => hb (by simp [k])) (fun k => hb (by simp [k])) (fun k => hb (by simp [k])) (fun k => hb (by simp [k])) q) hf⟩
  self := fun A i s Q E st h => wpAny_pyIter_zip st.1 h
def iZipM (K : PySem.W.Frag) (ta : TA) : TI := fun σ H R => ta σ H fun vs H1 => (∃ a b xs ys, vs = [.ref a, .ref b] ∧ ((SqL K H1 a xs ∧ SqL K H1 b ys ∧ R (Itz K a b) H1) ∨ (SqT K H1 a xs ∧ SqT K H1 b ys ∧ R (RZ.ItzT K a b) H1))) ∨ ∃ a b xs ys, vs = [.ref a, .ref b] ∧ SqL K H1 a xs ∧ SqT K H1 b ys ∧ R (ItzM K a b) H1
theorem pi_zipM {X : Cx} {e e2 : Expr} {ta : TA} {p pos tpos : Pos} {elts : List Expr} {kk : Nat} (hg : Gl X "zip") (hm : X.mg "zip" = none) (ha : PA X [e, e2] ta)
    (hs : starEach [e, e2] X.env = (false, eval e X.env) :: starEach [e2] X.env) (hpl : (backTo pos (starEach [e2] X.env)).any (·.1) = false) :
    PI X (.Tuple elts kk tpos) (.Call (.Name "zip" p) [e, e2] [] pos) (iZipM X.K ta) := by
  refine ⟨fun pins s σ H R I h => ?_⟩
  refine Call_ (ld_blt I hg hm PyProof.Rows.boot_zip (PyProof.Rows.callWith_type1 (thn (ha.run pos pins s σ H _ I h) fun us t ⟨vs, H1, I1, r1, q1⟩ => ?_) hs hpl))
  have fresh : ∀ c, c ∈ [t.heap.objs.size + 4, t.heap.objs.size + 2, t.heap.objs.size + 3, t.heap.objs.size, t.heap.objs.size + 1] → FpOk X pins H1 c := fun c hcm => by
    have five : c = t.heap.objs.size + 4 ∨ c = t.heap.objs.size + 2 ∨ c = t.heap.objs.size + 3 ∨ c = t.heap.objs.size ∨ c = t.heap.objs.size + 1 := by simpa using hcm
    have le1 : t.heap.objs.size ≤ c := by omega
    exact I1.fpOk le1 (I1.hok.fresh le1)
  rcases q1 with ⟨a, b, xs, ys, ex, q1⟩ | ⟨a, b, xs, ys, ex, hx, hy, q⟩
  · subst ex
    cases r1 with
    | cons r rr =>
    cases rr with
    | cons r' rr =>
    cases rr
    cases r
    cases r'
    rcases q1 with ⟨hx, hy, q⟩ | ⟨hx, hy, q⟩
    · obtain ⟨us, rv, p1, _⟩ := I1.list hx
      obtain ⟨ws, rw2, p2, _⟩ := I1.list hy
      refine call_zip_2 p1.isList p2.isList fun h2 z1 z2 z3 z4 z5 hsz hk => wpAny_pyIter_zip z1 ?_
      exact ⟨t.heap.objs.size + 4, [t.heap.objs.size + 4, t.heap.objs.size + 2, t.heap.objs.size + 3, t.heap.objs.size, t.heap.objs.size + 1], _, _, H1, rfl, I1.kept (t' := t.toks) hk, turn_zip (PySem.W.ktu_apart t.heap.objs.size a b p1.lt p2.lt), ⟨z1, z2, ⟨_, _, z3⟩, z4, z5⟩, fresh, q⟩
    · obtain ⟨us, rv, p1, _⟩ := I1.tuple hx
      obtain ⟨ws, rw2, p2, _⟩ := I1.tuple hy
      obtain ⟨o1, ho1, _⟩ := id p1
      obtain ⟨o2, ho2, _⟩ := id p2
      refine RZ.call_zipT (show t.heap.IsTuple a us.toArray from p1) (show t.heap.IsTuple b ws.toArray from p2) fun h2 z1 z2 z3 z4 z5 hsz hk => wpAny_pyIter_zip z1 ?_
      exact ⟨t.heap.objs.size + 4, [t.heap.objs.size + 4, t.heap.objs.size + 2, t.heap.objs.size + 3, t.heap.objs.size, t.heap.objs.size + 1], _, _, H1, rfl, I1.kept (t' := t.toks) hk, RZ.turn_zipT (PySem.W.ktu_apart t.heap.objs.size a b (Heap.lt_size ho1) (Heap.lt_size ho2)), ⟨z1, z2, ⟨_, _, z3⟩, z4, z5⟩, fresh, q⟩
  · subst ex
    cases r1 with
    | cons r rr =>
    cases rr with
    | cons r' rr =>
    cases rr
    cases r
    cases r'
    obtain ⟨us, rv, p1, _⟩ := I1.list hx
    obtain ⟨ws, rw2, p2, _⟩ := I1.tuple hy
    have p2 : t.heap.IsTuple b ws.toArray := p2
    have la : a < t.heap.objs.size := p1.lt
    have lb : b < t.heap.objs.size := by
      obtain ⟨o, ho, _⟩ := id p2
      exact Heap.lt_size ho
    refine zip_begins2 (begins_list a us.toArray) (begins_tuple b ws.toArray) p1.isList p2 fun h2 z1 z2 z3 z4 z5 hsz hk => wpAny_pyIter_zip z1 ?_
    refine ⟨t.heap.objs.size + 4, [t.heap.objs.size + 4, t.heap.objs.size + 2, t.heap.objs.size + 3, t.heap.objs.size, t.heap.objs.size + 1], _, _, H1, rfl, I1.kept (t' := t.toks) hk, turn_zipM (a := a) (b := b) (zip_sep2 (fp1 := [a]) (fp2 := [b]) (fun c hc => by rw [List.mem_singleton.mp hc]; exact la) fun c hc => by rw [List.mem_singleton.mp hc]; exact lb) (Nat.ne_of_lt la) (Nat.ne_of_lt (Nat.lt_succ_of_lt lb)), ⟨z1, z2, ⟨_, _, z3⟩, ⟨_, z4, rfl, rfl⟩, ⟨_, z5, rfl, rfl⟩⟩, fresh, q⟩
theorem walk_zipM {K : PySem.W.Frag} {a b : Addr} {xs ys : List V} {n : Nat} (hn : n = min xs.length ys.length) : L2.Walk (ItzM K a b) n (fun H => SqL K H a xs ∧ SqT K H b ys) (YPair (fun i => xs[i]?) (fun i => ys[i]?)) := by
  subst hn
  refine ⟨fun i _ hi q => ?_, fun _ q => ⟨xs, ys, q.1, q.2, by omega, by omega, by omega⟩, fun i H v H2 _ q y => ?_⟩
  · have h1 : i < xs.length := by omega
    have h2 : i < ys.length := by omega
    exact ⟨xs, ys, xs[i], ys[i], q.1, q.2, by simp [h1], by simp [h2]⟩
  · obtain ⟨T, x, z, h1, h2, h3, h4, h5⟩ := y
    exact ⟨T, x, z, h1, h2, h3, h4 xs q.1, h5 ys q.2⟩
end Z

set_option Elab.async false
set_option linter.all false
set_option maxRecDepth 100000
set_option maxHeartbeats 4000000
namespace Z
open PySem PySem.Spec PyProof.Rows L2
/-! ### zip of a tuple and a list -/
def ItzN (K : PySem.W.Frag) (a b : Addr) : It :=
  ⟨fun i H => ∃ (xs ys : List V) (x y : V), SqT K H a xs ∧ SqL K H b ys ∧ xs[i]? = some x ∧ ys[i]? = some y,
    fun i H v H2 => ∃ T x y, v = .ref T ∧ H T = none ∧ H2 = upd H T (.tup [x, y]) ∧ (∀ xs, SqT K H a xs → xs[i]? = some x) ∧ ∀ ys, SqL K H b ys → ys[i]? = some y,
    fun i H => ∃ xs ys : List V, SqT K H a xs ∧ SqL K H b ys ∧ i ≤ xs.length ∧ i ≤ ys.length ∧ (i = xs.length ∨ i = ys.length)⟩
theorem turn_zipN {P : Program} {w : World} {K : PySem.W.Frag} {elts : List Expr} {kk : Nat} {tpos : Pos} {a b z TI TO i1 i2 : Addr} (S : ZipSep2 z TI TO i1 i2 [i1, a] [i2, b]) (na : a ≠ i1) (nb : b ≠ i2) :
    Turn P w K (.Tuple elts kk tpos) (ItzN K a b) [z, TI, TO, i1, i2] z (fun i h => IsZip h z TI TO .none ∧ IsTupOf2 h TI (.ref i1) (.ref i2) ∧ (∃ x y, IsTupOf2 h TO x y) ∧ h.IsTupleIter i1 a i ∧ h.IsListIter i2 b i) where
  mem := by simp
  obj := fun i h st c hc => by
    obtain ⟨q1, q2, ⟨x, y, q3⟩, ⟨o1, e1, _, d1⟩, ⟨o2, e2, _, d2⟩⟩ := st
    have five : c = z ∨ c = TI ∨ c = TO ∨ c = i1 ∨ c = i2 := by simpa using hc
    rcases five with q | q | q | q | q
    · rw [q]; exact ⟨_, q1, fun v q => nomatch q⟩
    · rw [q]; exact ⟨_, q2, fun v q => nomatch q⟩
    · rw [q]; exact ⟨_, q3, fun v q => nomatch q⟩
    · rw [q]; exact ⟨o1, e1, fun v q => by rw [d1] at q; cases q⟩
    · rw [q]; exact ⟨o2, e2, fun v q => by rw [d2] at q; cases q⟩
  keep := fun i h h2 st k => by
    obtain ⟨q1, q2, ⟨x, y, q3⟩, q4, q5⟩ := st
    exact ⟨k z (by simp) _ q1, k TI (by simp) _ q2, ⟨x, y, k TO (by simp) _ q3⟩, q4.at fun o q => k i1 (by simp) o q, q5.at fun o q => k i2 (by simp) o q⟩
  item := by
    intro X hP hw hK hc i pins s σ H E I hf st hg
    subst hP hw hK
    obtain ⟨q1, q2, ⟨x0, y0, q3⟩, q4, q5⟩ := st
    obtain ⟨xs, ys, x, y, sx, sy, gx, gy⟩ := hg
    obtain ⟨us, rv, pl, _⟩ := I.tuple sx
    obtain ⟨ws, rw2, pt, _⟩ := I.list sy
    obtain ⟨u, hu, ru⟩ := rv.get gx
    obtain ⟨t, ht, rt⟩ := rw2.get gy
    have pl : s.heap.IsTuple a us.toArray := pl
    have zl : z < s.heap.objs.size := Heap.lt_size q1
    have lu : i < us.toArray.size := by
      have := (List.getElem?_eq_some_iff.mp hu).1
      simpa using this
    have lt : i < ws.toArray.size := by
      have := (List.getElem?_eq_some_iff.mp ht).1
      simpa using this
    have h0 : X.A.in1.handled = none := I.ok.hd hc
    refine wpAny_pyNext_zipD2_item S (Draws.tuple (A := X.A.in1) h0 i1 a na us.toArray) (Draws.list (A := X.A.in1) h0 i2 b nb ws.toArray) q1 q2 q3 ⟨q4, pl⟩ ⟨q5, pt.isList⟩ lu lt fun x1 x2 h2 tk e1 e2 z2 T2 st1 st2 hT hsz hk => ?_
    have e1 : us.toArray[i]? = some x1 := e1
    have e2 : ws.toArray[i]? = some x2 := e2
    have ex1 : x1 = u := by
      have k : us.toArray[i]? = some u := by simpa using hu
      rw [e1] at k
      cases k
      rfl
    have ex2 : x2 = t := by
      have k : ws.toArray[i]? = some t := by simpa using ht
      rw [e2] at k
      cases k
      rfl
    subst ex1 ex2
    refine ⟨_, rfl, wpAny_letOwnedTupleGo_zip (s := { s with heap := h2, toks := tk }) z2 fun h3 z3 sb => ?_⟩
    have hT2 : h3.get? s.heap.objs.size = some { cls := .type "tuple", data := .seq #[x1, x2] } := (sb.2 _ (Nat.ne_of_gt zl)).trans hT
    have new : ObjOk X.prog X.w (upd H s.heap.objs.size (.tup [x, y])) h3 s.heap.objs.size (.tup [x, y]) := ⟨by show 2 ≤ sizeLine; decide, [x1, x2], .cons ru (.cons rt .nil), ⟨_, hT2, rfl, _, rfl⟩⟩
    have I1 : Inv X pins σ (upd H s.heap.objs.size (.tup [x, y])) { s with heap := h3, toks := tk } :=
      I.turnedNew (ch := [z, TI, TO, i1, i2]) (fun c o hb q => (sb.2 c (fun k => hb (by simp [k]))).trans (hk c o (fun k => hb (by simp [k])) (fun k => hb (by simp [k])) (fun k => hb (by simp [k])) (fun k => hb (by simp [k])) q)) hf (Nat.le_refl _) new
    refine ⟨.ref s.heap.objs.size, _, I1, rfl, ⟨_, x, y, rfl, I.hok.fresh (Nat.le_refl _), rfl, fun l hl => by rw [I.tuple_inj hl sx]; exact gx, fun l hl => by rw [I.list_inj hl sy]; exact gy⟩, ⟨z3, ?_, ⟨x1, x2, ?_⟩, ?_, ?_⟩, fun c hcm => ?_⟩
    · exact (sb.2 _ S.TIz).trans (hk _ _ S.TIz S.TITO S.TIi1 S.TIi2 q2)
    · exact (sb.2 _ S.TOz).trans T2
    · exact st1.1.at fun o q => (sb.2 _ (Ne.symm S.zi1)).trans q
    · exact st2.1.at fun o q => (sb.2 _ (Ne.symm S.zi2)).trans q
    · have hlt : c < s.heap.objs.size := by
        have five : c = z ∨ c = TI ∨ c = TO ∨ c = i1 ∨ c = i2 := by simpa using hcm
        rcases five with q | q | q | q | q
        · rw [q]; exact zl
        · rw [q]; exact Heap.lt_size q2
        · rw [q]; exact Heap.lt_size q3
        · rw [q]; obtain ⟨_, e1, _⟩ := q4; exact Heap.lt_size e1
        · rw [q]; obtain ⟨_, e2, _⟩ := q5; exact Heap.lt_size e2
      rw [upd_ne (Nat.ne_of_lt hlt)]
      exact (hf c hcm).1
  done := by
    intro X hP hw hK hc i pins s σ H E I hf st hg
    subst hP hw hK
    obtain ⟨q1, q2, ⟨x0, y0, q3⟩, q4, q5⟩ := st
    obtain ⟨xs, ys, sx, sy, l1, l2, l3⟩ := hg
    obtain ⟨us, rv, pl, _⟩ := I.tuple sx
    obtain ⟨ws, rw2, pt, _⟩ := I.list sy
    have pl : s.heap.IsTuple a us.toArray := pl
    have k1 := rv.length
    have k2 := rw2.length
    have h0 : X.A.in1.handled = none := I.ok.hd hc
    exact wpAny_pyNext_zipD2_end S (Draws.tuple (A := X.A.in1) h0 i1 a na us.toArray) (Draws.list (A := X.A.in1) h0 i2 b nb ws.toArray) q1 q2 q3 ⟨q4, pl⟩ ⟨q5, pt.isList⟩ (by simp; omega) (by simp; omega) (by simp; omega) fun h2 tk hk => ⟨rfl, I.turnedL (t' := tk) (ch := [z, TI, TO, i1, i2]) (fun c o hb q =>
      hk c o (fun k => hb (by simp [k])) (fun k => hb (by simp [k])) (fun k => hb (by simp [k])) (fun k => hb (by simp [k])) q) hf⟩
  self := fun A i s Q E st h => wpAny_pyIter_zip st.1 h
/-- .. of a tuple and a list, too -/
def iZipN (K : PySem.W.Frag) (ta : TA) : TI := fun σ H R => ta σ H fun vs H1 => (∃ a b xs ys, vs = [.ref a, .ref b] ∧ ((SqL K H1 a xs ∧ SqL K H1 b ys ∧ R (Itz K a b) H1) ∨ (SqT K H1 a xs ∧ SqT K H1 b ys ∧ R (RZ.ItzT K a b) H1))) ∨ (∃ a b xs ys, vs = [.ref a, .ref b] ∧ SqL K H1 a xs ∧ SqT K H1 b ys ∧ R (ItzM K a b) H1) ∨ ∃ a b xs ys, vs = [.ref a, .ref b] ∧ SqT K H1 a xs ∧ SqL K H1 b ys ∧ R (ItzN K a b) H1
theorem pi_zipN {X : Cx} {e e2 : Expr} {ta : TA} {p pos tpos : Pos} {elts : List Expr} {kk : Nat} (hg : Gl X "zip") (hm : X.mg "zip" = none) (ha : PA X [e, e2] ta)
    (hs : starEach [e, e2] X.env = (false, eval e X.env) :: starEach [e2] X.env) (hpl : (backTo pos (starEach [e2] X.env)).any (·.1) = false) :
    PI X (.Tuple elts kk tpos) (.Call (.Name "zip" p) [e, e2] [] pos) (iZipN X.K ta) := by
  refine ⟨fun pins s σ H R I h => ?_⟩
  refine Call_ (ld_blt I hg hm PyProof.Rows.boot_zip (PyProof.Rows.callWith_type1 (thn (ha.run pos pins s σ H _ I h) fun us t ⟨vs, H1, I1, r1, q1⟩ => ?_) hs hpl))
  have fresh : ∀ c, c ∈ [t.heap.objs.size + 4, t.heap.objs.size + 2, t.heap.objs.size + 3, t.heap.objs.size, t.heap.objs.size + 1] → FpOk X pins H1 c := fun c hcm => by
    have five : c = t.heap.objs.size + 4 ∨ c = t.heap.objs.size + 2 ∨ c = t.heap.objs.size + 3 ∨ c = t.heap.objs.size ∨ c = t.heap.objs.size + 1 := by simpa using hcm
    have le1 : t.heap.objs.size ≤ c := by omega
    exact I1.fpOk le1 (I1.hok.fresh le1)
  rcases q1 with ⟨a, b, xs, ys, ex, q1⟩ | ⟨a, b, xs, ys, ex, hx, hy, q⟩ | ⟨a, b, xs, ys, ex, hx, hy, q⟩
  · subst ex
    cases r1 with
    | cons r rr =>
    cases rr with
    | cons r' rr =>
    cases rr
    cases r
    cases r'
    rcases q1 with ⟨hx, hy, q⟩ | ⟨hx, hy, q⟩
    · obtain ⟨us, rv, p1, _⟩ := I1.list hx
      obtain ⟨ws, rw2, p2, _⟩ := I1.list hy
      refine call_zip_2 p1.isList p2.isList fun h2 z1 z2 z3 z4 z5 hsz hk => wpAny_pyIter_zip z1 ?_
      exact ⟨t.heap.objs.size + 4, [t.heap.objs.size + 4, t.heap.objs.size + 2, t.heap.objs.size + 3, t.heap.objs.size, t.heap.objs.size + 1], _, _, H1, rfl, I1.kept (t' := t.toks) hk, turn_zip (PySem.W.ktu_apart t.heap.objs.size a b p1.lt p2.lt), ⟨z1, z2, ⟨_, _, z3⟩, z4, z5⟩, fresh, q⟩
    · obtain ⟨us, rv, p1, _⟩ := I1.tuple hx
      obtain ⟨ws, rw2, p2, _⟩ := I1.tuple hy
      obtain ⟨o1, ho1, _⟩ := id p1
      obtain ⟨o2, ho2, _⟩ := id p2
      refine RZ.call_zipT (show t.heap.IsTuple a us.toArray from p1) (show t.heap.IsTuple b ws.toArray from p2) fun h2 z1 z2 z3 z4 z5 hsz hk => wpAny_pyIter_zip z1 ?_
      exact ⟨t.heap.objs.size + 4, [t.heap.objs.size + 4, t.heap.objs.size + 2, t.heap.objs.size + 3, t.heap.objs.size, t.heap.objs.size + 1], _, _, H1, rfl, I1.kept (t' := t.toks) hk, RZ.turn_zipT (PySem.W.ktu_apart t.heap.objs.size a b (Heap.lt_size ho1) (Heap.lt_size ho2)), ⟨z1, z2, ⟨_, _, z3⟩, z4, z5⟩, fresh, q⟩
  · subst ex
    cases r1 with
    | cons r rr =>
    cases rr with
    | cons r' rr =>
    cases rr
    cases r
    cases r'
    obtain ⟨us, rv, p1, _⟩ := I1.list hx
    obtain ⟨ws, rw2, p2, _⟩ := I1.tuple hy
    have p2 : t.heap.IsTuple b ws.toArray := p2
    have la : a < t.heap.objs.size := p1.lt
    have lb : b < t.heap.objs.size := by
      obtain ⟨o, ho, _⟩ := id p2
      exact Heap.lt_size ho
    refine zip_begins2 (begins_list a us.toArray) (begins_tuple b ws.toArray) p1.isList p2 fun h2 z1 z2 z3 z4 z5 hsz hk => wpAny_pyIter_zip z1 ?_
    refine ⟨t.heap.objs.size + 4, [t.heap.objs.size + 4, t.heap.objs.size + 2, t.heap.objs.size + 3, t.heap.objs.size, t.heap.objs.size + 1], _, _, H1, rfl, I1.kept (t' := t.toks) hk, turn_zipM (a := a) (b := b) (zip_sep2 (fp1 := [a]) (fp2 := [b]) (fun c hc => by rw [List.mem_singleton.mp hc]; exact la) fun c hc => by rw [List.mem_singleton.mp hc]; exact lb) (Nat.ne_of_lt la) (Nat.ne_of_lt (Nat.lt_succ_of_lt lb)), ⟨z1, z2, ⟨_, _, z3⟩, ⟨_, z4, rfl, rfl⟩, ⟨_, z5, rfl, rfl⟩⟩, fresh, q⟩
  · subst ex
    cases r1 with
    | cons r rr =>
    cases rr with
    | cons r' rr =>
    cases rr
    cases r
    cases r'
    obtain ⟨us, rv, p1, _⟩ := I1.tuple hx
    obtain ⟨ws, rw2, p2, _⟩ := I1.list hy
    have p1 : t.heap.IsTuple a us.toArray := p1
    have lb : b < t.heap.objs.size := p2.lt
    have la : a < t.heap.objs.size := by
      obtain ⟨o, ho, _⟩ := id p1
      exact Heap.lt_size ho
    refine zip_begins2 (begins_tuple a us.toArray) (begins_list b ws.toArray) p1 p2.isList fun h2 z1 z2 z3 z4 z5 hsz hk => wpAny_pyIter_zip z1 ?_
    refine ⟨t.heap.objs.size + 4, [t.heap.objs.size + 4, t.heap.objs.size + 2, t.heap.objs.size + 3, t.heap.objs.size, t.heap.objs.size + 1], _, _, H1, rfl, I1.kept (t' := t.toks) hk, turn_zipN (a := a) (b := b) (zip_sep2 (fp1 := [a]) (fp2 := [b]) (fun c hc => by rw [List.mem_singleton.mp hc]; exact la) fun c hc => by rw [List.mem_singleton.mp hc]; exact lb) (Nat.ne_of_lt la) (Nat.ne_of_lt (Nat.lt_succ_of_lt lb)), ⟨z1, z2, ⟨_, _, z3⟩, ⟨_, z4, rfl, rfl⟩, ⟨_, z5, rfl, rfl⟩⟩, fresh, q⟩
theorem walk_zipN {K : PySem.W.Frag} {a b : Addr} {xs ys : List V} {n : Nat} (hn : n = min xs.length ys.length) : L2.Walk (ItzN K a b) n (fun H => SqT K H a xs ∧ SqL K H b ys) (YPair (fun i => xs[i]?) (fun i => ys[i]?)) := by
  subst hn
  refine ⟨fun i _ hi q => ?_, fun _ q => ⟨xs, ys, q.1, q.2, by omega, by omega, by omega⟩, fun i H v H2 _ q y => ?_⟩
  · have h1 : i < xs.length := by omega
    have h2 : i < ys.length := by omega
    exact ⟨xs, ys, xs[i], ys[i], q.1, q.2, by simp [h1], by simp [h2]⟩
  · obtain ⟨T, x, z, h1, h2, h3, h4, h5⟩ := y
    exact ⟨T, x, z, h1, h2, h3, h4 xs q.1, h5 ys q.2⟩
end Z

set_option Elab.async false
set_option linter.all false
set_option maxRecDepth 100000
set_option maxHeartbeats 4000000
namespace Z
open PySem PySem.Spec PyProof.Rows L2
section
variable {G : Gx} {k : Nat} {Γ : List (Fk × ZSp)}
/-- only the walk is to be shown -/
theorem Sd.ofI {z : Y} (hE : ∀ S e, (ck (Γ.map (·.1)) z S).E e = false) (hT : ∀ S e, (ck (Γ.map (·.1)) z S).T e = false) (hA : ∀ S e, (ck (Γ.map (·.1)) z S).A e = false) (hO : ∀ S e, (ck (Γ.map (·.1)) z S).O e = false)
    (h : ∀ X W0 S, Good X G W0 k S Γ → ∀ tg e, (ck (Γ.map (·.1)) z S).I tg e = true → PI X tg e (LfI G W0 (vc Γ z))) : Sd G k Γ z where
  E := fun X W0 S g e c => by rw [hE] at c; cases c
  T := fun X W0 S g e c => by rw [hT] at c; cases c
  W := fun X W0 S g op xs p c => by rw [hT] at c; cases c
  A := fun X W0 S g es c => by rw [hA] at c; cases c
  I := h
  O := fun X W0 S g e c => by rw [hO] at c; cases c
/-- data from here on -/
theorem later {B B2 : Addr → Prop} {α α2 : List Addr} {O O2 : List DO} {H H2 : Hp} (hm : ∀ b, Mu B2 α2 O2 b → Mu B α O b ∨ H b = none) (hk : ∀ b o, H b = some o → ¬ Ho α O b → (∀ ps, o ≠ .tbl ps) → H2 b = some o) :
    ∀ a o, ¬ Mu B α O a → H a = some o → (∀ ps, o ≠ .tbl ps) → H2 a = some o ∧ ¬ Mu B2 α2 O2 a := fun b o m e n =>
  ⟨hk b o e (fun z => m (.inr z.ow)) n, fun z => by
    rcases hm b z with z | z
    · exact m z
    · rw [e] at z; cases z⟩
/-- a walk over a list or a tuple -/
def iSeq (K : PySem.W.Frag) (tl : TE) : TI := fun σ H R => tl σ H fun x H1 => ∃ a, x = .ref a ∧ (((∃ xs, SqL K H1 a xs) ∧ R (Itl K a) H1) ∨ ((∃ xs, SqT K H1 a xs) ∧ R (Itt K a) H1))
theorem pi_seq {X : Cx} {tg l : Expr} {tl : TE} (hl : PE X l tl) : PI X tg l (iSeq X.K tl) := by
  refine ⟨fun pins s σ H R I h => ?_⟩
  refine thn (hl.run pins s σ H _ I h) fun v s1 ⟨x, H1, I1, r1, q1⟩ => ?_
  obtain ⟨a, rfl, q⟩ := q1
  cases r1
  rcases q with ⟨⟨xs, hq⟩, q⟩ | ⟨⟨xs, hq⟩, q⟩
  · obtain ⟨its, rv, p, hz⟩ := I1.list hq
    refine wpAny_pyIter_list p.isList ?_
    refine ⟨s1.heap.objs.size, [s1.heap.objs.size], _, _, H1, rfl, I1.kept (t' := s1.toks) fun b o e => Heap.get?_push_of_some _ e, turn_list a _, ⟨_, Heap.get?_push_size _ rfl, rfl, rfl⟩, fun b hb => ?_, q⟩
    cases (show b = s1.heap.objs.size by simpa using hb)
    exact I1.fpOk (Nat.le_refl _) (I1.hok.fresh (Nat.le_refl _))
  · obtain ⟨its, rv, p, hz⟩ := I1.tuple hq
    refine wpAny_pyIter_tuple (show s1.heap.IsTuple a its.toArray from p) ?_
    refine ⟨s1.heap.objs.size, [s1.heap.objs.size], _, _, H1, rfl, I1.kept (t' := s1.toks) fun b o e => Heap.get?_push_of_some _ e, turn_tuple a _, ⟨_, Heap.get?_push_size _ rfl, rfl, rfl⟩, fun b hb => ?_, q⟩
    cases (show b = s1.heap.objs.size by simpa using hb)
    exact I1.fpOk (Nat.le_refl _) (I1.hok.fresh (Nat.le_refl _))
theorem walkD_of {B : Addr → Prop} {α : List Addr} {O : List DO} {H : Hp} {J : It} {vs : List V} {ds : List D} {Gd : Hp → Prop} (wk : L2.Walk J ds.length Gd (YAt vs)) (r : Ats G.K (Mu B α O) H vs ds)
    (hg : ∀ (B2 : Addr → Prop) (α2 : List Addr) (O2 : List DO) (H2 : Hp), (∀ b, Mu B2 α2 O2 b → Mu B α O b ∨ H b = none) → (∀ b o, H b = some o → ¬ Ho α O b → (∀ ps, o ≠ .tbl ps) → H2 b = some o) → Gd H2) : WalkD G B α O H J ds :=
  ⟨_, _, wk, fun B2 α2 O2 H2 hm hk w => ⟨hg B2 α2 O2 H2 hm hk, fun i x H3 hi y => by
    obtain ⟨rfl, e⟩ := y
    obtain ⟨d, e2, a⟩ := r.get e
    exact ⟨d, e2, .inl rfl, a.imp (later hm hk)⟩⟩⟩
theorem unmap {ds ds' : List D} (h : ds.map U.d = ds'.map U.d) : ds = ds' := (List.map_inj_right (fun _ _ h => by cases h; rfl)).mp h
/-- ready to be walked -/
def Rdy (G : Gx) (B : Addr → Prop) (α : List Addr) (O : List DO) (H : Hp) (v : V) (x : D) : Prop :=
  (∃ ds a vs, x = .lst ds ∧ v = .ref a ∧ H a = some (.lst vs) ∧ ¬ Ho α O a ∧ Ats G.K (Mu B α O) H vs ds) ∨ At G.K (Mu B α O) H v x
theorem Rdy.lst {B : Addr → Prop} {α : List Addr} {O : List DO} {H : Hp} {v : V} {ds : List D} (h : Rdy G B α O H v (.lst ds)) : ∃ a vs, v = .ref a ∧ H a = some (.lst vs) ∧ ¬ Ho α O a ∧ Ats G.K (Mu B α O) H vs ds := by
  rcases h with ⟨ds', a, vs, h1, h2, h3, h4, h5⟩ | h
  · cases h1
    exact ⟨a, vs, h2, h3, h4, h5⟩
  · cases h with
    | lst e m r => exact ⟨_, _, rfl, e, fun z => m (.inr z.ow), r⟩
theorem Rdy.tup {B : Addr → Prop} {α : List Addr} {O : List DO} {H : Hp} {v : V} {ds : List D} (h : Rdy G B α O H v (.tup ds)) : ∃ a vs, v = .ref a ∧ H a = some (.tup vs) ∧ ¬ Ho α O a ∧ Ats G.K (Mu B α O) H vs ds := by
  rcases h with ⟨ds', a, vs, h1, _⟩ | h
  · cases h1
  · cases h with
    | tup e m r => exact ⟨_, _, rfl, e, fun z => m (.inr z.ow), r⟩
theorem Rdy.stp {B : Addr → Prop} {α α' : List Addr} {O O' : List DO} {H H' : Hp} {v : V} {x : D} (h : Rdy G B α O H v x) (s : Stp α O H α' O' H') : Rdy G B α' O' H' v x := by
  rcases h with ⟨ds, a, vs, h1, h2, h3, h4, h5⟩ | h
  · refine .inl ⟨ds, a, vs, h1, h2, s.keep a _ h3 h4 (fun _ z => by cases z), fun z => ?_, s.ats h5⟩
    rcases s.hnew a z with z | z
    · exact h4 z
    · rw [h3] at z; cases z
  · exact .inr (s.at_ h)
theorem brK_of {B : Addr → Prop} {α : List Addr} {O : List DO} {H : Hp} {u : U} {v : V} {kk : D → List DO → Prop} (w : Own G B α O H) (a : AtU G.K B α O H v u) (h : brK O u kk) : ∃ x O2, kk x O2 ∧ Stp α O H α O2 H ∧ Own G B α O2 H ∧ Rdy G B α O2 H v x := by
  have dat : (match toD O u with
    | some x => kk x O
    | none => False) → ∃ x O2, kk x O2 ∧ Stp α O H α O2 H ∧ Own G B α O2 H ∧ Rdy G B α O2 H v x := fun h => by
    cases q : toD O u with
    | none => rw [q] at h; exact h.elim
    | some x =>
      rw [q] at h
      exact ⟨x, O, h, Stp.refl, w, .inr (At.of w a q)⟩
  cases u with
  | d x => exact dat h
  | t x => exact dat h
  | l x => exact dat h
  | o j =>
    simp only [brK, go_eq] at h
    cases a with
    | @o _ p ep =>
    cases q : O[j]? with
    | none => simp only [q] at h
    | some o =>
      have hat := w.at_ j p o ep q
      cases o with
      | lst ds =>
        simp only [q] at h
        rw [so_eq] at h
        obtain ⟨vs, e, r⟩ := hat
        have hlt := (List.getElem?_eq_some_iff.mp q).1
        have s : Stp α O H α (O.set j (.brw ds)) H := ⟨⟨[], by simp⟩, fun b u e _ _ => e, fun b e => e, fun b m => .inl (ow_set' q rfl m), fun b m => .inl (ho_set' q (fun z => by cases z) m), fun b m => .inl m⟩
        refine ⟨_, _, h, s, ?_, .inl ⟨ds, p, vs, rfl, rfl, e, fun ⟨i, o, e1, e2, l⟩ => ?_, s.ats r⟩⟩
        · refine ⟨by rw [List.length_set]; exact w.len, w.nd, fun i b o e1 e2 => ?_, w.bt, fun b m => w.nb b (ow_set' q rfl m), w.tabs⟩
          by_cases hi : i = j
          · subst hi
            rw [List.getElem?_set_self hlt] at e2
            cases e2
            rw [ep] at e1
            cases e1
            exact ⟨vs, e, s.ats r⟩
          · rw [List.getElem?_set_ne (Ne.symm hi)] at e2
            exact (w.at_ i b o e1 e2).stp s fun _ => rfl
        · have := nodup_at w.nd e1 ep
          subst this
          rw [List.getElem?_set_self hlt] at e2
          cases e2
          cases l
      | brw ds =>
        simp only [q] at h
        obtain ⟨vs, e, r⟩ := hat
        refine ⟨_, _, h, Stp.refl, w, .inl ⟨ds, p, vs, rfl, rfl, e, fun ⟨i, o, e1, e2, l⟩ => ?_, r⟩⟩
        have := nodup_at w.nd e1 ep
        subst this
        rw [q] at e2
        cases e2
        cases l
      | frz ds =>
        simp only [q] at h
        exact ⟨_, _, h, Stp.refl, w, .inr hat⟩
theorem sd_seq {z : Y} (dz : Sd G k Γ z) : Sd G k Γ (.seq z) := .ofI (fun _ _ => rfl) (fun _ _ => rfl) (fun _ _ => rfl) (fun _ _ => rfl) fun X W0 S g tg e c => by
  refine pi_imp (pi_seq (dz.E X W0 S g e c)) fun σ H Q ⟨B, α, ρ, O, Q0, E0, R, h, hq, hl⟩ => ?_
  refine seqE R h hl fun u O1 f α1 v H1 s1 w1 a1 => ?_
  obtain ⟨x, O2, f, s2, w2, ax⟩ := brK_of w1 a1 f
  cases x with
  | lst ds =>
    obtain ⟨a, vs, rfl, e, m, r⟩ := ax.lst
    obtain ⟨ds', e2, f⟩ := hq _ _ f
    cases unmap e2
    refine ⟨a, rfl, .inl ⟨⟨vs, SqL.of e⟩, f α1 H1 _ (s1.trans s2) w2 ?_⟩⟩
    rw [g.hK]
    exact walkD_of (by rw [← r.length]; exact walk_list (xs := vs)) r fun B2 α2 O2 H2 hm hk => SqL.of (hk _ _ e m (fun _ z => by cases z))
  | tup ds =>
    obtain ⟨a, vs, rfl, e, m, r⟩ := ax.tup
    obtain ⟨ds', e2, f⟩ := hq _ _ f
    cases unmap e2
    refine ⟨a, rfl, .inr ⟨⟨vs, SqT.of e⟩, f α1 H1 _ (s1.trans s2) w2 ?_⟩⟩
    rw [g.hK]
    exact walkD_of (by rw [← r.length]; exact walk_tup (xs := vs)) r fun B2 α2 O2 H2 hm hk => SqT.of (hk _ _ e m (fun _ z => by cases z))
  | _ => exact f.elim
theorem walkD_fn {B : Addr → Prop} {α : List Addr} {O : List DO} {H : Hp} {lo : Int} {n : Nat} : WalkD G B α O H (Itr lo n) ((List.range n).map fun (i : Nat) => D.int (lo + (i : Int))) :=
  ⟨_, _, by rw [List.length_map, List.length_range]; exact walk_range, fun B2 α2 O2 H2 hm hk w => ⟨trivial, fun i x H3 hi y => by
    obtain ⟨rfl, rfl⟩ := y
    rw [List.length_map, List.length_range] at hi
    exact ⟨.int (lo + i), by simp [hi], .inl rfl, .int _⟩⟩⟩
theorem sd_rng {a : Y} (da : Sd G k Γ a) : Sd G k Γ (.rng a) := .ofI (fun _ _ => rfl) (fun _ _ => rfl) (fun _ _ => rfl) (fun _ _ => rfl) fun X W0 S g tg e c => by
  have c' : rngC S.sc (ck (Γ.map (·.1)) a S).E e = true := c
  unfold rngC at c'
  split at c'
  · obtain ⟨c, c4⟩ := ba c'
    obtain ⟨c, c3⟩ := ba c
    obtain ⟨c1, c2⟩ := ba c
    cases of_decide_eq_true c1
    refine pi_imp (pi_range1 (glo_of g c2) (g.free "range" (by decide)) (pa_one (da.E X W0 S g _ c4) c3) (starEach_plain c3)) fun σ H Q ⟨B, α, ρ, O, Q0, E0, R, h, hq, hl⟩ => ?_
    refine seqE R h hl fun u O1 f α1 v H1 s1 w1 a1 => ?_
    obtain ⟨x, e1, f⟩ := nrK_of f
    have ax := Vw.of w1 a1 e1
    cases x with
    | int j =>
      obtain rfl := ax.int
      obtain ⟨ds, e2, f2⟩ := hq _ _ f.2
      refine ⟨j, rfl, f.1.1, f.1.2, f2 α1 H1 _ s1 w1 ?_⟩
      rw [← unmap e2]
      exact walkD_fn
    | _ => exact f.elim
  · cases c'
theorem sd_rng2 {a b : Y} (da : Sd G k Γ a) (db : Sd G k Γ b) : Sd G k Γ (.rng2 a b) := .ofI (fun _ _ => rfl) (fun _ _ => rfl) (fun _ _ => rfl) (fun _ _ => rfl) fun X W0 S g tg e c => by
  have c' : rng2C S.sc (ck (Γ.map (·.1)) a S).E (ck (Γ.map (·.1)) b S).E e = true := c
  unfold rng2C at c'
  split at c'
  · obtain ⟨c, c6⟩ := ba c'
    obtain ⟨c, c5⟩ := ba c
    obtain ⟨c, c4⟩ := ba c
    obtain ⟨c, c3⟩ := ba c
    obtain ⟨c1, c2⟩ := ba c
    cases of_decide_eq_true c1
    refine pi_imp (pi_range2 (glo_of g c2) (g.free "range" (by decide)) (pa_two (da.E X W0 S g _ c5) (db.E X W0 S g _ c6) c3 c4) (by rw [starEach_plain c3, starEach_plain c4]; rfl) (by rw [starEach_plain c4]; rfl)) fun σ H Q ⟨B, α, ρ, O, Q0, E0, R, h, hq, hl⟩ => ?_
    refine seq2 R h hl fun u w O2 f α2 v v2 H2 s2 w2 a1 a2 => ?_
    obtain ⟨x, e1, f⟩ := nrK_of f
    obtain ⟨y, e2, f⟩ := nrK_of f
    have ax := Vw.of w2 a1 e1
    have ay := Vw.of w2 a2 e2
    split at f
    · obtain rfl := ax.int
      obtain rfl := ay.int
      obtain ⟨ds, e2, f2⟩ := hq _ _ f.2
      refine ⟨_, _, rfl, f.1, f2 α2 H2 _ s2 w2 ?_⟩
      rw [← unmap e2]
      exact walkD_fn
    · exact f.elim
  · cases c'
theorem isTup_of {e : Expr} (h : isTup e = true) : ∃ es kk p, e = .Tuple es kk p := by
  cases e <;> first | exact ⟨_, _, _, rfl⟩ | cases h
theorem walkD_pair {B : Addr → Prop} {α : List Addr} {O : List DO} {H : Hp} {J : It} {ds : List D} {Gd : Hp → Prop} {xs ys : Nat → Option V} (wk : L2.Walk J ds.length Gd (YPair xs ys))
    (hg : ∀ (B2 : Addr → Prop) (α2 : List Addr) (O2 : List DO) (H2 : Hp), (∀ b, Mu B2 α2 O2 b → Mu B α O b ∨ H b = none) → (∀ b o, H b = some o → ¬ Ho α O b → (∀ ps, o ≠ .tbl ps) → H2 b = some o) → Gd H2)
    (hd : ∀ i x y, i < ds.length → xs i = some x → ys i = some y → ∃ d e, ds[i]? = some (.tup [d, e]) ∧ At G.K (Mu B α O) H x d ∧ At G.K (Mu B α O) H y e) : WalkD G B α O H J ds :=
  ⟨_, _, wk, fun B2 α2 O2 H2 hm hk w => ⟨hg B2 α2 O2 H2 hm hk, fun i x H3 hi y => by
    obtain ⟨T, x, y, rfl, hT, rfl, e1, e2⟩ := y
    obtain ⟨d, e, e3, a1, a2⟩ := hd i x y hi e1 e2
    exact ⟨_, e3, .inr ⟨T, _, hT, rfl⟩, At.tupNew w hT (.cons (a1.imp (later hm hk)) (.cons (a2.imp (later hm hk)) .nil))⟩⟩⟩
theorem sd_enm {z : Y} (dz : Sd G k Γ z) : Sd G k Γ (.enm z) := .ofI (fun _ _ => rfl) (fun _ _ => rfl) (fun _ _ => rfl) (fun _ _ => rfl) fun X W0 S g tg e c => by
  have c' : enmC S.sc (ck (Γ.map (·.1)) z S).E tg e = true := c
  unfold enmC at c'
  split at c'
  · obtain ⟨c, c5⟩ := ba c'
    obtain ⟨c, c4⟩ := ba c
    obtain ⟨c, c3⟩ := ba c
    obtain ⟨c1, c2⟩ := ba c
    cases of_decide_eq_true c2
    obtain ⟨es, kk, tp, rfl⟩ := isTup_of c1
    refine pi_imp (pi_enumA (glo_of g c3) (g.free "enumerate" (by decide)) (pa_one (dz.E X W0 S g _ c5) c4) (starEach_plain c4)) fun σ H Q ⟨B, α, ρ, O, Q0, E0, R, h, hq, hl⟩ => ?_
    refine seqE R h hl fun u O1 f α1 v H1 s1 w1 a1 => ?_
    obtain ⟨x, O2, f, s2, w2, ax⟩ := brK_of w1 a1 f
    cases x with
    | lst ds =>
      obtain ⟨a, vs, rfl, e, m, r⟩ := ax.lst
      obtain ⟨ds', e2, f⟩ := hq _ _ f
      refine ⟨a, vs, rfl, .inl ⟨SqL.of e, f α1 H1 _ (s1.trans s2) w2 ?_⟩⟩
      rw [← unmap e2, g.hK]
      refine walkD_pair (by rw [List.length_mapIdx, ← r.length]; exact walk_enum (xs := vs)) (fun B2 α2 O2 H2 hm hk => SqL.of (hk _ _ e m (fun _ z => by cases z))) fun i x y hi h1 h2 => ?_
      obtain ⟨d, e3, a3⟩ := r.get h2
      cases h1
      exact ⟨_, d, by rw [List.getElem?_mapIdx, e3]; rfl, .int _, a3⟩
    | tup ds =>
      obtain ⟨a, vs, rfl, e, m, r⟩ := ax.tup
      obtain ⟨ds', e2, f⟩ := hq _ _ f
      refine ⟨a, vs, rfl, .inr ⟨SqT.of e, f α1 H1 _ (s1.trans s2) w2 ?_⟩⟩
      rw [← unmap e2, g.hK]
      refine walkD_pair (by rw [List.length_mapIdx, ← r.length]; exact walk_enumT (xs := vs)) (fun B2 α2 O2 H2 hm hk => SqT.of (hk _ _ e m (fun _ z => by cases z))) fun i x y hi h1 h2 => ?_
      obtain ⟨d, e3, a3⟩ := r.get h2
      cases h1
      exact ⟨_, d, by rw [List.getElem?_mapIdx, e3]; rfl, .int _, a3⟩
    | _ => exact f.elim
  · cases c'
theorem sd_zip {a b : Y} (da : Sd G k Γ a) (db : Sd G k Γ b) : Sd G k Γ (.zip a b) := .ofI (fun _ _ => rfl) (fun _ _ => rfl) (fun _ _ => rfl) (fun _ _ => rfl) fun X W0 S g tg e c => by
  have c' : zipC S.sc (ck (Γ.map (·.1)) a S).E (ck (Γ.map (·.1)) b S).E tg e = true := c
  unfold zipC at c'
  split at c'
  · obtain ⟨c, c7⟩ := ba c'
    obtain ⟨c, c6⟩ := ba c
    obtain ⟨c, c5⟩ := ba c
    obtain ⟨c, c4⟩ := ba c
    obtain ⟨c, c3⟩ := ba c
    obtain ⟨c1, c2⟩ := ba c
    cases of_decide_eq_true c2
    obtain ⟨es, kk, tp, rfl⟩ := isTup_of c1
    refine pi_imp (pi_zipN (glo_of g c3) (g.free "zip" (by decide)) (pa_two (da.E X W0 S g _ c6) (db.E X W0 S g _ c7) c4 c5) (starEach_plain c4) (any_plain (by rw [List.all_cons, c5]; rfl))) fun σ H Q ⟨B, α, ρ, O, Q0, E0, R, h, hq, hl⟩ => ?_
    refine seq2 R h hl fun u w O2 f α2 v v2 H2 s2 w2 a1 a2 => ?_
    obtain ⟨x, O3, f, s3, w3, ax⟩ := brK_of w2 a1 f
    obtain ⟨y, O4, f, s4, w4, ay⟩ := brK_of w3 (s3.atU a2) f
    have ax := ax.stp s4
    have s24 := (s2.trans s3).trans s4
    have get : ∀ {vs ws : List V} {ds es : List D}, Ats G.K (Mu B α2 O4) H2 vs ds → Ats G.K (Mu B α2 O4) H2 ws es → ∀ (i : Nat) (x y : V), vs[i]? = some x → ws[i]? = some y → ∃ d e, (List.zipWith (fun d e => D.tup [d, e]) ds es)[i]? = some (D.tup [d, e]) ∧ At G.K (Mu B α2 O4) H2 x d ∧ At G.K (Mu B α2 O4) H2 y e := by
      intro vs ws ds es r1 r2 i x y h1 h2
      obtain ⟨d, e3, a3⟩ := r1.get h1
      obtain ⟨e, e4, a4⟩ := r2.get h2
      exact ⟨d, e, by rw [List.getElem?_zipWith, e3, e4], a3, a4⟩
    split at f
    · obtain ⟨a, vs, rfl, e, m, r⟩ := ax.lst
      obtain ⟨b, ws, rfl, e', m', r'⟩ := ay.lst
      obtain ⟨ds', e2, f⟩ := hq _ _ f
      refine .inl ⟨a, b, vs, ws, rfl, .inl ⟨SqL.of e, SqL.of e', f α2 H2 _ s24 w4 ?_⟩⟩
      rw [← unmap e2, g.hK]
      refine walkD_pair (walk_zip (xs := vs) (ys := ws) (by rw [List.length_zipWith, r.length, r'.length])) (fun B2 α2 O2 H2 hm hk => ⟨SqL.of (hk _ _ e m (fun _ z => by cases z)), SqL.of (hk _ _ e' m' (fun _ z => by cases z))⟩) fun i x y hi h1 h2 => get r r' i x y h1 h2
    · obtain ⟨a, vs, rfl, e, m, r⟩ := ax.tup
      obtain ⟨b, ws, rfl, e', m', r'⟩ := ay.tup
      obtain ⟨ds', e2, f⟩ := hq _ _ f
      refine .inl ⟨a, b, vs, ws, rfl, .inr ⟨SqT.of e, SqT.of e', f α2 H2 _ s24 w4 ?_⟩⟩
      rw [← unmap e2, g.hK]
      refine walkD_pair (Gd := fun H => SqT G.K H a vs ∧ SqT G.K H b ws) (xs := fun i => vs[i]?) (ys := fun i => ws[i]?) ?_ (fun B2 α2 O2 H2 hm hk => ⟨SqT.of (hk _ _ e m (fun _ z => by cases z)), SqT.of (hk _ _ e' m' (fun _ z => by cases z))⟩) fun i x y hi h1 h2 => get r r' i x y h1 h2
      rw [List.length_zipWith, ← r.length, ← r'.length]
      refine ⟨fun i _ hi q => ?_, fun _ q => ⟨vs, ws, q.1, q.2, by omega⟩, fun i H v H' _ q y => ?_⟩
      · have h1 : i < vs.length := by omega
        have h2 : i < ws.length := by omega
        exact ⟨vs, ws, vs[i], ws[i], q.1, q.2, by simp [h1], by simp [h2]⟩
      · obtain ⟨T, x, z, h1, h2, h3, h4, h5⟩ := y
        exact ⟨T, x, z, h1, h2, h3, h4 vs q.1, h5 ws q.2⟩
    · obtain ⟨a, vs, rfl, e, m, r⟩ := ax.lst
      obtain ⟨b, ws, rfl, e', m', r'⟩ := ay.tup
      obtain ⟨ds', e2, f⟩ := hq _ _ f
      refine .inr (.inl ⟨a, b, vs, ws, rfl, SqL.of e, SqT.of e', f α2 H2 _ s24 w4 ?_⟩)
      rw [← unmap e2, g.hK]
      refine walkD_pair (walk_zipM (xs := vs) (ys := ws) (by rw [List.length_zipWith, r.length, r'.length])) (fun B2 α2 O2 H2 hm hk => ⟨SqL.of (hk _ _ e m (fun _ z => by cases z)), SqT.of (hk _ _ e' m' (fun _ z => by cases z))⟩) fun i x y hi h1 h2 => get r r' i x y h1 h2
    · obtain ⟨a, vs, rfl, e, m, r⟩ := ax.tup
      obtain ⟨b, ws, rfl, e', m', r'⟩ := ay.lst
      obtain ⟨ds', e2, f⟩ := hq _ _ f
      refine .inr (.inr ⟨a, b, vs, ws, rfl, SqT.of e, SqL.of e', f α2 H2 _ s24 w4 ?_⟩)
      rw [← unmap e2, g.hK]
      refine walkD_pair (walk_zipN (xs := vs) (ys := ws) (by rw [List.length_zipWith, r.length, r'.length])) (fun B2 α2 O2 H2 hm hk => ⟨SqT.of (hk _ _ e m (fun _ z => by cases z)), SqL.of (hk _ _ e' m' (fun _ z => by cases z))⟩) fun i x y hi h1 h2 => get r r' i x y h1 h2
    · exact f.elim
  · cases c'
theorem sd_rev {z : Y} (dz : Sd G k Γ z) : Sd G k Γ (.rev z) := .ofI (fun _ _ => rfl) (fun _ _ => rfl) (fun _ _ => rfl) (fun _ _ => rfl) fun X W0 S g tg e c => by
  have c' : revC S.sc (ck (Γ.map (·.1)) z S).E e = true := c
  unfold revC at c'
  split at c'
  · obtain ⟨c, c4⟩ := ba c'
    obtain ⟨c, c3⟩ := ba c
    obtain ⟨c1, c2⟩ := ba c
    cases of_decide_eq_true c1
    refine pi_imp (pi_reversed (glo_of g c2) (g.free "reversed" (by decide)) (pa_one (dz.E X W0 S g _ c4) c3) (starEach_plain c3)) fun σ H Q ⟨B, α, ρ, O, Q0, E0, R, h, hq, hl⟩ => ?_
    refine seqE R h hl fun u O1 f α1 v H1 s1 w1 a1 => ?_
    obtain ⟨x, O2, f, s2, w2, ax⟩ := brK_of w1 a1 f
    cases x with
    | lst ds =>
      obtain ⟨a, vs, rfl, e, m, r⟩ := ax.lst
      obtain ⟨ds', e2, f⟩ := hq _ _ f
      refine ⟨a, vs, rfl, SqL.of e, f α1 H1 _ (s1.trans s2) w2 ?_⟩
      rw [← unmap e2, g.hK]
      refine ⟨_, _, by rw [List.length_reverse, ← r.length]; exact walk_rev, fun B2 α2 O2 H2 hm hk w => ⟨SqL.of (hk _ _ e m (fun _ z => by cases z)), fun i x H3 hi y => ?_⟩⟩
      obtain ⟨rfl, e3⟩ := y
      rw [List.length_reverse] at hi
      obtain ⟨d, e4, a4⟩ := r.get e3
      refine ⟨d, ?_, .inl rfl, a4.imp (later hm hk)⟩
      rw [List.getElem?_reverse hi, ← r.length]
      exact e4
    | _ => exact f.elim
  · cases c'
end
end Z

set_option Elab.async false
set_option linter.all false
set_option maxRecDepth 100000
set_option maxHeartbeats 4000000
namespace Z
open PySem PySem.Spec PyProof.Rows L2
/-! ### targets -/
def LfG (G : Gx) (tg : T1) : TG := fun v σ H Q => ∃ B α O ρ d Q0, Rep G B α σ H ρ O ∧ At G.K (Mu B α O) H v d ∧ bindT tg d ρ Q0 ∧
  ∀ ρ', Q0 ρ' → ∀ σ', Rep G B α σ' H ρ' O → (∀ i, i ∉ slots tg → σ'[i]? = σ[i]?) → σ'.length = σ.length → Q σ' H
def LfGs (G : Gx) (tg : T1) : TGs := fun vs σ H Q => ∃ B α O ρ ds Q0, Rep G B α σ H ρ O ∧ Ats G.K (Mu B α O) H vs ds ∧ bindTs tg ds ρ Q0 ∧
  ∀ ρ', Q0 ρ' → ∀ σ', Rep G B α σ' H ρ' O → (∀ i, i ∉ slots tg → σ'[i]? = σ[i]?) → σ'.length = σ.length → Q σ' H
theorem pg_imp {X : Cx} {e : Expr} {t t' : TG} (h : PG X e t) (i : ∀ v σ H Q, t' v σ H Q → t v σ H Q) : PG X e t' := ⟨fun pins s σ H v u Q I r q => h.run pins s σ H v u Q I r (i v σ H Q q)⟩
theorem pg_or {X : Cx} {e : Expr} {t t' : TG} (h : PG X e t) (h' : PG X e t') : PG X e (fun v σ H Q => t v σ H Q ∨ t' v σ H Q) := ⟨fun pins s σ H v u Q I r q => q.elim (fun q => h.run pins s σ H v u Q I r q) fun q => h'.run pins s σ H v u Q I r q⟩
theorem pgs_imp {X : Cx} {e : List Expr} {t t' : TGs} (h : PGs X e t) (i : ∀ v σ H Q, t' v σ H Q → t v σ H Q) : PGs X e t' := ⟨fun pins s σ H v u Q I r q => h.run pins s σ H v u Q I r (i v σ H Q q)⟩
theorem pts_imp {X : Cx} {e : List Expr} {t t' : TT} (h : PTs X e t) (i : ∀ σ H Q, t' σ H Q → t σ H Q) : PTs X e t' := ⟨fun pins s σ H Q I q => h.run pins s σ H Q I (i σ H Q q)⟩
section
variable {G : Gx} {k : Nat} {Γ : List (Fk × ZSp)}
theorem st_len : ∀ (ρ : List (Option U)) (i : Nat) (u : U), (st ρ i u).length = ρ.length
  | [], _, _ => rfl
  | _ :: _, 0, _ => rfl
  | _ :: r, i + 1, u => congrArg (· + 1) (st_len r i u)
theorem gt_lt : ∀ (ρ : List (Option U)) (i : Nat) (u : U), gt ρ i = some u → i < ρ.length
  | [], _, _, h => by cases h
  | _ :: _, 0, _, _ => Nat.succ_pos _
  | _ :: r, i + 1, u, h => Nat.succ_lt_succ (gt_lt r i u h)
theorem Rep.st {B : Addr → Prop} {α : List Addr} {σ : L2.St} {H : Hp} {ρ : List (Option U)} {O : List DO} (R : Rep G B α σ H ρ O) (i : Nat) {v : V} {u : U} (a : AtU G.K B α O H v u) : Rep G B α (σ.set i (some v)) H (st ρ i u) O := by
  refine ⟨fun j w e => ?_, R.own, by rw [st_len, List.length_set]; exact R.len⟩
  have hj := gt_lt _ _ _ e
  rw [st_len] at hj
  rcases gt_st ρ i j u w e with ⟨rfl, rfl⟩ | ⟨hne, e⟩
  · exact ⟨v, by rw [List.getElem?_set_self (Nat.lt_of_lt_of_le hj R.len)], a⟩
  · obtain ⟨v', e1, a1⟩ := R.vars j w e
    exact ⟨v', by rw [List.getElem?_set_ne (Ne.symm hne)]; exact e1, a1⟩
theorem assignEach_plain {e : Expr} {es : List Expr} {env : Env} (h : noStar e = true) : assignEach (e :: es) env = (false, assign e env) :: assignEach es env := by
  cases e <;> first | rfl | cases h
theorem ckGs_star {S : Sx} {env : Env} : ∀ {r : T1} {es : List Expr}, ckGs S r es = true → (assignEach es env).length = es.length ∧ (assignEach es env).findIdx? (·.1) = none
  | _, [], _ => ⟨rfl, rfl⟩
  | .cons a r, e :: es, h => by
    rw [ckGs] at h
    obtain ⟨h, h3⟩ := ba h
    obtain ⟨h1, h2⟩ := ba h
    obtain ⟨i1, i2⟩ := ckGs_star (env := env) h3
    rw [assignEach_plain h1]
    refine ⟨by rw [List.length_cons, List.length_cons, i1], ?_⟩
    rw [List.findIdx?_cons]
    show (if false = true then some 0 else _) = none
    rw [if_neg (by decide), i2]
    rfl
  | .nm _, e :: es, h => by rw [ckGs] at h; cases h; all_goals (intros; contradiction)
  | .tp _, e :: es, h => by rw [ckGs] at h; cases h; all_goals (intros; contradiction)
  | .nil, e :: es, h => by rw [ckGs] at h; cases h; all_goals (intros; contradiction)
def tlen : T1 → Nat
  | .cons _ r => tlen r + 1
  | _ => 0
mutual
theorem bindT_ex : ∀ {t : T1} {d : D} {ρ : List (Option U)} {k : List (Option U) → Prop}, bindT t d ρ k → ∃ ρ', k ρ'
  | .nm i, d, ρ, k, h => ⟨_, h⟩
  | .tp r, d, ρ, k, h => by
    cases d <;> first | exact bindTs_ex (t := r) h | exact False.elim h
  | .nil, d, ρ, k, h => h.elim
  | .cons _ _, d, ρ, k, h => h.elim
theorem bindTs_ex : ∀ {t : T1} {ds : List D} {ρ : List (Option U)} {k : List (Option U) → Prop}, bindTs t ds ρ k → ∃ ρ', k ρ'
  | .nil, [], ρ, k, h => ⟨_, h⟩
  | .nil, _ :: _, ρ, k, h => h.elim
  | .cons a r, d :: ds, ρ, k, h => by
    obtain ⟨ρ1, h⟩ := bindT_ex (t := a) (d := d) h
    exact bindTs_ex h
  | .cons a r, [], ρ, k, h => h.elim
  | .nm _, ds, ρ, k, h => h.elim
  | .tp _, ds, ρ, k, h => h.elim
end
theorem bindTs_len : ∀ {t : T1} {ds : List D} {ρ : List (Option U)} {k : List (Option U) → Prop}, bindTs t ds ρ k → ds.length = tlen t
  | .nil, [], ρ, k, h => rfl
  | .nil, _ :: _, ρ, k, h => h.elim
  | .cons a r, d :: ds, ρ, k, h => by
    obtain ⟨ρ1, h⟩ := bindT_ex (t := a) (d := d) h
    exact congrArg (· + 1) (bindTs_len h)
  | .cons a r, [], ρ, k, h => h.elim
  | .nm _, ds, ρ, k, h => h.elim
  | .tp _, ds, ρ, k, h => h.elim
theorem ckGs_len {S : Sx} : ∀ {r : T1} {es : List Expr}, ckGs S r es = true → es.length = tlen r
  | .nil, [], _ => rfl
  | .cons a r, [], h => by rw [ckGs] at h; cases h; all_goals (intros; contradiction)
  | .nm _, [], h => by rw [ckGs] at h; cases h; all_goals (intros; contradiction)
  | .tp _, [], h => by rw [ckGs] at h; cases h; all_goals (intros; contradiction)
  | .cons a r, e :: es, h => by
    rw [ckGs] at h
    obtain ⟨h, h3⟩ := ba h
    rw [List.length_cons, ckGs_len h3]
    rfl
  | .nm _, e :: es, h => by rw [ckGs] at h; cases h; all_goals (intros; contradiction)
  | .tp _, e :: es, h => by rw [ckGs] at h; cases h; all_goals (intros; contradiction)
  | .nil, e :: es, h => by rw [ckGs] at h; cases h; all_goals (intros; contradiction)
mutual
theorem sd_tg {X : Cx} {W0 : XK} {S : Sx} (g : Good X G W0 k S Γ) : ∀ {t : T1} {e : Expr}, ckG S t e = true → PG X e (LfG G t)
  | .nm i, e, h => by
    rw [ckG.eq_def] at h
    split at h
    · rename_i j x p h0
      cases h0
      obtain ⟨h1, h2⟩ := ba h
      obtain ⟨l, hf⟩ := g.sto x h2
      refine pg_imp (pg_name g.nd (by rw [g.hN]; exact of_decide_eq_true h1) l hf) fun v σ H Q ⟨B, α, O, ρ, d, Q0, R, a, h, hq⟩ => ?_
      refine hq _ h _ (R.st i (.d a)) (fun j hj => ?_) List.length_set
      rw [List.getElem?_set_ne (fun z => hj (by rw [← z]; simp [slots]))]
    · rename_i h0; cases h0
    · cases h
  | .tp r, e, h => by
    rw [ckG.eq_def] at h
    split at h
    · rename_i h0; cases h0
    · rename_i r' es p1 p2 h0
      cases h0
      obtain ⟨i1, i2⟩ := ckGs_star (env := X.env) h
      refine pg_imp (pg_or (pg_tup g.calm (sd_tgs g h) i1 i2) (pg_unl g.calm (sd_tgs g h) i1 i2)) fun v σ H Q ⟨B, α, O, ρ, d, Q0, R, a, hb, hq⟩ => ?_
      cases d with
      | tup ds =>
        cases a with
        | @tup p vs ds e m r' =>
        have hb' : bindTs r ds ρ Q0 := hb
        refine .inl ⟨p, vs, rfl, by rw [g.hK]; exact SqT.of e, by rw [r'.length, ckGs_len h, bindTs_len hb'], B, α, O, ρ, ds, Q0, R, r', hb', fun ρ' q σ' R' hs hl => hq ρ' q σ' R' (fun i hi => hs i (by simpa [slots] using hi)) hl⟩
      | lst ds =>
        have hb' : bindTs r ds ρ Q0 := hb
        obtain ⟨p, vs, rfl, e, r'⟩ := (Vw.at_ a).lst
        refine .inr ⟨p, vs, rfl, by rw [g.hK]; exact SqL.of e, by rw [r'.length, ckGs_len h, bindTs_len hb'], B, α, O, ρ, ds, Q0, R, r', hb', fun ρ' q σ' R' hs hl => hq ρ' q σ' R' (fun i hi => hs i (by simpa [slots] using hi)) hl⟩
      | _ => exact False.elim hb
    · cases h
  | .nil, e, h => by rw [ckG] at h; cases h; all_goals (intros; contradiction)
  | .cons _ _, e, h => by rw [ckG] at h; cases h; all_goals (intros; contradiction)
theorem sd_tgs {X : Cx} {W0 : XK} {S : Sx} (g : Good X G W0 k S Γ) : ∀ {t : T1} {es : List Expr}, ckGs S t es = true → PGs X es (LfGs G t)
  | .nil, [], h => by
    refine pgs_imp pgs_nil fun v σ H Q ⟨B, α, O, ρ, ds, Q0, R, a, hb, hq⟩ => ?_
    cases a with
    | nil => exact ⟨rfl, hq _ hb _ R (fun _ _ => rfl) rfl⟩
    | cons _ _ => exact False.elim hb
  | .cons t r, e :: es, h => by
    rw [ckGs] at h
    obtain ⟨h, h3⟩ := ba h
    obtain ⟨h1, h2⟩ := ba h
    refine pgs_imp (pgs_cons (sd_tg g h2) (sd_tgs g h3) (by rw [assignEach_plain h1]; rfl)) fun v σ H Q ⟨B, α, O, ρ, ds, Q0, R, a, hb, hq⟩ => ?_
    cases a with
    | nil => exact False.elim hb
    | @cons v' d vs' ds a ar =>
      refine ⟨v', vs', rfl, B, α, O, ρ, d, _, R, a, hb, fun ρ1 q1 σ1 R1 hs1 hl1 => ?_⟩
      refine ⟨B, α, O, ρ1, ds, Q0, R1, ar, q1, fun ρ2 q2 σ2 R2 hs2 hl2 => hq ρ2 q2 σ2 R2 (fun i hi => ?_) (hl2.trans hl1)⟩
      have hi' : i ∉ slots t ∧ i ∉ slots r := by simpa [slots] using hi
      rw [hs2 i hi'.2, hs1 i hi'.1]
  | .nil, e :: es, h => by rw [ckGs] at h; cases h; all_goals (intros; contradiction)
  | .cons _ _, [], h => by rw [ckGs] at h; cases h; all_goals (intros; contradiction)
  | .nm _, _, h => by rw [ckGs] at h; cases h; all_goals (intros; contradiction)
  | .tp _, _, h => by rw [ckGs] at h; cases h; all_goals (intros; contradiction)
end
end
end Z

set_option Elab.async false
set_option linter.all false
set_option maxRecDepth 100000
set_option maxHeartbeats 4000000
namespace Z
open PySem PySem.Spec PyProof.Rows L2
section
variable {G : Gx} {k : Nat} {Γ : List (Fk × ZSp)}
theorem good_lam {X : Cx} {W0 : XK} {S : Sx} (g : Good X G W0 k S Γ) {scope : Scope} (L : LamX.LamS X.env.scope scope) (A : Around) (outer : List Env) (t : Shared) (HZ : Hp) (E : XK) (f c' : Addr) (hr : Room k (A.deeper (LamX.lamEnv X scope t.heap.objs.size f c'))) :
    Good (LamX.lamCx X A outer t HZ E scope f c') G E k (S.inn scope scope) Γ where
  hN := g.hN
  nd := g.nd
  sc := rfl
  calm := rfl
  hK := g.hK
  takes := takes_of rfl rfl rfl rfl
  rm := hr
  fns := g.fns
  free := g.free
  sto := fun x h => by
    have h : ownB scope x = true := h
    unfold ownB at h
    split at h
    · rename_i q
      exact absurd rfl (L.own _ (PySem.mem_of_lookup q)).1
    · rename_i q
      exact absurd rfl (L.own _ (PySem.mem_of_lookup q)).2
    · cases h
  gi := g.gi
  gs := g.gs
  xs := g.xs
  lam := fun z => by cases z
theorem lookD_of {K : PySem.W.Frag} {M : Addr → Prop} {H : Hp} : ∀ {fs : List (Str × V)} {gs : List (Str × D)}, fs.map (·.1) = gs.map (·.1) → Ats K M H (fs.map (·.2)) (gs.map (·.2)) → ∀ {n : Str} {d : D}, gs.lookup n = some d → ∃ v, fs.lookup n = some v ∧ At K M H v d
  | [], [], _, _, n, d, h => by cases h
  | [], _ :: _, e, _, _, _, _ => by cases e
  | _ :: _, [], e, _, _, _, _ => by cases e
  | (a, v) :: fs, (b, d0) :: gs, e, r, n, d, h => by
    obtain ⟨e1, e2⟩ := List.cons.inj e
    have e1 : a = b := e1
    subst e1
    cases r with
    | cons x r =>
    by_cases hn : n = a
    · subst hn
      simp [List.lookup] at h ⊢
      subst h
      exact x
    · have hb : (n == a) = false := by simpa using hn
      simp only [List.lookup, hb] at h ⊢
      exact lookD_of e2 r h
theorem lookAll_of {K : PySem.W.Frag} {M : Addr → Prop} {H : Hp} {fs : List (Str × V)} {gs : List (Str × D)} (e : fs.map (·.1) = gs.map (·.1)) (r : Ats K M H (fs.map (·.2)) (gs.map (·.2))) : ∀ {ns : List Str} {ds : List D}, lookD gs ns = some ds → ∃ vs, lookAll fs ns = some vs ∧ Ats K M H vs ds
  | [], ds, h => by cases h; exact ⟨[], rfl, .nil⟩
  | n :: ns, ds, h => by
    rw [lookD] at h
    split at h
    · rename_i v ws h1 h2
      cases h
      obtain ⟨x, e1, a1⟩ := lookD_of e r h1
      obtain ⟨xs, e2, a2⟩ := lookAll_of e r h2
      exact ⟨x :: xs, by rw [lookAll, e1, e2], .cons a1 a2⟩
    · cases h
theorem lookAll_len {fs : List (Str × V)} : ∀ {ns : List Str} {vs : List V}, lookAll fs ns = some vs → vs.length = ns.length
  | [], vs, h => by cases h; rfl
  | n :: ns, vs, h => by
    rw [lookAll] at h
    split at h
    · rename_i v ws h1 h2
      cases h
      exact congrArg (· + 1) (lookAll_len h2)
    · cases h
theorem pick_len (c : Str) : (pickF fldT c).length ≤ 2 := by
  have key : ∀ t : FT, (∀ p ∈ t, p.2.2.length ≤ 2) → (pickF t c).length ≤ 2 := by
    intro t
    induction t with
    | nil => intro _; exact Nat.zero_le _
    | cons p r ih =>
      intro h
      obtain ⟨m, cs, fs⟩ := p
      rw [pickF]
      split
      · exact h _ List.mem_cons_self
      · exact ih fun p hp => h p (List.mem_cons_of_mem _ hp)
  exact key _ (by decide)
theorem stp_ext {α : List Addr} {O : List DO} {H H' : Hp} (e : ExtH H H') : Stp α O H α O H' := ⟨⟨[], by simp⟩, fun b o q _ _ => e b o q, fun b q => (by
  cases z : H b with
  | none => rfl
  | some o =>
    rw [e b o z] at q
    cases q), fun _ m => .inl m, fun _ m => .inl m, fun _ m => .inl m⟩
theorem own_ext {B : Addr → Prop} {α : List Addr} {O : List DO} {H H' : Hp} (w : Own G B α O H) (e : ExtH H H') : Own G B α O H' :=
  ⟨w.len, w.nd, fun k a o e1 e2 => (w.at_ k a o e1 e2).stp (stp_ext e) fun l => by
    obtain ⟨q, e3⟩ := Ow.some w ⟨k, o, e1, e2, l⟩
    rw [e3, e a q e3], fun a m => let ⟨o, q⟩ := w.bt a m; ⟨o, e a o q⟩, w.nb, tabs_keep w.tabs fun b o q _ => e b o q⟩
/-- the suite's reading: the error a, told -/
def rdSuite (K : PySem.W.Frag) (xs : List Str) (a : Addr) (cls : Value) (d : Option Addr) : TS := fun D σ H => ∃ C, C ∈ xs ∧ cls = .ref (He.ga K C) ∧ ∃ dd fs code vs, d = some dd ∧ fsAt 1 a dd fs σ H ∧ fs.lookup ("code" : Str) = some (.str code) ∧ lookAll fs (pickF fldT code) = some vs ∧
  ∀ H' p, ExtH H H' → H p = none → H' p = some (.tup (.str code :: vs)) → D.rt (.ref p) H'
theorem got_suite {Y : Cx} {xs : List Str} {a : Addr} {cls : Value} {d : Option Addr} {oe : Obj} {pn : List (Addr × Obj)} {at_ : Expr} {q1 q2 q3 q4 q5 : Pos} {kk : Nat} {p1 : Pos} (W : AskE Y.K Y.mg xs) (hd : Y.A.depth < recursionLimit) (hz : Zc cls d oe) (hf : ∃ vs, oe.data = .fields vs)
    (hN : Y.N[1]? = some ("_law_e" : Str)) (hl : Y.env.kindOf "_law_e" = some .local) (hg : Y.env.kindOf "_law_fields" = some .globalImplicit) (c : attC "_law_e" "code" at_ = true) :
    PSs (Y.suite a ((a, oe) :: pn)) [.Return (some (.BinOp (.Tuple [at_] kk p1) .Add (.Call (.Name "_law_fields" q1) [.Name "_law_e" q2] [] q3) q4)) q5] (rdSuite Y.K xs a cls d) := by
  refine ⟨fun pins s σ H D I q => ?_⟩
  obtain ⟨C, hC, rfl, dd, fs, code, vs, rfl, q1, q2, q3, q4⟩ := q
  have h : HotE (Y.suite a ((a, oe) :: pn)) 1 "_law_e" a (He.ga Y.K C) dd oe := { hN := hN, vis := .inl hl, okd := by decide, okc := by decide, T := (W.exc C hC).xf, no := (W.exc C hC).no, pn := List.mem_cons_self, hz := hz, hf := hf }
  have st : starEach [at_] (Y.suite a ((a, oe) :: pn)).env = [(false, eval at_ (Y.suite a ((a, oe) :: pn)).env)] := by
    unfold attC at c
    split at c
    · rfl
    · cases c
  refine (pss_one (ps_ret (pe_op (X := Y.suite a ((a, oe) :: pn)) op_catA (pe_tup (pa_cons (hot_att (fs := fs) h (by decide) c) pa_nil st)) (pe_fields (fs := fs) W hC hd hz hf hN hl hg)))).run pins s σ H D I ?_
  refine ⟨q1, .str code, q2, by show 1 ≤ sizeLine; decide, fun p hp => ?_⟩
  have dp : dd ≠ p := ne_of_none q1.2 hp
  refine ⟨⟨q1.1, by rw [upd_ne dp]; exact q1.2⟩, code, vs, q2, q3, ?_, fun H' p2 e2 hp2 => ?_⟩
  · rw [lookAll_len q3]
    exact Nat.le_trans (pick_len code) (by decide)
  · have hpp : H' p = some (.tup [.str code]) := e2 p _ upd_same
    have e3 : ExtH H (upd H' p2 (.tup vs)) := ((ExtH.new hp).trans e2).trans (ExtH.new hp2)
    refine ⟨p, p2, [.str code], vs, rfl, rfl, SqT.of ?_, SqT.of upd_same, ?_, (fun z => absurd z (by simp)), (fun _ z => ?_), (fun _ _ p3 hp3 => ?_)⟩
    · rw [upd_ne (ne_of_none hpp hp2)]
      exact hpp
    · rw [lookAll_len q3]
      exact Nat.le_trans (Nat.add_le_add_left (pick_len code) 1) (by rw [sizeLine_eq]; decide)
    · subst z
      refine q4 _ p e3 hp ?_
      rw [upd_ne (ne_of_none hpp hp2)]
      exact hpp
    · refine q4 _ p3 (e3.trans (ExtH.new hp3)) ?_ upd_same
      cases z : H p3 with
      | none => rfl
      | some o =>
        rw [e3 _ _ z] at hp3
        cases hp3
/-- what _law_got gives: the reading of the lambda's body b -/
def rdGot (G : Gx) (xs : List Str) (t : ZE) (σ : L2.St) (HZ : Hp) (Q : VK) : Prop := ∃ B α ρ O Q0, Rep G B α σ HZ ρ O ∧ t (fun x O2 => x.cls ∈ xs ∧ ∃ f, lawFields x = some f ∧ Q0 [.d f] O2) ρ O (fun ws O2 => oneK ws fun w => toK O2 w fun x => Q0 [.d (.tup [.str "", x])] O2) ∧ QLow G B α O HZ Q0 Q
theorem got_run {X : Cx} {pins : List (Addr × Obj)} {σ : L2.St} {H HZ : Hp} {s t : Shared} {f c' : Addr} {pm ctv : Value} {params : Arguments} {body : Expr} {scope : Scope} {A : Around} {outer : List Env} {Q : VK} {xs : List Str} {tz : ZE} {gf : Addr} (hK : X.K = G.K) (W : AskE X.K X.mg xs)
    (hgf : X.mg "_law_got" = some (.ref gf)) (I : Inv X pins σ H s) (L : LamX.LamS X.env.scope scope)
    (hf : s.heap.get? f = some (lamObj X params body scope pm c' ctv)) (hfn : H f = none) (hfr : f ∉ frs X.stack) (hbind : bindArgs (PySem.W.kla_fn "<lambda>" (X.env.qual ++ "<lambda>") params body scope (cloFrom X.env.cells scope.names []) pm (.ref c') ctv) ⟨[], []⟩ = pure [])
    (hr : Room (k + 2) A) (e0 : Env0 X.prog X.w X.K X.mg X.base A outer t HZ) (up : ∀ H4 h4, Un (frs outer) [] HZ H4 t.heap h4 → Un (frs X.stack) [] H H4 s.heap h4) (hc : HZ c' = some (LamX.CodeO c' (X.env.qual ++ "<lambda>")))
    (hbody : ∀ (A : Around) (outer : List Env) (t : Shared) (HZ : Hp) (E : XK), Room k (A.deeper (LamX.lamEnv X scope t.heap.objs.size f c')) → PE (LamX.lamCx X A outer t HZ E scope f c') body (LfE G E tz)) (h : rdGot G xs tz σ HZ Q) :
    codeAny (model X.prog X.w) A (.call (.ref gf) ⟨[.ref f], []⟩) (CR (L2.CX X.prog X.w) outer X.prog X.w HZ t Q fun _ _ _ => False) t := by
  obtain ⟨gb, sc, ⟨⟨gf', fd, gps, F, hm, hb⟩, fsc⟩, ck⟩ := W.got
  cases hm.symm.trans hgf
  obtain ⟨oc, od, dV, kV, doc, pmg, an, cdv, ct, osl, rfl, lk, hcd, _, _⟩ := F.ex
  have KX : X.K.In t.heap := e0.mod.kin.keeps fun b o e => (e0.bs b o e).1
  have b2 := hb t [.ref f] KX rfl
  refine LamX.run_ofS (k := k + 1) (N := ["_law_ask", "_law_e"]) (ps := ["_law_ask"]) (us := [.ref f]) (vs := [.ref f]) (E := fun _ _ _ => False) lk hcd fsc hr e0 b2 (.cons rfl .nil) rfl fun hr2 => ?_
  unfold gotC at ck
  split at ck
  · rename_i z _ _ a pa pc _ _ _ e1 _ e2 _ _ _ n at_ _ _ g _ m _ _ _ _ _ _
    obtain ⟨ck, k13⟩ := ba ck
    obtain ⟨ck, k12⟩ := ba ck
    obtain ⟨ck, k11⟩ := ba ck
    obtain ⟨ck, k10⟩ := ba ck
    obtain ⟨ck, k9⟩ := ba ck
    obtain ⟨ck, k8⟩ := ba ck
    obtain ⟨ck, k7⟩ := ba ck
    obtain ⟨ck, k6⟩ := ba ck
    obtain ⟨ck, k5⟩ := ba ck
    obtain ⟨ck, k4⟩ := ba ck
    obtain ⟨ck, k3⟩ := ba ck
    obtain ⟨k1, k2⟩ := ba ck
    cases of_decide_eq_true k1
    cases of_decide_eq_true k2
    cases of_decide_eq_true k3
    cases of_decide_eq_true k4
    cases of_decide_eq_true k5
    cases of_decide_eq_true k7
    cases of_decide_eq_true k8
    have k9 := of_decide_eq_true k9
    have k10 := of_decide_eq_true k10
    have k11 := of_decide_eq_true k11
    have k12 := of_decide_eq_true k12
    have k13 := of_decide_eq_true k13
    refine ⟨_, pss_one (ps_try_pair (X := cxOf (L2.CX X.prog X.w) X.prog X.w X.K X.mg X.base ["_law_ask", "_law_e"] "_law_got" sc gf cdv A outer t HZ fun _ _ _ => False) (i := 1) (c1 := .ref (He.ga X.K "NetError")) (c2 := .ref (He.ga X.K "Missing")) (ts := rdSuite X.K xs)
      (tb := fun W D σ' H' => ∃ E : XK, (∀ cls d σ2 H2, E cls d H2 → W cls d σ2 H2) ∧ σ'[0]? = some (some (.ref f)) ∧ H' c' = some (LamX.CodeO c' (X.env.qual ++ "<lambda>")) ∧ LfE G E tz σ H' fun v H1 => ∀ p, H1 p = none → D.rt (.ref p) (upd H1 p (.tup [.str "", v])))
      rfl rfl fsc.nd rfl k13 k9 k10 W.ne W.mi (by decide) (by decide) ?_ ?_), ?_⟩
    · intro W2 pn xe tk
      refine ⟨fun pinsZ sZ σZ H1 D IZ q => ?_⟩
      obtain ⟨E, hE, s0, hc1, q⟩ := q
      have call : PE ((cxOf (L2.CX X.prog X.w) X.prog X.w X.K X.mg X.base ["_law_ask", "_law_e"] "_law_got" sc gf cdv A outer t HZ fun _ _ _ => False).tr pn xe) (.Call (.Name "_law_ask" pa) [] [] pc) (fun σ2 H2 Q2 => σ2[0]? = some (some (.ref f)) ∧ H2 c' = some (LamX.CodeO c' (X.env.qual ++ "<lambda>")) ∧ LfE G E tz σ H2 Q2) := by
        refine ⟨fun pins2 s2 σ2 H2 Q2 I2 q2 => ?_⟩
        obtain ⟨y1, y2, y3⟩ := q2
        refine wpAny_Call_Name_kw (thn ((pe_var (i := 0) rfl (.inl k12) (by decide) (by decide)).run pins2 s2 σ2 H2 (fun v H1 => v = .ref f ∧ H1 = H2) I2 ⟨.ref f, y1, rfl, rfl⟩) fun u s3 ⟨v, H3, I3, r3, e3⟩ => ?_)
        obtain ⟨rfl, rfl⟩ := e3
        cases (show u = Value.ref f from r3)
        have un := up _ _ I3.base
        refine PySem.W.callWith_F0 ⟨_, _, _, _, un.keep f _ hf hfn hfr (by simp)⟩ ?_
        refine of_run I3 (E := E) (passes_call tk hE) ?_
        exact act_run (X := X) (k := k) I L hf hfn hfr hbind hr2 I3.env0 un y2 (fun hr3 => hbody _ _ _ _ _ hr3) y3
      refine (pss_one (ps_ret (pe_tup (pa_cons pe_str (pa_cons call pa_nil))))).run pinsZ sZ σZ H1 D IZ ⟨s0, hc1, ?_⟩
      obtain ⟨B, α, ρ, O, Q1, E1, R, hz, hq, hl⟩ := q
      exact ⟨B, α, ρ, O, Q1, E1, R, hz, fun us O' z => let ⟨u, e, kk⟩ := hq us O' z; ⟨u, e, fun α' v H' s' w' a' => ⟨by show 2 ≤ sizeLine; decide, kk α' v H' s' w' a'⟩⟩, hl⟩
    · intro a oe cls d pn hz hf2
      exact got_suite (Y := cxOf (L2.CX X.prog X.w) X.prog X.w X.K X.mg X.base ["_law_ask", "_law_e"] "_law_got" sc gf cdv A outer t HZ fun _ _ _ => False) W hr2.depth hz hf2 rfl k13 k11 k6
    · obtain ⟨B, α, ρ, O, Q0, R, hz, hq⟩ := h
      refine ⟨fun cls d H' => PySem.W.exmAny X.K cls [.ref (He.ga X.K "NetError"), .ref (He.ga X.K "Missing")] = some true ∧ ∀ σ2 : L2.St, σ2.length = 2 → ∀ a, H' a = none → rdSuite X.K xs a cls d { nx := fun _ _ => False, rt := Q } (σ2.set 1 (some (.ref a))) H',
        fun cls d σ2 H2 z => ⟨z.1, fun hl => z.2 σ2 hl⟩, rfl, hc, ?_⟩
      refine ⟨B, α, ρ, O, _, _, R, hz, fun us O' z => ?_, fun x O' z => ?_⟩
      · obtain ⟨u, e, z⟩ := oneK_of z
        obtain ⟨d, e1, z⟩ := toK_of z
        refine ⟨u, e, fun α' v H' s' w' a' p hp => ?_⟩
        refine hq.to z (s'.trans (stp_new hp)) (own_new w' hp) (.d (At.tupNew w' hp (.cons (.str _) (.cons (At.of w' a' e1) .nil))))
      · obtain ⟨hx, d, e1, z⟩ := z
        intro α' cls dd H' s' w' a'
        obtain ⟨rfl, dx, fs, rfl, e3, nm, e4, r4⟩ := a'
        refine ⟨by rw [← hK]; exact (W.exc _ hx).exm, fun σ2 hl a ha => ?_⟩
        unfold lawFields at e1
        split at e1
        · rename_i code e5
          split at e1
          · rename_i ds e6
            cases e1
            obtain ⟨v, l1, a1⟩ := lookD_of e4 r4 e5
            cases a1
            obtain ⟨vs, l2, r2⟩ := lookAll_of e4 r4 e6
            refine ⟨x.cls, hx, by rw [hK], dx, fs, code, vs, rfl, ⟨?_, e3⟩, l1, l2, fun H2 p x2 hn hp => ?_⟩
            · rw [List.getElem?_set_self (by omega)]
            · refine hq.to z (s'.trans (stp_ext x2)) (own_ext w' x2) (.d (.tup hp (w'.mu_ne hn) (.cons (.str _) ((stp_ext x2).ats r2))))
          · cases e1
        · cases e1
  · cases ck
end
end Z

set_option Elab.async false
set_option linter.all false
set_option maxRecDepth 100000
set_option maxHeartbeats 4000000
namespace Z
open PySem PySem.Spec PyProof.Rows L2
section
variable {G : Gx} {k : Nat} {Γ : List (Fk × ZSp)} {B : Addr → Prop} {α : List Addr} {O : List DO}
theorem lamH_keep {P : Addr} {q : Str} {H H1 : Hp} (h : LamH P q H H1) : (∀ b o, H b = some o → (∀ ps, o ≠ .tbl ps) → H1 b = some o) ∧ ∀ b, H1 b = none → H b = none := by
  rcases h with rfl | ⟨ps, ps', c, hP, hc, rfl⟩
  · exact ⟨fun _ _ e _ => e, fun _ e => e⟩
  · refine ⟨fun b o e n => ?_, fun b e => ?_⟩
    · have h1 : b ≠ P := fun z => by
        rw [z, hP] at e
        exact n ps (Option.some.inj e).symm
      rw [upd_ne (ne_of_none e hc), upd_ne h1]
      exact e
    · by_cases h2 : b = c
      · rw [h2]; exact hc
      · rw [upd_ne h2] at e
        by_cases h1 : b = P
        · rw [h1, upd_same] at e
          cases e
        · rw [upd_ne h1] at e
          exact e
theorem stp_lam {P : Addr} {q : Str} {H H1 : Hp} (h : LamH P q H H1) : Stp α O H α O H1 := ⟨⟨[], by simp⟩, fun b o e _ n => (lamH_keep h).1 b o e n, (lamH_keep h).2, fun _ m => .inl m, fun _ m => .inl m, fun _ m => .inl m⟩
theorem own_lam {P : Addr} {q : Str} {H H1 : Hp} (w : Own G B α O H) (h : LamH P q H H1) (t : LamX.Tabs G.T H1) : Own G B α O H1 := by
  refine ⟨w.len, w.nd, fun k a o e1 e2 => (w.at_ k a o e1 e2).stp (stp_lam h) fun l => ?_, fun a m => ?_, w.nb, t⟩
  · have hh := w.at_ k a o e1 e2
    cases o with
    | lst ds =>
      obtain ⟨vs, e, _⟩ := hh
      rw [e, (lamH_keep h).1 a _ e (fun _ z => by cases z)]
    | brw ds =>
      obtain ⟨vs, e, _⟩ := hh
      rw [e, (lamH_keep h).1 a _ e (fun _ z => by cases z)]
    | frz ds => cases l
  · obtain ⟨o, e⟩ := w.bt a m
    cases q : H1 a with
    | some o => exact ⟨o, rfl⟩
    | none =>
      rw [(lamH_keep h).2 a q] at e
      cases e
theorem noArgs_eq {ps : Arguments} (h : noArgs ps = true) : ps = ⟨[], [], none, [], [], none, []⟩ := by
  unfold noArgs at h
  split at h
  · rfl
  · cases h
theorem noArgs_bind {n q : Str} {body : Expr} {scope : Scope} {cl : List (Str × Addr)} {pm cv ctv : Value} : bindArgs (PySem.W.kla_fn n q ⟨[], [], none, [], [], none, []⟩ body scope cl pm cv ctv) ⟨[], []⟩ = pure [] := by rfl
theorem AskE.less {K : PySem.W.Frag} {mg : Str → Option Value} {xs ys : List Str} (h : AskE K mg xs) (s : ∀ x ∈ ys, x ∈ xs) : AskE K mg ys := ⟨h.fld, h.got, h.is_, h.ne, h.mi, fun C hC => h.exc C (s C hC)⟩
theorem passes0 {X : Cx} : Passes (L2.CX X.prog X.w) X (fun _ _ _ => False) := passes_call LamX.takes0 fun _ _ _ _ h => h
theorem not_ho {H : Hp} (w : Own G B α O H) {c : Addr} {o : HO} (e : H c = some o) (n : ∀ xs, o ≠ .lst xs) : ¬ Ho α O c := fun ⟨j, u, e1, e2, l⟩ => by
  have h := w.at_ j c u e1 e2
  cases u with
  | lst ds =>
    obtain ⟨vs, e3, _⟩ := h
    rw [e] at e3
    exact n vs (Option.some.inj e3)
  | brw _ => cases l
  | frz _ => cases l
theorem codeO_lst {c : Addr} {q : Str} (xs : List V) : LamX.CodeO c q ≠ .lst xs := fun z => by
  unfold LamX.CodeO at z
  cases z
theorem sub_all {xs ys : List Str} (h : (xs.all fun x => decide (x ∈ ys)) = true) : ∀ x ∈ xs, x ∈ ys := fun x hx => of_decide_eq_true (List.all_eq_true.mp h x hx)
theorem sd_got (xs : List Str) {b : Y} (db : Sd G k Γ b) : Sd G k Γ (.got xs b) := .ofE _ (fun _ => rfl) fun X W0 S g e c => by
  unfold gotEC at c
  split at c
  · rename_i f fp ps body scope lp pos
    obtain ⟨c, c7⟩ := ba c
    obtain ⟨c, c6⟩ := ba c
    obtain ⟨c, c5⟩ := ba c
    obtain ⟨c, c4⟩ := ba c
    obtain ⟨c, c3⟩ := ba c
    obtain ⟨c1, c2⟩ := ba c
    cases of_decide_eq_true c2
    cases noArgs_eq c4
    obtain ⟨⟨cc, P, TB, hcode, hmT, hu⟩, W, hst⟩ := g.lam c1
    have W := W.less (sub_all c6)
    obtain ⟨gb, sc, ⟨⟨gf, fd, gps, F, hm, hb⟩, fsc⟩, ck⟩ := id W.got
    have L := LamX.lamS_by (by rw [← g.sc] at c5; exact c5)
    refine ⟨fun pins s σ H Q I h => ?_⟩
    obtain ⟨B, α, ρ, O, Q0, E0, R, h, hq, hl⟩ := h
    refine wpAny_Call_Name_kw (ld_glob I (glo_of g c3) hm ?_ (by decide))
    refine PySem.W.callWith_K (h₀ := X.base) I.ok.mod.kin F.kp ?_ (by rfl) (by rfl)
    have st : starEach [.Lambda ⟨[], [], none, [], [], none, []⟩ body scope lp] X.env = [(false, eval (.Lambda ⟨[], [], none, [], [], none, []⟩ body scope lp) X.env)] := starEach_plain rfl
    rw [st]
    show wpAny _ _ (spliced [(false, eval (.Lambda ⟨[], [], none, [], [], none, []⟩ body scope lp) X.env)]) _ _ s
    refine Calls.spliced_cons (lam_lay (params := ⟨[], [], none, [], [], none, []⟩) I TB hcode hmT hu R.own.tabs rfl (L.has I.ok) fun f c' pm ctv H1 t I1 lh T1 hf hfn hsz hco => ?_)
    refine Calls.spliced_nil ⟨I1.kIn, ?_⟩
    have hfr : f ∉ frs X.stack := fun z => by
      rcases List.mem_cons.mp (I.stkSub _ z) with e | e
      · have h1 := I.lt
        rw [← e] at h1
        exact Nat.lt_irrefl _ (Nat.lt_of_lt_of_le h1 hsz)
      · exact I.nofs hsz e
    have R1 := R.stp (stp_lam lh) (own_lam R.own lh T1)
    have rm : Room (k + 2) X.A := (show Room (k + 3) X.A by have := g.rm; rw [if_pos c1] at this; exact this).mono (by omega)
    refine of_run I1 passes0 ?_
    exact got_run (X := X) (tz := vc Γ b) (outer := X.stack) g.hK W hm I1 L hf hfn hfr noArgs_bind rm I1.env0 (fun _ _ u => u) hco (fun A outer t HZ E hr => db.E _ E _ (good_lam g L A outer t HZ E f c' hr) _ c7)
      ⟨B, α, ρ, O, Q0, R1, h, hq.stp (stp_lam lh)⟩
  · cases c
theorem sd_ask (i : Nat) (xs : List Str) {b d : Y} (db : Sd G k Γ b) (dd : Sd G k Γ d) : Sd G k Γ (.ask i xs b d) := .ofE _ (fun _ => rfl) fun X W0 S g e c => by
  obtain ⟨cn, c⟩ := ba c
  unfold askC at c
  split at c
  · rename_i f fp ps body scope lp de pos _
    obtain ⟨c, c9⟩ := ba c
    obtain ⟨c, c8⟩ := ba c
    obtain ⟨c, c7⟩ := ba c
    obtain ⟨c, c6⟩ := ba c
    obtain ⟨c, c5⟩ := ba c
    obtain ⟨c, c4⟩ := ba c
    obtain ⟨c, c3⟩ := ba c
    obtain ⟨c1, c2⟩ := ba c
    cases of_decide_eq_true c2
    cases noArgs_eq c4
    obtain ⟨⟨cc, P, TB, hcode, hmT, hu⟩, W, hst⟩ := g.lam c1
    have W := W.less (sub_all c6)
    have L := LamX.lamS_by (by rw [← g.sc] at c5; exact c5)
    rw [List.getElem?_map] at cn
    cases q : Γ[i]? with
    | none => rw [q] at cn; cases cn
    | some p =>
    obtain ⟨⟨sn, sk⟩, PS⟩ := p
    rw [q] at cn
    have cn : (match (some (sn, sk) : Option Fk) with
      | some (f, []) => decide (f = "_law_same")
      | _ => false) = true := cn
    cases sk with
    | cons _ _ => cases cn
    | nil =>
    cases of_decide_eq_true cn
    obtain ⟨f3, hm3, hk3, F3⟩ := g.fns i _ PS q
    obtain ⟨ib, isc, ⟨⟨fi, fdi, psi, Fi, hmi, hbi⟩, fsi⟩, cki⟩ := id W.is_
    obtain ⟨gb, gsc, ⟨⟨gf, gfd, gps, GF, hmg, hbg⟩, gfs⟩, gck⟩ := id W.got
    have rm : Room (k + 3) X.A := by have := g.rm; rw [if_pos c1] at this; exact this
    refine ⟨fun pins s σ H Q I h => ?_⟩
    obtain ⟨B, α, ρ, O, Q0, E0, R, h, hq, hl⟩ := h
    refine wpAny_Call_Name_kw (ld_glob I (glo_of g c3) hmi ?_ (by decide))
    refine PySem.W.callWith_K (h₀ := X.base) I.ok.mod.kin Fi.kp ?_ (by rfl) (any_plain (by rw [List.all_cons, c8]; rfl))
    have st : starEach [.Lambda ⟨[], [], none, [], [], none, []⟩ body scope lp, de] X.env = [(false, eval (.Lambda ⟨[], [], none, [], [], none, []⟩ body scope lp) X.env), (false, eval de X.env)] := by
      rw [starEach_plain rfl, starEach_plain c8]
      rfl
    rw [st]
    show wpAny _ _ (spliced [(false, eval (.Lambda ⟨[], [], none, [], [], none, []⟩ body scope lp) X.env), (false, eval de X.env)]) _ _ s
    refine Calls.spliced_cons (lam_lay (params := ⟨[], [], none, [], [], none, []⟩) I TB hcode hmT hu R.own.tabs rfl (L.has I.ok) fun f c' pm ctv H1 t I1 lh T1 hf hfn hsz hco => ?_)
    have hfs : f ∉ X.fs := fun z => I.nofs hsz z
    have hfl : f ≠ X.env.locals := fun z => by
      have h1 := I.lt
      rw [← z] at h1
      exact Nat.lt_irrefl _ (Nat.lt_of_lt_of_le h1 hsz)
    have w1 := own_lam R.own lh T1
    have R1 := R.stp (stp_lam lh) w1
    have I1p : Inv X (pins ++ [(f, lamObj X ⟨[], [], none, [], [], none, []⟩ body scope pm c' ctv)]) σ H1 t := I1.pins_of fun p hp => by
      rcases List.mem_append.mp hp with hp | hp
      · exact I1.pin p (List.mem_append_right _ hp)
      · cases List.mem_singleton.mp hp
        exact ⟨hf, hfn, hfl, hfs, fun v z => by cases z⟩
    have hD : LfE G W0 (vc Γ d) σ H1 fun v H2 => ∃ B2 α2 O2 due, Rep G B2 α2 σ H2 ρ O2 ∧ At G.K (Mu B2 α2 O2) H2 v due ∧ H2 c' = some (LamX.CodeO c' (X.env.qual ++ "<lambda>")) ∧ QLow G B2 α2 O2 H2 Q0 Q ∧
        vc Γ b (fun x O2 => x.cls ∈ xs ∧ ∃ f, lawFields x = some f ∧ callZ PS [.d f, .d due] O2 (fun u O3 => Q0 [u] O3) fun _ _ => False) ρ O2 fun ws O2 => oneK ws fun w => toK O2 w fun x => callZ PS [.d (.tup [.str "", x]), .d due] O2 (fun u O3 => Q0 [u] O3) fun _ _ => False := by
      refine seqE R1 h (hl.stp (stp_lam lh)) fun u O2 hf2 α2 v H2 s2 w2 a2 => ?_
      obtain ⟨due, e1, hf2⟩ := toK_of hf2
      simp only [q] at hf2
      exact ⟨B, α2, O2, due, R1.stp s2 w2, At.of w2 a2 e1, s2.keep c' _ hco (not_ho w1 hco codeO_lst) (fun ps => LamX.codeO_ne ps), (hq.stp (stp_lam lh)).stp s2, hf2⟩
    refine Calls.spliced_cons (thn ((dd.E X W0 S g _ c9).run _ t σ H1 _ I1p hD) fun u2 t2 hv => ?_)
    obtain ⟨v2, H2, I2p, r2, B2, α2, O2, due, R2, a2, hco2, hq2, hz⟩ := hv
    refine Calls.spliced_nil ⟨I2p.kIn, ?_⟩
    have I2 : Inv X pins σ H2 t2 := I2p.pins_of fun p hp => I2p.pin p (by rw [← List.append_assoc]; exact List.mem_append_left _ (List.mem_append_right _ hp))
    obtain ⟨hf2, hfn2, _, _, _⟩ := I2p.pin (f, lamObj X ⟨[], [], none, [], [], none, []⟩ body scope pm c' ctv) (List.mem_append_right _ (List.mem_append_right _ (by simp)))
    have hfr : f ∉ frs X.stack := fun z => (List.mem_cons.mp (I2.stkSub _ z)).elim hfl hfs
    refine of_run I2 passes0 ?_
    show codeAny _ _ (.call (.ref fi) ⟨[.ref f, u2], []⟩) _ _
    obtain ⟨oc, od, dV, kV, doc, pmg, an, cdv, ct, osl, rfl, lk, hcd, _, _⟩ := Fi.ex
    have bI := hbi t2 [.ref f, u2] I2.kIn rfl
    refine LamX.run_ofS (k := k + 2) (N := ["_law_ask", "_law_due"]) (ps := ["_law_ask", "_law_due"]) (us := [.ref f, u2]) (vs := [.ref f, v2]) (E := fun _ _ _ => False) lk hcd fsi rm I2.env0 bI (.cons rfl (.cons r2 .nil)) rfl fun hr2 => ?_
    unfold isC at cki
    split at cki
    · rename_i n1 p1 n2 p2 n3 p3 p4 n4 p5 p6 p7
      obtain ⟨cki, k8⟩ := ba cki
      obtain ⟨cki, k7⟩ := ba cki
      obtain ⟨cki, k6⟩ := ba cki
      obtain ⟨cki, k5⟩ := ba cki
      obtain ⟨cki, k4⟩ := ba cki
      obtain ⟨cki, k3⟩ := ba cki
      obtain ⟨k1, k2⟩ := ba cki
      cases of_decide_eq_true k1
      cases of_decide_eq_true k2
      cases of_decide_eq_true k3
      cases of_decide_eq_true k4
      have k5 := of_decide_eq_true k5
      have k6 := of_decide_eq_true k6
      have k7 := of_decide_eq_true k7
      have k8 := of_decide_eq_true k8
      have gotE : PE (cxOf (L2.CX X.prog X.w) X.prog X.w X.K X.mg X.base ["_law_ask", "_law_due"] "_law_is" isc fi cdv X.A X.stack t2 H2 fun _ _ _ => False) (.Call (.Name "_law_got" p2) [.Name "_law_ask" p3] [] p4)
          (fun σ3 H3 Q3 => σ3[0]? = some (some (.ref f)) ∧ H3 c' = some (LamX.CodeO c' (X.env.qual ++ "<lambda>")) ∧ rdGot G xs (vc Γ b) σ H3 Q3) := by
        refine ⟨fun pins3 s3 σ3 H3 Q3 I3 q3 => ?_⟩
        obtain ⟨y1, y2, y3⟩ := q3
        refine wpAny_Call_Name_kw (ld_glob I3 k6 hmg ?_ (by decide))
        refine PySem.W.callWith_K (h₀ := X.base) I3.ok.mod.kin GF.kp (thn ((pa_cons (pe_var (i := 0) rfl (.inl k7) (by decide) (by decide)) pa_nil).run _ pins3 s3 σ3 H3 (fun ws H1 => ws = [.ref f] ∧ H1 = H3) I3 ⟨.ref f, y1, rfl, rfl⟩) fun us s4 ⟨ws, H4, I4, r4, e4⟩ => ⟨I4.kIn, ?_⟩) rfl rfl
        obtain ⟨rfl, rfl⟩ := e4
        cases r4 with
        | cons ra rr =>
        cases rr
        cases ra
        refine of_run I4 passes0 ?_
        refine got_run (X := X) (tz := vc Γ b) g.hK W hmg I2 L hf2 hfn2 hfr noArgs_bind hr2 I4.env0 (fun H5 h5 un => un_up I4.base un ?_) y2 (fun A outer t HZ E hr => db.E _ E _ (good_lam g L A outer t HZ E f c' hr) _ c7) y3
        cases z : t2.heap.get? t2.heap.objs.size with
        | none => rfl
        | some o => exact absurd (Heap.lt_size z) (Nat.lt_irrefl _)
      have whole : PE (cxOf (L2.CX X.prog X.w) X.prog X.w X.K X.mg X.base ["_law_ask", "_law_due"] "_law_is" isc fi cdv X.A X.stack t2 H2 fun _ _ _ => False) (.Call (.Name "_law_same" p1) [.Call (.Name "_law_got" p2) [.Name "_law_ask" p3] [] p4, .Name "_law_due" p5] [] p6)
          (fun σ3 H3 Q3 => σ3[0]? = some (some (.ref f)) ∧ H3 c' = some (LamX.CodeO c' (X.env.qual ++ "<lambda>")) ∧ rdGot G xs (vc Γ b) σ H3 fun x H4 => ∃ v, σ3[1]? = some (some v) ∧ lowSp G PS [x, v] H4 Q3 fun _ _ _ => False) := by
        refine ⟨fun pins3 s3 σ3 H3 Q3 I3 q3 => ?_⟩
        refine wpAny_Call_Name_kw (ld_glob I3 k5 hm3 ?_ (by decide))
        refine PySem.W.callWith_K (h₀ := X.base) I3.ok.mod.kin hk3 (thn ((pa_cons gotE (pa_cons (pe_var (i := 1) rfl (.inl k8) (by decide) (by decide)) pa_nil)).run _ pins3 s3 σ3 H3 (fun vs H4 => lowSp G PS vs H4 Q3 fun _ _ _ => False) I3 q3) fun us s4 ⟨ws, H4, I4, r4, e4⟩ => ⟨I4.kIn, ?_⟩) rfl rfl
        exact run_fk (ks := []) (ws := []) (zs := []) F3 (hr2.mono (by omega)) passes0 I4 r4 .nil rfl (by rw [List.append_nil]; exact e4)
      refine ⟨_, pss_one (ps_ret whole), rfl, hco2, B2, α2, ρ, O2, fun us O3 => ∃ f, us = [.d f] ∧ callZ PS [.d f, .d due] O3 (fun u O4 => Q0 [u] O4) fun _ _ => False, R2, ?_, fun us O3 z => ?_⟩
      · have e1 : (fun (x : Exc) (O2 : List DO) => x.cls ∈ xs ∧ ∃ f, lawFields x = some f ∧ callZ PS [.d f, .d due] O2 (fun u O3 => Q0 [u] O3) fun _ _ => False) = fun x O2 => x.cls ∈ xs ∧ ∃ f, lawFields x = some f ∧ ∃ g, [U.d f] = [U.d g] ∧ callZ PS [.d g, .d due] O2 (fun u O3 => Q0 [u] O3) fun _ _ => False := by
          funext x O2
          apply propext
          constructor
          · rintro ⟨h1, f, h2, h3⟩
            exact ⟨h1, f, h2, f, rfl, h3⟩
          · rintro ⟨h1, f, h2, g, h3, h4⟩
            cases h3
            exact ⟨h1, f, h2, h4⟩
        have e2 : (fun (ws : List U) (O2 : List DO) => oneK ws fun w => toK O2 w fun x => callZ PS [.d (.tup [.str "", x]), .d due] O2 (fun u O3 => Q0 [u] O3) fun _ _ => False) = fun ws O2 => oneK ws fun w => toK O2 w fun x => ∃ g, [U.d (.tup [.str "", x])] = [U.d g] ∧ callZ PS [.d g, .d due] O2 (fun u O3 => Q0 [u] O3) fun _ _ => False := by
          funext ws O2
          congr 1
          funext w
          congr 1
          funext x
          apply propext
          constructor
          · intro h1
            exact ⟨_, rfl, h1⟩
          · rintro ⟨g, h1, h2⟩
            cases h1
            exact h2
        rw [e1, e2] at hz
        exact hz
      · obtain ⟨f4, rfl, z⟩ := z
        refine ⟨_, rfl, fun α' v H' s' w' a' => ⟨v2, rfl, ?_⟩⟩
        exact call_low w' (.cons a' (.cons (.d (s'.at_ a2)) .nil)) z (fun u O4 h0 α5 v5 H5 s5 w5 a5 => hq2.to h0 (s'.trans s5) w5 a5) (fun _ _ z => z.elim)
    · cases cki
  · cases c
end
end Z

set_option Elab.async false
set_option linter.all false
set_option maxRecDepth 100000
set_option maxHeartbeats 4000000
namespace Z
open PySem PySem.Spec PyProof.Rows L2
section
variable {G : Gx} {k : Nat} {Γ : List (Fk × ZSp)}
mutual
theorem AtU.later {B B2 : Addr → Prop} {α α2 : List Addr} {O O2 : List DO} {H H2 : Hp} (hi : ∀ (k : Nat) a, α[k]? = some a → α2[k]? = some a) (h : ∀ a o, ¬ Mu B α O a → H a = some o → (∀ ps, o ≠ .tbl ps) → H2 a = some o ∧ ¬ Mu B2 α2 O2 a) :
    ∀ {v : V} {u : U}, AtU G.K B α O H v u → AtU G.K B2 α2 O2 H2 v u
  | _, _, .d a => .d (a.imp h)
  | _, _, .o e => .o (hi _ _ e)
  | _, _, .t e m r => let ⟨e', m'⟩ := h _ _ m e (fun _ z => by cases z); .t e' m' (AtUs.later hi h r)
  | _, _, .l e m r => let ⟨e', m'⟩ := h _ _ m e (fun _ z => by cases z); .l e' m' (AtUs.later hi h r)
theorem AtUs.later {B B2 : Addr → Prop} {α α2 : List Addr} {O O2 : List DO} {H H2 : Hp} (hi : ∀ (k : Nat) a, α[k]? = some a → α2[k]? = some a) (h : ∀ a o, ¬ Mu B α O a → H a = some o → (∀ ps, o ≠ .tbl ps) → H2 a = some o ∧ ¬ Mu B2 α2 O2 a) :
    ∀ {vs : List V} {us : List U}, AtUs G.K B α O H vs us → AtUs G.K B2 α2 O2 H2 vs us
  | _, _, .nil => .nil
  | _, _, .cons a r => .cons (AtU.later hi h a) (AtUs.later hi h r)
end
theorem sd_dic0 : Sd G k Γ .dic0 := .ofE _ (fun _ => rfl) fun X W0 S g e c => by
  split at c
  · exact pe_imp pe_dnewK fun σ H Q ⟨B, α, ρ, O, Q0, E0, R, h, hq, hl⟩ p hp => hq.to h (stp_new hp) (own_new R.own hp) (.d (.dct upd_same (R.own.mu_ne hp) rfl .nil))
  · cases c
section
variable {B : Addr → Prop} {α : List Addr} {O : List DO} {H : Hp} {p : Addr} {x : HO}
theorem more_key (hp : H p = none) : ∀ a o, ¬ Mu B α O a → H a = some o → (∀ ps, o ≠ .tbl ps) → upd H p x a = some o ∧ ¬ Mu (fun b => B b ∨ b = p) α O a := fun a o m e _ =>
  ⟨by rw [upd_ne (ne_of_none e hp)]; exact e, fun z => z.elim (fun z => z.elim (fun z => m (.inl z)) fun z => by rw [z, hp] at e; cases e) fun z => m (.inr z)⟩
theorem ownD_more (w : Own G B α O H) (hp : H p = none) : Own G (fun b => B b ∨ b = p) α O (upd H p x) := by
  have k := more_key (B := B) (α := α) (O := O) (x := x) hp
  have w1 := own_new (o := x) w hp
  refine ⟨w.len, w.nd, fun i a o e1 e2 => ?_, fun a m => m.elim (w1.bt a) fun e => ⟨x, by rw [e, upd_same]⟩, fun a m z => z.elim (w.nb a m) fun e => ?_, w1.tabs⟩
  · have h := w.at_ i a o e1 e2
    cases o with
    | lst ds => obtain ⟨vs, h1, h2⟩ := h; exact ⟨vs, by rw [upd_ne (ne_of_none h1 hp)]; exact h1, h2.imp k⟩
    | brw ds => obtain ⟨vs, h1, h2⟩ := h; exact ⟨vs, by rw [upd_ne (ne_of_none h1 hp)]; exact h1, h2.imp k⟩
    | frz ds => exact At.imp k h
  · obtain ⟨o, q⟩ := m.some w
    rw [e, hp] at q
    cases q
theorem less_key : ∀ a o, ¬ Mu (fun b => B b ∨ b = p) α O a → H a = some o → (∀ ps, o ≠ .tbl ps) → upd H p x a = some o ∧ ¬ Mu B α O a := fun a o m e _ =>
  ⟨by rw [upd_ne fun z => m (.inl (.inr z))]; exact e, fun z => m (z.elim (fun z => .inl (.inl z)) .inr)⟩
theorem ownD_less (w : Own G (fun b => B b ∨ b = p) α O H) (he : H p = some (.dK [])) : Own G B α O (upd H p x) := by
  have k := less_key (B := B) (α := α) (O := O) (x := x) (H := H) (p := p)
  refine ⟨w.len, w.nd, fun i a o e1 e2 => ?_, fun a m => ?_, fun a m z => w.nb a m (.inl z), tabs_keep w.tabs fun b o e hb => ?_⟩
  · have h := w.at_ i a o e1 e2
    have hne : live o = true → a ≠ p := fun l z => w.nb a ⟨i, o, e1, e2, l⟩ (.inr z)
    cases o with
    | lst ds => obtain ⟨vs, h1, h2⟩ := h; exact ⟨vs, by rw [upd_ne (hne rfl)]; exact h1, h2.imp k⟩
    | brw ds => obtain ⟨vs, h1, h2⟩ := h; exact ⟨vs, by rw [upd_ne (hne rfl)]; exact h1, h2.imp k⟩
    | frz ds => exact At.imp k h
  · by_cases e : a = p
    · exact ⟨x, by rw [e, upd_same]⟩
    · obtain ⟨o, q⟩ := w.bt a (.inl m)
      exact ⟨o, by rw [upd_ne e]; exact q⟩
  · have hne : b ≠ p := fun z => by
      rw [z, he] at e
      cases e
      rcases hb with ⟨_, z⟩ | ⟨_, z⟩ <;> cases z
    rw [upd_ne hne]
    exact e
end
theorem sd_dic1 (x : Str) {z : Y} (dz : Sd G k Γ z) : Sd G k Γ (.dic1 x z) := .ofE _ (fun _ => rfl) fun X W0 S g e c => by
  split at c
  · obtain ⟨c1, c2⟩ := ba c
    cases of_decide_eq_true c1
    refine pe_imp (pe_disp (pps_cons pe_str (dz.E X W0 S g _ c2) pps_nil) rfl rfl (by simp) (by simp)) fun σ H Q ⟨B, α, ρ, O, Q0, E0, R, h, hq, hl⟩ p hp => ?_
    have key := more_key (B := B) (α := α) (O := O) (x := .dK []) hp
    refine seqE (B := fun b => B b ∨ b = p) (α := α) (ρ := ρ) (O := O) ⟨fun i u e => ?_, ownD_more R.own hp, R.len⟩ h (fun y O' q α' cls dd H' s w a => ?_) fun u O1 f α1 v H2 s1 w1 a1 => ?_
    · obtain ⟨v, e1, a1⟩ := R.vars i u e
      exact ⟨v, e1, AtU.later (fun _ _ e => e) key a1⟩
    · obtain ⟨e1, dx, fs, e2, e3, e4, e5, e6⟩ := a
      have k2 : ∀ a o, ¬ Mu (fun b => B b ∨ b = p) α' O' a → H' a = some o → (∀ ps, o ≠ .tbl ps) → H' a = some o ∧ ¬ Mu B α' O' a := fun a o m e _ => ⟨e, fun z => m (z.elim (fun z => .inl (.inl z)) .inr)⟩
      have wB : Own G B α' O' H' := ⟨w.len, w.nd, fun i a o e1 e2 => by
        have h := w.at_ i a o e1 e2
        cases o with
        | lst ds => obtain ⟨vs, h1, h2⟩ := h; exact ⟨vs, h1, h2.imp k2⟩
        | brw ds => obtain ⟨vs, h1, h2⟩ := h; exact ⟨vs, h1, h2.imp k2⟩
        | frz ds => exact At.imp k2 h, fun a m => w.bt a (.inl m), fun a m z => w.nb a m (.inl z), w.tabs⟩
      exact hl y O' q α' cls dd H' ((stp_new hp).trans s) wB ⟨e1, dx, fs, e2, e3, fun z => e4 (z.elim (fun z => .inl (.inl z)) .inr), e5, e6.imp k2⟩
    · have hpn : ¬ Ho α O p := fun m => by
        obtain ⟨o, q⟩ := m.ow.some R.own
        rw [hp] at q
        cases q
      have he : H2 p = some (.dK []) := s1.keep p _ upd_same hpn fun ps z => by cases z
      refine ⟨he, [(.inr x, v)], rfl, by simp, ?_⟩
      obtain ⟨d, e1, f⟩ := toK_of f
      have a2 := At.of w1 a1 e1
      have un : ∀ b, upd H p (.dK []) b = none → H b = none := fun b e => by
        by_cases hb : b = p
        · rw [hb]; exact hp
        · rw [upd_ne hb] at e; exact e
      have s2 : Stp α O H α1 O1 (upd H2 p (.dK [(.inr x, v)])) := ⟨s1.pre, fun b o e n t => by
        have hb := ne_of_none e hp
        rw [upd_ne hb]
        exact s1.keep b o (by rw [upd_ne hb]; exact e) n t, fun b e => by
        by_cases hb : b = p
        · rw [hb, upd_same] at e; cases e
        · rw [upd_ne hb] at e; exact un b (s1.there b e), fun b m => (s1.new b m).imp_right (un b), fun b m => (s1.hnew b m).imp_right (un b), fun b m => (s1.fresh b m).imp_right (un b)⟩
      have hm : ¬ Mu B α1 O1 p := fun m => m.elim (fun z => by
        obtain ⟨o, q⟩ := R.own.bt p z
        rw [hp] at q
        cases q) fun z => w1.nb p z (.inr rfl)
      exact hq.to f s2 (ownD_less w1 he) (.d (.dct upd_same hm rfl (.cons (a2.imp less_key) .nil)))
  · cases c
theorem gt_rm : ∀ (ρ : List (Option U)) (v i : Nat) (u : U), gt (wipeR.rm ρ v) i = some u → i ≠ v ∧ gt ρ i = some u
  | [], _, _, _, h => by cases h
  | _ :: _, 0, 0, _, h => by cases h
  | _ :: _, 0, i + 1, _, h => ⟨by omega, h⟩
  | _ :: _, v + 1, 0, _, h => ⟨by omega, h⟩
  | _ :: r, v + 1, i + 1, u, h => by
    obtain ⟨h1, h2⟩ := gt_rm r v i u h
    exact ⟨by omega, h2⟩
theorem rm_len : ∀ (ρ : List (Option U)) (v : Nat), (wipeR.rm ρ v).length = ρ.length
  | [], _ => rfl
  | _ :: _, 0 => rfl
  | _ :: r, v + 1 => congrArg (· + 1) (rm_len r v)
theorem gt_wipe {ρ : List (Option U)} {i : Nat} {u : U} : ∀ {vs : List Nat}, gt (wipeR ρ vs) i = some u → i ∉ vs ∧ gt ρ i = some u
  | [], h => ⟨by simp, h⟩
  | v :: vs, h => by
    obtain ⟨h1, h2⟩ := gt_rm _ _ _ _ h
    obtain ⟨h3, h4⟩ := gt_wipe h2
    exact ⟨by simp only [List.mem_cons, not_or]; exact ⟨h1, h3⟩, h4⟩
theorem wipeR_len (ρ : List (Option U)) : ∀ vs : List Nat, (wipeR ρ vs).length = ρ.length
  | [] => rfl
  | v :: vs => by rw [wipeR, rm_len, wipeR_len ρ vs]
theorem wipe_at {σ : L2.St} {i : Nat} : ∀ {vs : List Nat}, (wipe σ vs)[i]? = if i ∈ vs then (if i < σ.length then some none else none) else σ[i]?
  | [] => by simp [wipe]
  | v :: vs => by
    have ih := wipe_at (σ := σ) (i := i) (vs := vs)
    unfold wipe
    by_cases h : v = i
    · subst h
      rw [if_pos List.mem_cons_self]
      by_cases hl : v < σ.length
      · rw [if_pos hl, List.getElem?_set_self (by rw [wipe_length]; exact hl)]
      · rw [if_neg hl, List.getElem?_eq_none (by rw [List.length_set, wipe_length]; omega)]
    · rw [List.getElem?_set_ne h, ih]
      by_cases hm : i ∈ vs
      · rw [if_pos hm, if_pos (List.mem_cons_of_mem _ hm)]
      · rw [if_neg hm, if_neg (by simp only [List.mem_cons, not_or]; exact ⟨fun z => h z.symm, hm⟩)]
theorem wipe_back {σ σ2 : L2.St} {vs ss : List Nat} (hs : ∀ i ∈ ss, i ∈ vs) (h : ∀ i, i ∉ ss → σ2[i]? = (wipe σ vs)[i]?) (hl : σ2.length = σ.length) : wipe σ2 vs = wipe σ vs := by
  refine List.ext_getElem? fun i => ?_
  rw [wipe_at, wipe_at, hl]
  by_cases hm : i ∈ vs
  · rw [if_pos hm, if_pos hm]
  · rw [if_neg hm, if_neg hm, h i (fun z => hm (hs i z)), wipe_at, if_neg hm]
theorem len_of {σ σ2 : L2.St} {vs ss : List Nat} (h : ∀ i, i ∉ ss → σ2[i]? = (wipe σ vs)[i]?) : True := trivial
/-- a new list that the block keeps for itself -/
def With (B : Addr → Prop) (D : Addr) : Addr → Prop := fun b => B b ∨ b = D
theorem own_with {B : Addr → Prop} {α : List Addr} {O : List DO} {H : Hp} (w : Own G B α O H) {D : Addr} {o : HO} (hD : H D = none) : Own G (With B D) α O (upd H D o) := by
  have hm : ∀ b, Mu (With B D) α O b → Mu B α O b ∨ H b = none := fun b m => by
    rcases m with (m | rfl) | m
    · exact .inl (.inl m)
    · exact .inr hD
    · exact .inl (.inr m)
  have hk : ∀ b o', H b = some o' → ¬ Ho α O b → (∀ ps, o' ≠ .tbl ps) → upd H D o b = some o' := fun b o' e _ _ => by rw [upd_ne (ne_of_none e hD)]; exact e
  refine ⟨w.len, w.nd, fun j b u e1 e2 => ?_, fun b m => ?_, fun b m z => ?_, tabs_keep w.tabs fun b u e _ => by rw [upd_ne (ne_of_none e hD)]; exact e⟩
  · have h := w.at_ j b u e1 e2
    cases u with
    | lst ds =>
      obtain ⟨vs, e, r⟩ := h
      exact ⟨vs, by rw [upd_ne (ne_of_none e hD)]; exact e, r.imp (later hm hk)⟩
    | brw ds =>
      obtain ⟨vs, e, r⟩ := h
      exact ⟨vs, by rw [upd_ne (ne_of_none e hD)]; exact e, r.imp (later hm hk)⟩
    | frz ds => exact At.imp (later hm hk) h
  · rcases m with m | rfl
    · obtain ⟨o', e⟩ := w.bt b m
      exact ⟨o', by rw [upd_ne (ne_of_none e hD)]; exact e⟩
    · exact ⟨o, upd_same⟩
  · rcases z with z | rfl
    · exact w.nb b m z
    · obtain ⟨o', e⟩ := m.some w
      rw [hD] at e; cases e
theorem own_updB {B : Addr → Prop} {α : List Addr} {O : List DO} {H : Hp} (w : Own G B α O H) {D : Addr} {vs : List V} {o : HO} (hB : B D) (hD : H D = some (.lst vs)) : Own G B α O (upd H D o) := by
  have h1 : ∀ a o', ¬ Mu B α O a → H a = some o' → (∀ ps, o' ≠ .tbl ps) → upd H D o a = some o' ∧ ¬ Mu B α O a := fun b o' m e _ => ⟨by rw [upd_ne (fun z : b = D => m (by rw [z]; exact .inl hB))]; exact e, m⟩
  refine ⟨w.len, w.nd, fun j b u e1 e2 => ?_, fun b m => ?_, w.nb, tabs_keep w.tabs fun b u e z => ?_⟩
  · have h := w.at_ j b u e1 e2
    cases u with
    | lst ds =>
      obtain ⟨vs, e, r⟩ := h
      refine ⟨vs, ?_, r.imp h1⟩
      rw [upd_ne (fun z : b = D => w.nb b ⟨j, _, e1, e2, rfl⟩ (by rw [z]; exact hB))]
      exact e
    | brw ds =>
      obtain ⟨vs, e, r⟩ := h
      refine ⟨vs, ?_, r.imp h1⟩
      rw [upd_ne (fun z : b = D => w.nb b ⟨j, _, e1, e2, rfl⟩ (by rw [z]; exact hB))]
      exact e
    | frz ds => exact At.imp h1 h
  · by_cases e : b = D
    · exact ⟨o, by rw [e, upd_same]⟩
    · rw [upd_ne e]; exact w.bt b m
  · by_cases eb : b = D
    · subst eb
      rw [hD] at e
      cases e
      rcases z with ⟨_, z⟩ | ⟨_, z⟩ <;> cases z
    · rw [upd_ne eb]; exact e
theorem stp_updNew {α α' : List Addr} {O O' : List DO} {H H' : Hp} (s : Stp α O H α' O' H') {D : Addr} {o : HO} (hD : H D = none) : Stp α O H α' O' (upd H' D o) :=
  ⟨s.pre, fun b o' e m n => by rw [upd_ne (ne_of_none e hD)]; exact s.keep b o' e m n, fun b e => by
    by_cases h : b = D
    · rw [h]; exact hD
    · rw [upd_ne h] at e; exact s.there b e, s.new, s.hnew, s.fresh⟩
/-- the new list becomes an owned one, or data -/
theorem own_adopt {B : Addr → Prop} {α : List Addr} {O : List DO} {H : Hp} {D : Addr} {vs : List V} {ds : List Z.D} (w : Own G (With B D) α O H) (hD : H D = some (.lst vs)) (hB : ¬ B D) (ha : D ∉ α) (r : Ats G.K (Mu (With B D) α O) H vs ds) : Own G B (α ++ [D]) (O ++ [.lst ds]) H := by
  have hm : ∀ b, Mu B (α ++ [D]) (O ++ [.lst ds]) b → Mu (With B D) α O b := fun b m => by
    rcases m with m | ⟨j, u, e1, e2, l⟩
    · exact .inl (.inl m)
    · rcases get_snoc e1 with e1 | ⟨e1, eb⟩
      · rcases get_snoc e2 with e2 | ⟨e2, _⟩
        · exact .inr ⟨j, u, e1, e2, l⟩
        · have := (List.getElem?_eq_some_iff.mp e1).1
          have := w.len
          omega
      · exact .inl (.inr eb)
  refine ⟨by simp [w.len], ?_, fun j b u e1 e2 => ?_, fun b m => w.bt b (.inl m), fun b m z => ?_, w.tabs⟩
  · rw [List.nodup_append]
    exact ⟨w.nd, by simp, fun a h1 b h2 => by
      rcases List.mem_singleton.mp h2 with rfl
      exact fun z => ha (by rw [← z]; exact h1)⟩
  · rcases get_snoc e1 with e1 | ⟨e1, rfl⟩
    · rcases get_snoc e2 with e2 | ⟨e2, _⟩
      · exact (w.at_ j b u e1 e2).less hm
      · have := (List.getElem?_eq_some_iff.mp e1).1
        have := w.len
        omega
    · rcases get_snoc e2 with e2 | ⟨e2, rfl⟩
      · have := (List.getElem?_eq_some_iff.mp e2).1
        have := w.len
        omega
      · exact ⟨vs, hD, r.less hm⟩
  · rcases m with ⟨j, u, e1, e2, l⟩
    rcases get_snoc e1 with e1 | ⟨e1, rfl⟩
    · rcases get_snoc e2 with e2 | ⟨e2, _⟩
      · exact w.nb b ⟨j, u, e1, e2, l⟩ (.inl z)
      · have := (List.getElem?_eq_some_iff.mp e1).1
        have := w.len
        omega
    · exact hB z
theorem own_less {B : Addr → Prop} {α : List Addr} {O : List DO} {H : Hp} {D : Addr} (w : Own G (With B D) α O H) : Own G B α O H := by
  have hm : ∀ b, Mu B α O b → Mu (With B D) α O b := fun b m => m.elim (fun m => .inl (.inl m)) .inr
  exact ⟨w.len, w.nd, fun j b u e1 e2 => (w.at_ j b u e1 e2).less hm, fun b m => w.bt b (.inl m), fun b m z => w.nb b m (.inl z), w.tabs⟩
theorem stp_adopt {α α' : List Addr} {O O' : List DO} {H H' : Hp} (s : Stp α O H α' O' H') {D : Addr} {o : DO} (hl : α'.length = O'.length) (hD : H D = none) : Stp α O H (α' ++ [D]) (O' ++ [o]) H' := by
  refine ⟨?_, s.keep, s.there, fun b m => ?_, fun b m => ?_, fun b m => ?_⟩
  · obtain ⟨m, e⟩ := s.pre
    exact ⟨m ++ [D], by rw [e, List.append_assoc]⟩
  · obtain ⟨j, u, e1, e2, l⟩ := m
    rcases get_snoc e1 with e1 | ⟨e1, rfl⟩
    · rcases get_snoc e2 with e2 | ⟨e2, _⟩
      · exact s.new b ⟨j, u, e1, e2, l⟩
      · have := (List.getElem?_eq_some_iff.mp e1).1
        omega
    · exact .inr hD
  · obtain ⟨j, u, e1, e2, l⟩ := m
    rcases get_snoc e1 with e1 | ⟨e1, rfl⟩
    · rcases get_snoc e2 with e2 | ⟨e2, _⟩
      · exact s.hnew b ⟨j, u, e1, e2, l⟩
      · have := (List.getElem?_eq_some_iff.mp e1).1
        omega
    · exact .inr hD
  · rcases List.mem_append.mp m with m | m
    · exact s.fresh b m
    · rw [List.mem_singleton.mp m]; exact .inr hD

/-- what was borrowed for a walk, given back -/
theorem unb1_at (o x : DO) : unb1 o x = x ∨ ∃ ds es, o = .lst es ∧ x = .brw ds ∧ unb1 o x = .lst ds := by
  cases o with
  | lst es => cases x with
    | brw ds => exact .inr ⟨ds, es, rfl, rfl, rfl⟩
    | lst _ => exact .inl rfl
    | frz _ => exact .inl rfl
  | frz _ => exact .inl rfl
  | brw _ => exact .inl rfl
theorem unb_at : ∀ {O O' : List DO} {i : Nat} {x : DO}, (unb O O')[i]? = some x → O'[i]? = some x ∨ ∃ ds es, O[i]? = some (DO.lst es) ∧ O'[i]? = some (DO.brw ds) ∧ x = .lst ds
  | [], _, _, _, h => .inl h
  | _ :: _, [], i, x, h => .inl h
  | o :: r, y :: s, 0, x, h => by
    rw [unb, List.getElem?_cons_zero] at h
    cases h
    rcases unb1_at o y with g | ⟨ds, es, g1, g2, g3⟩
    · exact .inl (by rw [List.getElem?_cons_zero, g])
    · exact .inr ⟨ds, es, by rw [List.getElem?_cons_zero, g1], by rw [List.getElem?_cons_zero, g2], g3⟩
  | o :: r, y :: s, i + 1, x, h => by
    rw [unb, List.getElem?_cons_succ] at h
    rw [List.getElem?_cons_succ, List.getElem?_cons_succ]
    exact unb_at h
theorem unb_len : ∀ (O O' : List DO), (unb O O').length = O'.length
  | [], _ => rfl
  | _ :: _, [] => rfl
  | _ :: r, _ :: s => congrArg (· + 1) (unb_len r s)
theorem unb_ok {B : Addr → Prop} {α α' : List Addr} {O O' : List DO} {H H' : Hp} (s : Stp α O H α' O' H') (w0 : Own G B α O H) (w : Own G B α' O' H') : Stp α O H α' (unb O O') H' ∧ Own G B α' (unb O O') H' ∧ ∀ b, Mu B α' (unb O O') b → Mu B α' O' b := by
  have how : ∀ b, Ow α' (unb O O') b → Ow α' O' b := fun b ⟨i, o, e1, e2, l⟩ => by
    rcases unb_at e2 with g | ⟨ds, es, g1, g2, rfl⟩
    · exact ⟨i, o, e1, g, l⟩
    · exact ⟨i, _, e1, g2, rfl⟩
  have hm : ∀ b, Mu B α' (unb O O') b → Mu B α' O' b := fun b m => m.elim .inl fun m => .inr (how b m)
  refine ⟨⟨s.pre, s.keep, s.there, fun b m => s.new b (how b m), fun b ⟨i, o, e1, e2, l⟩ => ?_, s.fresh⟩, ⟨by rw [unb_len]; exact w.len, w.nd, fun i b o e1 e2 => ?_, w.bt, fun b m => w.nb b (how b m), w.tabs⟩, hm⟩
  · rcases unb_at e2 with g | ⟨ds, es, g1, g2, rfl⟩
    · exact s.hnew b ⟨i, o, e1, g, l⟩
    · refine .inl ⟨i, _, ?_, g1, rfl⟩
      obtain ⟨mm, e⟩ := s.pre
      rw [e, List.getElem?_append_left (by rw [w0.len]; exact (List.getElem?_eq_some_iff.mp g1).1)] at e1
      exact e1
  · rcases unb_at e2 with g | ⟨ds, es, g1, g2, rfl⟩
    · exact (w.at_ i b o e1 g).less hm
    · exact (w.at_ i b _ e1 g2).less hm
theorem lookup_blk {sc scope : Scope} {x : Str} {kd : NameKind} (hk : kd ≠ .free) (h : scope.names.lookup x = some kd) : (relS scope sc).names.lookup x = some kd := lookup_relS_keep hk h
theorem good_blk {X : Cx} {W0 : XK} {S : Sx} (g : Good X G W0 k S Γ) (scope : Scope) (s : Shared) (H : Hp) (C : Addr) (cl : List (Str × Addr)) (fp : List Addr) :
    Good (X.blk s H scope (compEnvC scope cl C X.env) fp) G (fun _ _ _ => False) k (S.inn (relS scope S.sc) scope) Γ where
  hN := g.hN
  nd := g.nd
  sc := by rw [← g.sc]; rfl
  calm := g.calm
  hK := g.hK
  takes := fun u s' ⟨_, _, _, _, _, _, _, _, _, _, _, _, _, _, _, _, w⟩ => w.elim
  rm := g.room
  fns := fun i x P h => g.fns i x P h
  free := g.free
  gi := g.gi
  gs := g.gs
  xs := g.xs
  lam := fun z => by cases z
  sto := fun x h => by
    unfold ownB at h
    have hsc : (compEnvC scope cl C X.env).scope = relS scope X.env.scope := rfl
    split at h
    · rename_i q
      exact ⟨.inl (by rw [hsc]; exact lookup_blk (by decide) q), .inr (by rw [hsc]; exact lookup_blk (by decide) q)⟩
    · rename_i q
      refine ⟨.inr (by rw [hsc]; exact lookup_blk (by decide) q), .inl ?_⟩
      have q : scope.names.lookup x = some .cell := q
      show (scope.names.lookup x == some .cell) = true
      rw [q]; rfl
    · cases h
theorem folded_of {e : Expr} {env : Env} (h : noSet e = true) : ∀ x, foldedSetIterable e env x = pure x := by
  intro x
  cases e <;> first | rfl | cases h
theorem comp_ex (own : Bool) (vs : List Nat) (tg : T1) {src tst elt : Y} (ds : Sd G k Γ src) (dt : Sd G k Γ tst) (de : Sd G k Γ elt) (hy : isYes tst = true → tst = .yes) {X : Cx} {W0 : XK} {S : Sx} (g : Good X G W0 k S Γ) {e : Expr} (c : compC (ck (Γ.map (·.1)) tst) (ck (Γ.map (·.1)) elt) (ck (Γ.map (·.1)) src S) S vs tg (isYes tst) e = true) :
    ∃ (e0 t it : Expr) (ifs : List Expr) (scope : Scope) (pos : Pos) (wi : TI) (gg : TG) (tt : TT) (te : TE), e = .ListComp e0 [⟨t, it, ifs, 0⟩] scope pos ∧ PI X t it wi ∧ BlkOk X.N X.env.scope scope (ownN S.N vs) ∧
      (∀ (s : Shared) (H : Hp) (C : Addr) (cl : List (Str × Addr)) (fp : List Addr), PG (X.blk s H scope (compEnvC scope cl C X.env) fp) t gg) ∧
      (∀ (s : Shared) (H : Hp) (C : Addr) (cl : List (Str × Addr)) (fp : List Addr), PTs (X.blk s H scope (compEnvC scope cl C X.env) fp) ifs tt) ∧
      (∀ (s : Shared) (H : Hp) (C : Addr) (cl : List (Str × Addr)) (fp : List Addr), PE (X.blk s H scope (compEnvC scope cl C X.env) fp) e0 te) ∧ (∀ x, foldedSetIterable it X.env x = pure x) ∧
      ∀ σ H Q, LfE G W0 (vc Γ (.comp own vs tg src tst elt)) σ H Q → tLc wi gg tt te ((ownN S.N vs).map (·.2)) σ H Q := by
  unfold compC at c
  split at c
  · rename_i e0 t it ifs scope pos
    obtain ⟨c, c7⟩ := ba c
    obtain ⟨c, c6⟩ := ba c
    obtain ⟨c, c5⟩ := ba c
    obtain ⟨c, c4⟩ := ba c
    obtain ⟨c, c3⟩ := ba c
    obtain ⟨c1, c2⟩ := ba c
    have gb := fun s H C cl fp => good_blk g scope s H C cl fp
    have ok : BlkOk X.N X.env.scope scope (ownN S.N vs) := by
      rw [g.hN, g.sc]
      exact blkOk_by c1
    have hvs : (ownN S.N vs).map (·.2) = vs := by unfold ownN; rw [List.map_map]; exact List.map_id vs
    have hsl : ∀ i ∈ slots tg, i ∈ vs := fun i hi => by
      have := List.all_eq_true.mp c3 i hi
      simpa using this
    have ht : ∀ (s : Shared) (H : Hp) (C : Addr) (cl : List (Str × Addr)) (fp : List Addr), PTs (X.blk s H scope (compEnvC scope cl C X.env) fp) ifs (LfT G (fun _ _ _ => False) (vc Γ tst)) := fun s H C cl fp => by
      split at c6
      · rw [hy c6]
        exact pts_imp pts_nil fun σ H Q ⟨B, α, ρ, O, Q0, E0, R, h, hq, hl⟩ => hq.to h Stp.refl R.own
      · exact pts_one (dt.T _ _ _ (gb s H C cl fp) _ (ba c6).2)
      · cases c6
    refine ⟨e0, t, it, ifs, scope, pos, _, _, _, _, rfl, ds.I X W0 S g _ _ c4, ok, fun s H C cl fp => sd_tg (gb s H C cl fp) c2, ht, fun s H C cl fp => de.E _ _ _ (gb s H C cl fp) _ c7, folded_of c5, fun σ H Q ⟨B, α, ρ, O, Q0, E0, R, h, hq, hl⟩ => ?_⟩
    rw [hvs]
    refine ⟨B, α, ρ, O, _, E0, R, h, fun us O1 q => ?_, hl⟩
    obtain ⟨xs, rfl, hz, q⟩ := q
    refine ⟨xs, rfl, fun α1 H1 J s1 w1 wk D hD => ?_⟩
    obtain ⟨Gd, Yy, wk, hwk⟩ := wk.ex
    have hDB : ¬ B D := fun m => by
      obtain ⟨o, e⟩ := w1.bt D m
      rw [hD] at e; cases e
    have hDa : D ∉ α1 := own_fresh w1 hD
    have hO1 : O1.length = α1.length := w1.len.symm
    have hm : ∀ {O2 : List DO} {H2 : Hp}, Stp α1 O1 H1 α1 O2 H2 → ∀ b, Mu (With B D) α1 O2 b → Mu B α1 O1 b ∨ H1 b = none := fun s b m => by
      rcases m with (m | rfl) | m
      · exact .inl (.inl m)
      · exact .inr hD
      · rcases s.new b m with z | z
        · exact .inl (.inr z)
        · exact .inr z
    have hkp : ∀ {O2 : List DO} {H2 : Hp}, Stp α1 O1 H1 α1 O2 H2 → ∀ b o, H1 b = some o → ¬ Ho α1 O1 b → (∀ ps, o ≠ .tbl ps) → H2 b = some o := fun s b o e m n => s.keep b o e m n
    refine lc_it wk (fun i H => ∃ O2 acc av, Own G (With B D) α1 O2 H ∧ Stp α1 O1 H1 α1 O2 H ∧ H D = some (.lst av) ∧ Ats G.K (Mu (With B D) α1 O2) H av acc ∧ acc.length ≤ i ∧
      compR tg (vc Γ tst fun _ _ => False) (vc Γ elt fun _ _ => False) (wipeR ρ vs) O1.length (xs.drop i) acc O2 fun acc O2 => newL own acc (unb O O2) Q0) ?_ ?_ ?_ ?_
    · exact ⟨O1, [], [], own_with w1 hD, stp_new hD, upd_same, .nil, Nat.le_refl _, q⟩
    · rintro i H2 hi ⟨O2, acc, av, w2, s2, e2, r2, l2, q2⟩
      exact (hwk _ _ _ _ (hm s2) (hkp s2) w2).1
    · rintro i x H2 H3 hi ⟨O2, acc, av, w2, s2, e2, r2, l2, q2⟩ y
      obtain ⟨d, ed, hH3, ax⟩ := (hwk _ _ _ _ (hm s2) (hkp s2) w2).2 i x H3 hi y
      have st3 : Stp α1 O2 H2 α1 O2 H3 ∧ Own G (With B D) α1 O2 H3 := by
        rcases hH3 with rfl | ⟨p, vs, hp, rfl⟩
        · exact ⟨Stp.refl, w2⟩
        · exact ⟨stp_new hp, own_new w2 hp⟩
      obtain ⟨s3, w3⟩ := st3
      have hdrop : xs.drop i = d :: xs.drop (i + 1) := by
        obtain ⟨hlt, ed⟩ := List.getElem?_eq_some_iff.mp ed
        rw [← ed]
        exact List.drop_eq_getElem_cons hlt
      rw [hdrop, compR] at q2
      have s13 := s2.trans s3
      have R3 : Rep G (With B D) α1 (wipe σ vs) H3 (wipeR ρ vs) O2 := by
        refine ⟨fun j u e => ?_, w3, by rw [wipeR_len, wipe_length]; exact R.len⟩
        obtain ⟨hj, e⟩ := gt_wipe e
        obtain ⟨v, ev, av⟩ := R.vars j u e
        exact ⟨v, by rw [wipe_out hj]; exact ev, AtU.later (fun _ _ z => z) (later (hm s13) (hkp s13)) (s1.atU av)⟩
      refine ⟨With B D, α1, O2, wipeR ρ vs, d, _, R3, ax, q2, fun ρ1 q3 σ2 R4 hs hl4 => ⟨wipe_back hsl hs (by rw [hl4, wipe_length]), ?_⟩⟩
      refine seqT (E0 := fun _ _ => False) R4 q3 (fun _ _ z => z.elim) fun b O5 q5 α5 H5 s5 w5 => ?_
      have kD : ∀ {α6 : List Addr} {O6 : List DO} {H6 : Hp}, Stp α1 O2 H3 α6 O6 H6 → H6 D = some (.lst av) := fun s => s.keep D _ (s3.keep D _ e2 (fun z => w2.nb D z.ow (.inr rfl)) (fun _ z => by cases z)) (fun z => w3.nb D z.ow (.inr rfl)) (fun _ z => by cases z)
      have fin : ∀ {α6 : List Addr} {O6 : List DO} {H6 : Hp}, Stp α1 O2 H3 α6 O6 H6 → Own G (With B D) α6 O6 H6 → Own G (With B D) α1 (O6.take O1.length) H6 ∧ Stp α1 O1 H1 α1 (O6.take O1.length) H6 := fun {α6 O6 H6} s w => by
        have h1 := stp_take s w3
        have h2 := own_take w O1.length
        rw [hO1] at h2 ⊢
        rw [h1.2] at h2
        exact ⟨h2, s13.trans h1.1⟩
      cases b with
      | false =>
        rw [if_neg (by decide)]
        obtain ⟨w6, s6⟩ := fin s5 w5
        refine ⟨O5.take O1.length, acc, av, w6, s6, kD s5, ?_, by omega, q5.2 rfl⟩
        have r5 := s5.ats (s3.ats r2)
        exact r5.less fun b m => by
          rcases m with m | ⟨j, u, e1, e2, l⟩
          · exact .inl m
          · obtain ⟨mm, e⟩ := s5.pre
            refine .inr ⟨j, u, ?_, take_some e2, l⟩
            rw [e, List.getElem?_append_left (List.getElem?_eq_some_iff.mp e1).1]; exact e1
      | true =>
        rw [if_pos rfl]
        refine seqE (E0 := fun _ _ => False) (R4.stp s5 w5) (q5.1 rfl) (fun _ _ z => z.elim) fun u6 O6 q6 α6 v6 H6 s6 w6 a6 => ?_
        obtain ⟨x6, e6, q6⟩ := toK_of q6
        have ax6 := At.of w6 a6 e6
        obtain ⟨w7, s7⟩ := fin (s5.trans s6) w6
        have hD6 := kD (s5.trans s6)
        have hlt : acc.length < sizeLine := by omega
        have less6 : ∀ b, Mu (With B D) α1 (O6.take O1.length) b → Mu (With B D) α6 O6 b := fun b m => by
          rcases m with m | ⟨j, u, e1, e2, l⟩
          · exact .inl m
          · obtain ⟨mm, e⟩ := (s5.trans s6).pre
            refine .inr ⟨j, u, ?_, take_some e2, l⟩
            rw [e, List.getElem?_append_left (List.getElem?_eq_some_iff.mp e1).1]; exact e1
        have r6 := ((s5.trans s6).ats (s3.ats r2)).less less6
        have ax7 := ax6.less less6
        refine ⟨av, hD6, by rw [r6.length]; exact hlt, O6.take O1.length, acc ++ [x6], av ++ [v6], own_updB w7 (.inr rfl) hD6, stp_updNew s7 hD, upd_same, ?_, by rw [List.length_append]; simp; omega, q6⟩
        exact Ats.imp (fun b o m e _ => ⟨by rw [upd_ne (fun z : b = D => m (by rw [z]; exact .inl (.inr rfl)))]; exact e, m⟩) (r6.append (.cons ax7 .nil))
    · rintro H2 ⟨O2, acc, av, w2, s2, e2, r2, l2, q2⟩
      rw [List.drop_length, compR] at q2
      obtain ⟨s12, w3, hmu⟩ := unb_ok (B := B) (s1.trans s2) R.own (own_less w2)
      have ub : Own G (With B D) α1 (unb O O2) H2 := by
        refine ⟨w3.len, w3.nd, fun i b o g1 g2 => ?_, w2.bt, fun b m z => ?_, w3.tabs⟩
        · have hm2 : ∀ b, Mu (With B D) α1 (unb O O2) b → Mu (With B D) α1 O2 b := fun b m => by
            rcases m with m | ⟨i, o, g1, g2, l⟩
            · exact .inl m
            · rcases unb_at g2 with g | ⟨ds, es, _, g3, rfl⟩
              · exact .inr ⟨i, o, g1, g, l⟩
              · exact .inr ⟨i, _, g1, g3, rfl⟩
          rcases unb_at g2 with g | ⟨ds, es, _, g3, rfl⟩
          · exact (w2.at_ i b o g1 g).less hm2
          · exact (w2.at_ i b _ g1 g3).less hm2
        · obtain ⟨i, o, g1, g2, l⟩ := m
          rcases unb_at g2 with g | ⟨ds, es, _, g3, rfl⟩
          · exact w2.nb b ⟨i, o, g1, g, l⟩ z
          · exact w2.nb b ⟨i, _, g1, g3, rfl⟩ z
      have r3 : Ats G.K (Mu (With B D) α1 (unb O O2)) H2 av acc := r2.less fun b m => by
        rcases m with m | ⟨i, o, g1, g2, l⟩
        · exact .inl m
        · rcases unb_at g2 with g | ⟨ds, es, _, g3, rfl⟩
          · exact .inr ⟨i, o, g1, g, l⟩
          · exact .inr ⟨i, _, g1, g3, rfl⟩
      have hDH : H D = none := s1.there D hD
      cases own with
      | true =>
        refine hq.to q2 (stp_adopt s12 w3.len hDH) (own_adopt ub e2 hDB hDa r3) (.o ?_)
        rw [List.getElem?_append_right (by rw [w3.len]; exact Nat.le_refl _), w3.len]
        simp
      | false =>
        refine hq.to q2 s12 w3 (.d (.lst e2 (fun m => ?_) (r3.less fun b m => m.elim (fun m => .inl (.inl m)) .inr)))
        rcases m with m | m
        · exact hDB m
        · exact ub.nb D m (.inr rfl)
  · cases c

theorem AtUs.snoc {B : Addr → Prop} {α : List Addr} {O : List DO} {H : Hp} {v : V} {u : U} : ∀ {vs : List V} {us : List U}, AtUs G.K B α O H vs us → AtU G.K B α O H v u → AtUs G.K B α O H (vs ++ [v]) (us ++ [u])
  | _, _, .nil, a => .cons a .nil
  | _, _, .cons b r, a => .cons b (AtUs.snoc r a)
theorem comp_exU (vs : List Nat) (tg : T1) {src elt : Y} (ds : Sd G k Γ src) (de : Sd G k Γ elt) {X : Cx} {W0 : XK} {S : Sx} (g : Good X G W0 k S Γ) {e : Expr} (c : compC (fun _ => {}) (ck (Γ.map (·.1)) elt) (ck (Γ.map (·.1)) src S) S vs tg true e = true) :
    ∃ (e0 t it : Expr) (ifs : List Expr) (scope : Scope) (pos : Pos) (wi : TI) (gg : TG) (tt : TT) (te : TE), e = .ListComp e0 [⟨t, it, ifs, 0⟩] scope pos ∧ PI X t it wi ∧ BlkOk X.N X.env.scope scope (ownN S.N vs) ∧
      (∀ (s : Shared) (H : Hp) (C : Addr) (cl : List (Str × Addr)) (fp : List Addr), PG (X.blk s H scope (compEnvC scope cl C X.env) fp) t gg) ∧
      (∀ (s : Shared) (H : Hp) (C : Addr) (cl : List (Str × Addr)) (fp : List Addr), PTs (X.blk s H scope (compEnvC scope cl C X.env) fp) ifs tt) ∧
      (∀ (s : Shared) (H : Hp) (C : Addr) (cl : List (Str × Addr)) (fp : List Addr), PE (X.blk s H scope (compEnvC scope cl C X.env) fp) e0 te) ∧ (∀ x, foldedSetIterable it X.env x = pure x) ∧
      ∀ σ H Q, LfE G W0 (vc Γ (.compU vs tg src elt)) σ H Q → tLc wi gg tt te ((ownN S.N vs).map (·.2)) σ H Q := by
  unfold compC at c
  split at c
  · rename_i e0 t it ifs scope pos
    obtain ⟨c, c7⟩ := ba c
    obtain ⟨c, c6⟩ := ba c
    obtain ⟨c, c5⟩ := ba c
    obtain ⟨c, c4⟩ := ba c
    obtain ⟨c, c3⟩ := ba c
    obtain ⟨c1, c2⟩ := ba c
    have gb := fun s H C cl fp => good_blk g scope s H C cl fp
    have ok : BlkOk X.N X.env.scope scope (ownN S.N vs) := by
      rw [g.hN, g.sc]
      exact blkOk_by c1
    have hvs : (ownN S.N vs).map (·.2) = vs := by unfold ownN; rw [List.map_map]; exact List.map_id vs
    have hsl : ∀ i ∈ slots tg, i ∈ vs := fun i hi => by
      have := List.all_eq_true.mp c3 i hi
      simpa using this
    have ht : ∀ (s : Shared) (H : Hp) (C : Addr) (cl : List (Str × Addr)) (fp : List Addr), PTs (X.blk s H scope (compEnvC scope cl C X.env) fp) ifs (LfT G (fun _ _ _ => False) (vc Γ .yes)) := fun s H C cl fp => by
      split at c6
      · exact pts_imp pts_nil fun σ H Q ⟨B, α, ρ, O, Q0, E0, R, h, hq, hl⟩ => hq.to h Stp.refl R.own
      · cases (ba c6).1
      · cases c6
    refine ⟨e0, t, it, ifs, scope, pos, _, _, _, _, rfl, ds.I X W0 S g _ _ c4, ok, fun s H C cl fp => sd_tg (gb s H C cl fp) c2, ht, fun s H C cl fp => de.E _ _ _ (gb s H C cl fp) _ c7, folded_of c5, fun σ H Q ⟨B, α, ρ, O, Q0, E0, R, h, hq, hl⟩ => ?_⟩
    rw [hvs]
    refine ⟨B, α, ρ, O, _, E0, R, h, fun us O1 q => ?_, hl⟩
    obtain ⟨xs, rfl, hz, q⟩ := q
    refine ⟨xs, rfl, fun α1 H1 J s1 w1 wk D hD => ?_⟩
    obtain ⟨Gd, Yy, wk, hwk⟩ := wk.ex
    have hDB : ¬ B D := fun m => by
      obtain ⟨o, e⟩ := w1.bt D m
      rw [hD] at e; cases e
    have hDa : D ∉ α1 := own_fresh w1 hD
    have hO1 : O1.length = α1.length := w1.len.symm
    have hm : ∀ {α2 : List Addr} {O2 : List DO} {H2 : Hp}, Stp α1 O1 H1 α2 O2 H2 → ∀ b, Mu (With B D) α2 O2 b → Mu B α1 O1 b ∨ H1 b = none := fun s b m => by
      rcases m with (m | rfl) | m
      · exact .inl (.inl m)
      · exact .inr hD
      · rcases s.new b m with z | z
        · exact .inl (.inr z)
        · exact .inr z
    have hkp : ∀ {α2 : List Addr} {O2 : List DO} {H2 : Hp}, Stp α1 O1 H1 α2 O2 H2 → ∀ b o, H1 b = some o → ¬ Ho α1 O1 b → (∀ ps, o ≠ .tbl ps) → H2 b = some o := fun s b o e m n => s.keep b o e m n
    refine lc_it wk (fun i H => ∃ α2 O2 acc av, Own G (With B D) α2 O2 H ∧ Stp α1 O1 H1 α2 O2 H ∧ H D = some (.lst av) ∧ AtUs G.K (With B D) α2 O2 H av acc ∧ acc.length ≤ i ∧
      compUR tg (vc Γ elt fun _ _ => False) (wipeR ρ vs) (xs.drop i) acc O2 fun acc O2 => Q0 [.l acc] (unb O O2)) ?_ ?_ ?_ ?_
    · exact ⟨α1, O1, [], [], own_with w1 hD, stp_new hD, upd_same, .nil, Nat.le_refl _, q⟩
    · rintro i H2 hi ⟨α2, O2, acc, av, w2, s2, e2, r2, l2, q2⟩
      exact (hwk _ _ _ _ (hm s2) (hkp s2) w2).1
    · rintro i x H2 H3 hi ⟨α2, O2, acc, av, w2, s2, e2, r2, l2, q2⟩ y
      obtain ⟨d, ed, hH3, ax⟩ := (hwk _ _ _ _ (hm s2) (hkp s2) w2).2 i x H3 hi y
      have st3 : Stp α2 O2 H2 α2 O2 H3 ∧ Own G (With B D) α2 O2 H3 := by
        rcases hH3 with rfl | ⟨p, vs, hp, rfl⟩
        · exact ⟨Stp.refl, w2⟩
        · exact ⟨stp_new hp, own_new w2 hp⟩
      obtain ⟨s3, w3⟩ := st3
      have hdrop : xs.drop i = d :: xs.drop (i + 1) := by
        obtain ⟨hlt, ed⟩ := List.getElem?_eq_some_iff.mp ed
        rw [← ed]
        exact List.drop_eq_getElem_cons hlt
      rw [hdrop, compUR] at q2
      have s13 := s2.trans s3
      have R3 : Rep G (With B D) α2 (wipe σ vs) H3 (wipeR ρ vs) O2 := by
        refine ⟨fun j u e => ?_, w3, by rw [wipeR_len, wipe_length]; exact R.len⟩
        obtain ⟨hj, e⟩ := gt_wipe e
        obtain ⟨v, ev, av⟩ := R.vars j u e
        exact ⟨v, by rw [wipe_out hj]; exact ev, AtU.later (fun _ _ z => s2.idx z) (later (hm s13) (hkp s13)) (s1.atU av)⟩
      refine ⟨With B D, α2, O2, wipeR ρ vs, d, _, R3, ax, q2, fun ρ1 q3 σ2 R4 hs hl4 => ⟨wipe_back hsl hs (by rw [hl4, wipe_length]), ?_⟩⟩
      have q4 : vc Γ .yes (fun _ _ => False) ρ1 O2 fun us O1 => boolK us fun u => u = true ∧ vc Γ elt (fun _ _ => False) ρ1 O1 fun ws O3 => oneK ws fun w => compUR tg (vc Γ elt fun _ _ => False) (wipeR ρ vs) (xs.drop (i + 1)) (acc ++ [w]) O3 fun acc O2 => Q0 [.l acc] (unb O O2) := ⟨rfl, q3⟩
      refine seqT (E0 := fun _ _ => False) R4 q4 (fun _ _ z => z.elim) fun b O5 q5 α5 H5 s5 w5 => ?_
      obtain ⟨rfl, q5⟩ := q5
      have kD : ∀ {α6 : List Addr} {O6 : List DO} {H6 : Hp}, Stp α2 O2 H3 α6 O6 H6 → H6 D = some (.lst av) := fun s => s.keep D _ (s3.keep D _ e2 (fun z => w2.nb D z.ow (.inr rfl)) (fun _ z => by cases z)) (fun z => w3.nb D z.ow (.inr rfl)) (fun _ z => by cases z)
      rw [if_pos rfl]
      refine seqE (E0 := fun _ _ => False) (R4.stp s5 w5) q5 (fun _ _ z => z.elim) fun u6 O6 q6 α6 v6 H6 s6 w6 a6 => ?_
      have hD6 := kD (s5.trans s6)
      have hlt : acc.length < sizeLine := by omega
      have s7 := s13.trans (s5.trans s6)
      have r6 := (s5.trans s6).atUs (s3.atUs r2)
      have e7 : ∀ a o, ¬ Mu (With B D) α6 O6 a → H6 a = some o → (∀ ps, o ≠ .tbl ps) → upd H6 D (.lst (av ++ [v6])) a = some o ∧ ¬ Mu (With B D) α6 O6 a := fun b o m e _ => ⟨by rw [upd_ne (fun z : b = D => m (by rw [z]; exact .inl (.inr rfl)))]; exact e, m⟩
      refine ⟨av, hD6, by rw [r6.length]; exact hlt, α6, O6, acc ++ [u6], av ++ [v6], own_updB w6 (.inr rfl) hD6, stp_updNew s7 hD, upd_same, ?_, by rw [List.length_append]; simp; omega, q6⟩
      exact AtUs.snoc (AtUs.later (fun _ _ z => z) e7 r6) (AtU.later (fun _ _ z => z) e7 a6)
    · rintro H2 ⟨α2, O2, acc, av, w2, s2, e2, r2, l2, q2⟩
      rw [List.drop_length, compUR] at q2
      obtain ⟨s12, w3, hmu⟩ := unb_ok (B := B) (s1.trans s2) R.own (own_less w2)
      have hb : ∀ b, Mu B α2 (unb O O2) b → Mu (With B D) α2 O2 b := fun b m => (hmu b m).elim (fun m => .inl (.inl m)) .inr
      refine hq.to q2 s12 w3 (.l e2 (fun m => ?_) (AtUs.later (fun _ _ z => z) (fun a o m e _ => ⟨e, fun z => m (hb a z)⟩) r2))
      rcases hmu D m with m | m
      · exact hDB m
      · exact w2.nb D m (.inr rfl)
  · cases c
theorem frzAll_ok {B : Addr → Prop} {α : List Addr} {H : Hp} : ∀ (us : List U) {O : List DO}, Own G B α O H → Stp α O H α (frzAll us O) H ∧ Own G B α (frzAll us O) H
  | [], O, w => ⟨Stp.refl, w⟩
  | .o j :: us, O, w => by
    rw [frzAll]
    split
    · rename_i ds e
      rw [go_eq] at e
      rw [so_eq]
      have s1 : Stp α O H α (O.set j (.frz ds)) H := stp_frz e rfl
      obtain ⟨s2, w2⟩ := frzAll_ok us (own_frz w e)
      exact ⟨s1.trans s2, w2⟩
    · exact frzAll_ok us w
  | .d _ :: us, O, w => frzAll_ok us (O := O) w
  | .t _ :: us, O, w => frzAll_ok us (O := O) w
  | .l _ :: us, O, w => frzAll_ok us (O := O) w
theorem sd_fzl {z : Y} (dz : Sd G k Γ z) : Sd G k Γ (.fzl z) := .ofE _ (fun _ => rfl) fun X W0 S g e c => by
  refine pe_imp (dz.E X W0 S g e c) fun σ H Q ⟨B, α, ρ, O, Q0, E0, R, h, hq, hl⟩ => ?_
  refine seqE R h hl fun u O1 f α1 v H1 s1 w1 a1 => ?_
  cases u with
  | l ws =>
    obtain ⟨d, e, f⟩ := toK_of f
    obtain ⟨s2, w2⟩ := frzAll_ok ws w1
    exact hq.to f (s1.trans s2) w2 (.d (At.of w2 (s2.atU a1) e))
  | _ => exact f.elim
theorem sd_compU (vs : List Nat) (tg : T1) {src elt : Y} (ds : Sd G k Γ src) (de : Sd G k Γ elt) : Sd G k Γ (.compU vs tg src elt) := .ofE _ (fun _ => rfl) fun X W0 S g e c => by
  obtain ⟨e0, t, it, ifs, scope, pos, wi, gg, tt, te, rfl, hi, ok, hg, ht, he, hs, imp⟩ := comp_exU vs tg ds de g c
  exact pe_imp (pe_lc g.calm g.nd hi ok hg ht he hs) imp
theorem sd_comp (own : Bool) (vs : List Nat) (tg : T1) {src tst elt : Y} (ds : Sd G k Γ src) (dt : Sd G k Γ tst) (de : Sd G k Γ elt) (hy : isYes tst = true → tst = .yes) : Sd G k Γ (.comp own vs tg src tst elt) := .ofE _ (fun _ => rfl) fun X W0 S g e c => by
  obtain ⟨e0, t, it, ifs, scope, pos, wi, gg, tt, te, rfl, hi, ok, hg, ht, he, hs, imp⟩ := comp_ex own vs tg ds dt de hy g c
  exact pe_imp (pe_lc g.calm g.nd hi ok hg ht he hs) imp
mutual
theorem sd_all : ∀ z : Y, Sd G k Γ z
  | .var i => sd_var i
  | .int i => sd_int i
  | .bl b => sd_bl b
  | .non => sd_non
  | .str x => sd_str x
  | .gint x i => sd_gint x i
  | .gstr x z => sd_gstr x z
  | .bin op a b => sd_bin op (sd_all a) (sd_all b)
  | .neg a => sd_neg (sd_all a)
  | .not a => sd_not (sd_all a)
  | .and a b => sd_and (sd_all a) (sd_all b)
  | .or a b => sd_or (sd_all a) (sd_all b)
  | .one a => sd_one (sd_all a)
  | .cmp op a b => sd_cmp op (sd_all a) (sd_all b)
  | .chain o p a b c => sd_chain o p (sd_all a) (sd_all b) (sd_all c)
  | .ite c a b => sd_ite (sd_all c) (sd_all a) (sd_all b)
  | .tup es => sd_tup (sd_all es)
  | .tupU es => sd_tupU (sd_all es)
  | .lst own es => sd_lst own (sd_all es)
  | .call g es => sd_call g (sd_all es)
  | .callk g es ks => sd_callk g (sd_all es) (sk_all ks)
  | .ask g xs b d => sd_ask g xs (sd_all b) (sd_all d)
  | .got xs b => sd_got xs (sd_all b)
  | .blt f es => sd_blt f (sd_all es)
  | .lis z => sd_lis (sd_all z)
  | .sml z => sd_sml (sd_all z)
  | .compU vs tg src elt => sd_compU vs tg (sd_all src) (sd_all elt)
  | .fzl z => sd_fzl (sd_all z)
  | .isi a cs => sd_isi cs (sd_all a)
  | .ix a b => sd_ix (sd_all a) (sd_all b)
  | .sl a lo hi => sd_sl (sd_all a) (sd_all lo) (sd_all hi)
  | .rep a b => sd_rep (sd_all a) (sd_all b)
  | .comp own vs tg src tst elt => sd_comp own vs tg (sd_all src) (sd_all tst) (sd_all elt) (by
      intro h
      cases tst <;> first | rfl | cases h)
  | .app r z => sd_app (sd_all r) (sd_all z)
  | .fz z => sd_fz (sd_all z)
  | .lnt z => sd_lnt (sd_all z)
  | .dic0 => sd_dic0
  | .dic1 x z => sd_dic1 x (sd_all z)
  | .fdq a b => sd_fdq (sd_all a) (sd_all b)
  | .ins r i z => sd_ins (sd_all r) (sd_all i) (sd_all z)
  | .nil => sd_nil
  | .cons a r => sd_cons (sd_all a) (sd_all r)
  | .star a r => sd_star (sd_all a) (sd_all r)
  | .nop => sd_nop
  | .sm a => sd_sm (sd_all a)
  | .yes => sd_none _ fun _ => rfl
  | .seq z => sd_seq (sd_all z)
  | .rng a => sd_rng (sd_all a)
  | .rng2 a b => sd_rng2 (sd_all a) (sd_all b)
  | .enm z => sd_enm (sd_all z)
  | .zip a b => sd_zip (sd_all a) (sd_all b)
  | .rev z => sd_rev (sd_all z)
theorem sk_all : ∀ z : Y, SdK G k Γ z
  | .nil => sk_nil
  | .cons a r => sk_cons (sd_all a) (sk_all r)
  | .star a r => sk_none fun S es h => by
    cases es with
    | nil => rfl
    | cons e es =>
      rw [List.all_cons] at h
      show starC _ _ (e :: es) = false
      cases e <;> first | rfl | (have h1 := (ba h).1; cases h1)
  | .var _ => sk_none fun _ _ _ => rfl
  | .int _ => sk_none fun _ _ _ => rfl
  | .bl _ => sk_none fun _ _ _ => rfl
  | .non => sk_none fun _ _ _ => rfl
  | .str _ => sk_none fun _ _ _ => rfl
  | .gint _ _ => sk_none fun _ _ _ => rfl
  | .gstr _ _ => sk_none fun _ _ _ => rfl
  | .bin _ _ _ => sk_none fun _ _ _ => rfl
  | .neg _ => sk_none fun _ _ _ => rfl
  | .not _ => sk_none fun _ _ _ => rfl
  | .and _ _ => sk_none fun _ _ _ => rfl
  | .or _ _ => sk_none fun _ _ _ => rfl
  | .one _ => sk_none fun _ _ _ => rfl
  | .cmp _ _ _ => sk_none fun _ _ _ => rfl
  | .chain _ _ _ _ _ => sk_none fun _ _ _ => rfl
  | .ite _ _ _ => sk_none fun _ _ _ => rfl
  | .tup _ => sk_none fun _ _ _ => rfl
  | .tupU _ => sk_none fun _ _ _ => rfl
  | .lst _ _ => sk_none fun _ _ _ => rfl
  | .call _ _ => sk_none fun _ _ _ => rfl
  | .callk _ _ _ => sk_none fun _ _ _ => rfl
  | .ask _ _ _ _ => sk_none fun _ _ _ => rfl
  | .got _ _ => sk_none fun _ _ _ => rfl
  | .blt _ _ => sk_none fun _ _ _ => rfl
  | .lis _ => sk_none fun _ _ _ => rfl
  | .isi _ _ => sk_none fun _ _ _ => rfl
  | .ix _ _ => sk_none fun _ _ _ => rfl
  | .sl _ _ _ => sk_none fun _ _ _ => rfl
  | .rep _ _ => sk_none fun _ _ _ => rfl
  | .comp _ _ _ _ _ _ => sk_none fun _ _ _ => rfl
  | .app _ _ => sk_none fun _ _ _ => rfl
  | .fz _ => sk_none fun _ _ _ => rfl
  | .lnt _ => sk_none fun _ _ _ => rfl
  | .dic0 => sk_none fun _ _ _ => rfl
  | .dic1 _ _ => sk_none fun _ _ _ => rfl
  | .sml _ => sk_none fun _ _ _ => rfl
  | .compU _ _ _ _ => sk_none fun _ _ _ => rfl
  | .fzl _ => sk_none fun _ _ _ => rfl
  | .fdq _ _ => sk_none fun _ _ _ => rfl
  | .ins _ _ _ => sk_none fun _ _ _ => rfl
  | .nop => sk_none fun _ _ _ => rfl
  | .sm _ => sk_none fun _ _ _ => rfl
  | .yes => sk_none fun _ _ _ => rfl
  | .seq _ => sk_none fun _ _ _ => rfl
  | .rng _ => sk_none fun _ _ _ => rfl
  | .rng2 _ _ => sk_none fun _ _ _ => rfl
  | .enm _ => sk_none fun _ _ _ => rfl
  | .zip _ _ => sk_none fun _ _ _ => rfl
  | .rev _ => sk_none fun _ _ _ => rfl
end
end
end Z

set_option Elab.async false
set_option linter.all false
set_option maxRecDepth 100000
set_option maxHeartbeats 4000000
namespace Z
open PySem PySem.Spec PyProof.Rows L2
/-! ### C(..): an error is made, also without arguments -/
theorem mk_err {X : Cx} {pins : List (Addr × Obj)} {σ : L2.St} {H1 : Hp} {s1 : Shared} {Q : XK} {us : List Value} {vs : List V} {e : XcD} {fs : List (Str × V)} (W : XcF X.prog X.w X.K X.mg X.base e) (hr : Room 2 X.A) (I1 : Inv X pins σ H1 s1) (r1 : Vals vs us) (hn : vs.length = e.n) (hi : initFs vs e.fl = some fs)
    (q1 : ∀ d, H1 d = none → Q (.ref (He.ga X.K e.nm)) (some d) (upd H1 d (.xd fs.reverse))) : wpAny (model X.prog X.w) X.A (call (.ref (He.ga X.K e.nm)) us) (MkP X pins σ Q) X.xe s1 := by
  obtain ⟨fI, fd, ps, iC, tI, F1, hb⟩ := W.ini
  obtain ⟨C, hC0⟩ : ∃ C, C = He.ga X.K e.nm := ⟨_, rfl⟩
  have T := W.T
  rw [← hC0] at iC F1 T q1 ⊢
  obtain ⟨nm, q, N, bs, bm, sn, sub, ab, col, dd, k0, k1, k2, k3, k5, hC, hbm⟩ := T.cls
  obtain ⟨hp, g, dr, tk, os⟩ := s1
  obtain ⟨a, hA⟩ : ∃ a, a = hp.objs.size + 1 := ⟨_, rfl⟩
  have big : hp.objs.size ≤ a := by omega
  have hnone : H1 a = none := I1.hok.fresh big
  have kk : ∀ b o, hp.get? b = some o → ((hp.push (PySem.W.kdv_tup us)).push (PySem.HandSPX.excO C hp.objs.size)).get? b = some o := fun b o e => Heap.get?_push_of_some _ (Heap.get?_push_of_some _ e)
  have hget : ((hp.push (PySem.W.kdv_tup us)).push (PySem.HandSPX.excO C hp.objs.size)).get? a = some (PySem.HandSPX.excO C hp.objs.size) := by
    rw [hA]
    heap_get
  have J : Inv X pins σ (upd H1 a (exo a C none)) ⟨(hp.push (PySem.W.kdv_tup us)).push (PySem.HandSPX.excO C hp.objs.size), g, dr, tk, os⟩ := I1.laid (t' := tk) kk big (exo_ok hget)
  have sp : initSp C e (V.ref a :: vs) (upd H1 a (exo a C none)) (fun v H2 => v = .non ∧ ∃ (d : Addr) (gs : List (Str × V)), H2 a = some (exo a C (some d)) ∧ H2 d = some (exd d gs) ∧ H1 d = none ∧ Q (.ref C) (some d) (upd (del H2 a) d (.xd gs))) fun _ _ _ => False := by
    refine ⟨a, vs, fs, rfl, hn, hi, upd_same, fun dx H' hd hh => ⟨rfl, dx, fs.reverse, hh.ea, hh.ed, ?_, ?_⟩⟩
    · by_cases z : dx = a
      · rw [z]; exact hnone
      · rw [upd_ne z] at hd; exact hd
    · have hd1 : H1 dx = none := by
        by_cases z : dx = a
        · rw [z]; exact hnone
        · rw [upd_ne z] at hd; exact hd
      have eq : upd (del H' a) dx (.xd fs.reverse) = upd H1 dx (.xd fs.reverse) := by
        funext b
        by_cases h1 : b = dx
        · rw [h1, upd_same, upd_same]
        · rw [upd_ne h1, upd_ne h1]
          by_cases h2 : b = a
          · rw [h2, del_same, hnone]
          · rw [del_ne h2, hh.all b h2 h1, upd_ne h2]
      rw [eq]
      exact q1 dx hd1
  have rr : Vals (V.ref a :: vs) (Value.ref a :: us) := .cons rfl r1
  have hl : (Value.ref a :: us ++ []).length = ps.length := by
    rw [List.append_nil, ← rr.length]
    exact F1.len _ _ _ _ sp
  have bT := hb _ (Value.ref a :: us) J.kIn hl
  rw [List.append_nil] at bT
  have hus : us.length ≤ sizeLine := by
    rw [← r1.length, hn, sizeLine_eq]
    have := W.n
    omega
  have ap : hp.objs.size + 1 = a := hA.symm
  refine wpAny_call (PySem.HandSPX.call_own F.excBase_ValueError (fun Y => PySem.HandSPX.refsVE_contains Y bm hbm) (I1.kIn _ _ hC) (PySem.W.looks_findIn I1.kIn iC) (fun self => PySem.W.bind_fn I1.kIn self tI) hus ?_)
  rw [ap]
  refine codeAny_mono (F1.run _ X.stack _ _ ⟨Value.ref a :: us, []⟩ (Value.ref a :: us) _ _ (fun _ _ _ => False) (hr.make C us []) (J.env0.make C us []) bT rr sp) fun r t hq => ?_
  cases r with
  | error er =>
    obtain ⟨_, _, _, _, _, _, _, _, _, _, _, _, z⟩ := (show L2.CX X.prog X.w X.stack _ _ (fun _ _ _ => False) er t from hq)
    exact z.elim
  | ok fl =>
    cases fl with
    | ret u =>
      obtain ⟨v, H2, os2, bare2, un2, hok2, rv, ev, d, gs, ea, ed, hd1, q2⟩ := hq
      subst ev
      obtain ⟨h2, g2, d2, t2, os'⟩ := t
      exact ⟨rv, mk_end (raises_own T.exC T.tyC) I1 big kk un2 hok2 os2 bare2 ea ed hd1 q2⟩
    | next => exact False.elim hq
    | brk => exact False.elim hq
    | cont => exact False.elim hq
end Z

set_option Elab.async false
set_option linter.all false
set_option maxRecDepth 100000
set_option maxHeartbeats 4000000
namespace Z
open PySem PySem.Spec PyProof.Rows L2
/-! ### statements -/
inductive YS where
  | nil | seq (a r : YS) | pas | doc | ex (y : Y) | set (i : Nat) (y : Y) | tgt (t : T1) (y : Y) | par (i j : Nat) (es : Y) | par3 (i j l : Nat) (es : Y)
  | seti (o ix y : Y) | ite (c : Y) (a b : YS) | for_ (t : T1) (src : Y) (b : YS) | whl (c : Y) (b : YS) | ret (y : Y) | ret0 | brk | cnt | nev | rse (e : XcD) (es : Y)
structure ZD where
  nx : List (Option U) → List DO → Prop
  rt : U → List DO → Prop
  bk : List (Option U) → List DO → Prop
  ct : List (Option U) → List DO → Prop
abbrev ZS := ZX → ZD → List (Option U) → List DO → Prop
/-- a for over data; O0: the places ahead of it -/
def forR (tg : T1) (body : ZS) (E : ZX) (D : ZD) (O0 : List DO) : List Z.D → List (Option U) → List DO → Prop
  | [], ρ, O => D.nx ρ (unb O0 O)
  | d :: ds, ρ, O => bindT tg d ρ fun ρ1 => body (fun x O' => E x (unb O0 O')) ⟨fun ρ' O' => forR tg body E D O0 ds ρ' O', fun u O' => D.rt u (unb O0 O'), fun ρ' O' => D.nx ρ' (unb O0 O'), fun ρ' O' => forR tg body E D O0 ds ρ' O'⟩ ρ1 O
/-- an error's attributes out of its arguments, in the order of their stores -/
def initD (ds : List D) : List (Str × XSrc) → Option (List (Str × D))
  | [] => some []
  | (f, .arg i) :: r => (match ds[i]?, initD ds r with
    | some v, some fs => some ((f, v) :: fs)
    | _, _ => none)
  | (f, .str z) :: r => (match initD ds r with
    | some fs => some ((f, .str z) :: fs)
    | none => none)
theorem initD_of {K : PySem.W.Frag} {M : Addr → Prop} {H : Hp} {vs : List V} {ds : List Z.D} (r : Ats K M H vs ds) : ∀ {fl : List (Str × XSrc)} {fs : List (Str × Z.D)}, initD ds fl = some fs → ∃ gs, initFs vs fl = some gs ∧ gs.map (·.1) = fs.map (·.1) ∧ Ats K M H (gs.map (·.2)) (fs.map (·.2))
  | [], fs, h => by cases h; exact ⟨[], rfl, rfl, .nil⟩
  | (f, .arg i) :: fl, fs, h => by
    rw [initD] at h
    split at h
    · rename_i v gs h1 h2
      cases h
      obtain ⟨x, e1, a1⟩ := r.get' h1
      obtain ⟨xs, e2, e3, a2⟩ := initD_of r h2
      exact ⟨(f, x) :: xs, by rw [initFs, e1, e2], by rw [List.map_cons, List.map_cons, e3], .cons a1 a2⟩
    · cases h
  | (f, .str z) :: fl, fs, h => by
    rw [initD] at h
    split at h
    · rename_i gs h2
      cases h
      obtain ⟨xs, e2, e3, a2⟩ := initD_of r h2
      exact ⟨(f, .str z) :: xs, by rw [initFs, e2], by rw [List.map_cons, List.map_cons, e3], .cons (.str z) a2⟩
    · cases h
def vcS (Γ : List (Fk × ZSp)) : YS → ZS
  | .nil => fun _ D ρ O => D.nx ρ O
  | .seq a r => fun E D ρ O => vcS Γ a E { D with nx := fun ρ' O' => vcS Γ r E D ρ' O' } ρ O
  | .pas => fun _ D ρ O => D.nx ρ O
  | .doc => fun _ D ρ O => D.nx ρ O
  | .ex y => fun E D ρ O => vc Γ y E ρ O fun us O1 => oneK us fun _ => D.nx ρ O1
  | .set i y => fun E D ρ O => vc Γ y E ρ O fun us O1 => oneK us fun u => D.nx (st ρ i u) O1
  | .tgt t y => fun E D ρ O => vc Γ y E ρ O fun us O1 => oneK us fun u => toK O1 u fun d => bindT t d ρ fun ρ1 => D.nx ρ1 O1
  | .par i j es => fun E D ρ O => vc Γ es E ρ O fun us O1 => match us with
    | [u, w] => D.nx (st (st ρ i u) j w) O1
    | _ => False
  | .par3 i j l es => fun E D ρ O => vc Γ es E ρ O fun us O1 => match us with
    | [u, w, v] => D.nx (st (st (st ρ i u) j w) l v) O1
    | _ => False
  | .seti o ix y => fun E D ρ O => vc Γ y E ρ O fun us O1 => oneK us fun u => vc Γ o E ρ O1 fun rs O2 => oneK rs fun r => vc Γ ix E ρ O2 fun ks O3 => oneK ks fun kx => match r, kx with
    | .o k, .d (.int i) => (match go O3 k with
      | some (.lst ds) => toK O3 u fun x => ∃ j, ixN ds.length i = some j ∧ D.nx ρ (so O3 k (.lst (ds.set j x)))
      | _ => False)
    | _, _ => False
  | .ite c a b => fun E D ρ O => vc Γ c E ρ O fun us O1 => boolK us fun t => (t = true → vcS Γ a E D ρ O1) ∧ (t = false → vcS Γ b E D ρ O1)
  | .for_ t src b => fun E D ρ O => vc Γ src E ρ O fun us O1 => ∃ ds, us = ds.map .d ∧ forR t (vcS Γ b) E D O ds ρ O1
  | .whl c b => fun E D ρ O => ∃ W : Nat → List (Option U) → List DO → Prop, (∃ m, W m ρ O) ∧ ∀ m ρ1 O1, W m ρ1 O1 → vc Γ c E ρ1 O1 fun us O2 => boolK us fun t =>
      (t = true → vcS Γ b E ⟨fun ρ2 O3 => ∃ m', m' < m ∧ W m' ρ2 O3, D.rt, D.nx, fun ρ2 O3 => ∃ m', m' < m ∧ W m' ρ2 O3⟩ ρ1 O2) ∧ (t = false → D.nx ρ1 O2)
  | .ret y => fun E D ρ O => vc Γ y E ρ O fun us O1 => oneK us fun u => D.rt u O1
  | .ret0 => fun _ D _ O => D.rt (.d .non) O
  | .brk => fun _ D ρ O => D.bk ρ O
  | .cnt => fun _ D ρ O => D.ct ρ O
  | .nev => fun _ _ _ _ => False
  | .rse e es => fun E _ ρ O => vc Γ es E ρ O fun us O1 => tosK O1 us fun ds => ds.length = e.n ∧ ∃ fs, initD ds e.fl = some fs ∧ E ⟨e.nm, fs.reverse⟩ O1
/-! ### the check -/
def noComp : Expr → Bool
  | .ListComp _ _ _ _ => false
  | .SetComp _ _ _ _ => false
  | .DictComp _ _ _ _ _ => false
  | _ => true
def swC (sc : Scope) (x : Str) (px : Pos) : Expr → Bool
  | .ListComp _ _ scope pos => (px.line == pos.line) && decide (sc.names.lookup x = some .local) && !(scope.names.any fun (n, k) => n == x && (k == .local || k == .cell)) && (match sc.kind with | .function => true | _ => false)
  | _ => false
def noswC (sc : Scope) (x : Str) (px : Pos) : Expr → Bool
  | .ListComp _ _ scope pos => !(px.line == pos.line) || decide (sc.names.lookup x ≠ some .local) || (scope.names.any fun (n, k) => n == x && (k == .local || k == .cell))
  | .SetComp _ _ _ _ => false
  | .DictComp _ _ _ _ _ => false
  | _ => true
def noTup : Expr → Bool
  | .Tuple _ _ _ => false
  | _ => true
/-- a tuple of targets whose stores are not swapped -/
def nonLoc (sc : Scope) : Expr → Bool
  | .Name x _ => decide (sc.names.lookup x ≠ some .local)
  | _ => true
def nosw2 (sc : Scope) (ts : List Expr) : Bool := ts.any (nonLoc sc) || !(ts.length == 2 || ts.length == 3)

structure CkS where
  S : Stmt → Bool := fun _ => false
  B : List Stmt → Bool := fun _ => false
def exS (f : Expr → Bool) : Stmt → Bool
  | .Expr e _ => noComp e && f e
  | _ => false
def docS : Stmt → Bool
  | .Expr (.Constant (.str _) _ _) _ => true
  | _ => false
def pasS : Stmt → Bool
  | .Pass _ => true
  | _ => false
def brkS : Stmt → Bool
  | .Break _ => true
  | _ => false
def cntS : Stmt → Bool
  | .Continue _ => true
  | _ => false
def setS (S : Sx) (i : Nat) (f g : Expr → Bool) : Stmt → Bool
  | .Assign [.Name x px] e _ => decide (S.N[i]? = some x) && ownB S.so x && ((f e && noswC S.sc x px e) || (g e && swC S.sc x px e))
  | _ => false
def tgtS (S : Sx) (t : T1) (f : Expr → Bool) : Stmt → Bool
  | .Assign [.Tuple ts kk p] e _ => ckG S t (.Tuple ts kk p) && f e && (noTup e || nosw2 S.sc ts)
  | _ => false
def parS (S : Sx) (i j : Nat) (f : List Expr → Bool) : Stmt → Bool
  | .Assign [.Tuple [.Name x px, .Name y py] _ _] (.Tuple [a, b] _ _) _ => decide (S.N[i]? = some x) && decide (S.N[j]? = some y) && decide (i ≠ j) && decide (S.sc.names.lookup x = some .local) && decide (S.sc.names.lookup y = some .local) &&
      (px.line == py.line) && decide (x ≠ y) && noStar a && noStar b && !(foldedForSure 8 a && foldedForSure 8 b) && !(constantsAlone 8 a && constantsAlone 8 b) && f [a, b]
  | _ => false
def par3S (S : Sx) (i j l : Nat) (f : List Expr → Bool) : Stmt → Bool
  | .Assign [.Tuple [.Name x px, .Name y py, .Name z pz] _ _] (.Tuple [a, b, c] _ _) _ => decide (S.N[i]? = some x) && decide (S.N[j]? = some y) && decide (S.N[l]? = some z) && decide (i ≠ j ∧ i ≠ l ∧ j ≠ l) && decide (S.sc.names.lookup x = some .local) && decide (S.sc.names.lookup y = some .local) && decide (S.sc.names.lookup z = some .local) &&
      (px.line == py.line) && (px.line == pz.line) && decide (x ≠ y ∧ x ≠ z ∧ y ≠ z) && noStar a && noStar b && noStar c && !(foldedForSure 8 a && foldedForSure 8 b && foldedForSure 8 c) && !(constantsAlone 8 a && constantsAlone 8 b && constantsAlone 8 c) && f [a, b, c]
  | _ => false
def setiS (f g h : Expr → Bool) : Stmt → Bool
  | .Assign [.Subscript o i _] e _ => f o && g i && h e && noSlice i
  | _ => false
def iteS (f : Expr → Bool) (g h : List Stmt → Bool) : Stmt → Bool
  | .If c a b _ => f c && g a && h b
  | _ => false
def forS (S : Sx) (t : T1) (f : Expr → Expr → Bool) (g : List Stmt → Bool) : Stmt → Bool
  | .For tg it b [] _ => ckG S t tg && f tg it && noSet it && g b
  | _ => false
def whlS (f : Expr → Bool) (g : List Stmt → Bool) : Stmt → Bool
  | .While c b [] _ => f c && g b
  | _ => false
def retS (f : Expr → Bool) : Stmt → Bool
  | .Return (some e) _ => f e
  | _ => false
def ret0S : Stmt → Bool
  | .Return none _ => true
  | _ => false
def nilB : List Stmt → Bool
  | [] => true
  | _ => false
def seqB' (f : Stmt → Bool) (g : List Stmt → Bool) : List Stmt → Bool
  | s :: r => f s && g r
  | _ => false
/-- the check of a comprehension, for a store that is swapped in -/
def compCk (Γn : List Fk) (S : Sx) : Y → Expr → Bool
  | .comp _ vs tg src tst elt => compC (ck Γn tst) (ck Γn elt) (ck Γn src S) S vs tg (isYes tst)
  | .compU vs tg src elt => compC (fun _ => {}) (ck Γn elt) (ck Γn src S) S vs tg true
  | _ => fun _ => false
def rseS (S : Sx) (e : XcD) (f : List Expr → Bool) : Stmt → Bool
  | .Raise (some (.Call (.Name c _) [] [] _)) none _ => decide (c = e.nm) && decide (e ∈ S.xs) && gloB S.sc c && oknB c && f []
  | .Raise (some (.Call (.Name c _) (x :: xs) [] _)) none _ => decide (c = e.nm) && decide (e ∈ S.xs) && gloB S.sc c && oknB c && noStar x && xs.all noStar && f (x :: xs)
  | _ => false
def ckS (Γn : List Fk) : YS → Sx → CkS
  | .nil, _ => { B := nilB }
  | .seq a r, S => { B := seqB' (ckS Γn a S).S (ckS Γn r S).B }
  | .pas, _ => { S := pasS }
  | .doc, _ => { S := docS }
  | .ex y, S => { S := exS (ck Γn y S).E }
  | .set i y, S => { S := setS S i (ck Γn y S).E (compCk Γn S y) }
  | .tgt t y, S => { S := tgtS S t (ck Γn y S).E }
  | .par i j es, S => { S := parS S i j (ck Γn es S).A }
  | .par3 i j l es, S => { S := par3S S i j l (ck Γn es S).A }
  | .seti o ix y, S => { S := setiS (ck Γn o S).E (ck Γn ix S).E (ck Γn y S).E }
  | .ite c a b, S => { S := iteS (ck Γn c S).T (ckS Γn a S).B (ckS Γn b S).B }
  | .for_ t src b, S => { S := forS S t (ck Γn src S).I (ckS Γn b S).B }
  | .whl c b, S => { S := whlS (ck Γn c S).T (ckS Γn b S).B }
  | .ret y, S => { S := retS (ck Γn y S).E }
  | .ret0, _ => { S := ret0S }
  | .brk, _ => { S := brkS }
  | .cnt, _ => { S := cntS }
  | .nev, _ => { S := fun _ => true }
  | .rse e es, S => { S := rseS S e (ck Γn es S).A }

/-! ### soundness -/
structure DLow (G : Gx) (B : Addr → Prop) (α : List Addr) (O : List DO) (H : Hp) (D0 : ZD) (D : Ends) : Prop where
  nx : ∀ ρ' O', D0.nx ρ' O' → ∀ α' σ' H', Stp α O H α' O' H' → Rep G B α' σ' H' ρ' O' → D.nx σ' H'
  rt : ∀ u O', D0.rt u O' → ∀ α' v H', Stp α O H α' O' H' → Own G B α' O' H' → AtU G.K B α' O' H' v u → D.rt v H'
  bk : ∀ ρ' O', D0.bk ρ' O' → ∀ α' σ' H', Stp α O H α' O' H' → Rep G B α' σ' H' ρ' O' → D.bk σ' H'
  ct : ∀ ρ' O', D0.ct ρ' O' → ∀ α' σ' H', Stp α O H α' O' H' → Rep G B α' σ' H' ρ' O' → D.ct σ' H'
def LfS (G : Gx) (W0 : XK) (t : ZS) : TS := fun D σ H => ∃ B α ρ O D0 E0, Rep G B α σ H ρ O ∧ t E0 D0 ρ O ∧ DLow G B α O H D0 D ∧ ELow G B W0 α O H E0
theorem DLow.stp {G : Gx} {B : Addr → Prop} {α α' : List Addr} {O O' : List DO} {H H' : Hp} {D0 : ZD} {D : Ends} (d : DLow G B α O H D0 D) (s : Stp α O H α' O' H') : DLow G B α' O' H' D0 D :=
  ⟨fun ρ O e α σ H s2 r => d.nx ρ O e α σ H (s.trans s2) r, fun u O e α v H s2 w a => d.rt u O e α v H (s.trans s2) w a, fun ρ O e α σ H s2 r => d.bk ρ O e α σ H (s.trans s2) r, fun ρ O e α σ H s2 r => d.ct ρ O e α σ H (s.trans s2) r⟩
theorem ps_imp {X : Cx} {e : Stmt} {t t' : TS} (h : PS X e t) (i : ∀ D σ H, t' D σ H → t D σ H) : PS X e t' := ⟨fun pins s σ H D I q => h.run pins s σ H D I (i D σ H q)⟩
theorem pss_imp {X : Cx} {e : List Stmt} {t t' : TS} (h : PSs X e t) (i : ∀ D σ H, t' D σ H → t D σ H) : PSs X e t' := ⟨fun pins s σ H D I q => h.run pins s σ H D I (i D σ H q)⟩
structure GoodS (X : Cx) (G : Gx) (W0 : XK) (k : Nat) (S : Sx) (Γ : List (Fk × ZSp)) : Prop extends Good X G W0 k S Γ where
  po : PassesOwn (model X.prog X.w) X.A X.env X.xe
  fk : X.env.scope.kind = .function
  rm2 : Room (k + 3) X.A
structure SdS (G : Gx) (k : Nat) (Γ : List (Fk × ZSp)) (z : YS) : Prop where
  S : ∀ X W0 S, GoodS X G W0 k S Γ → ∀ e, (ckS (Γ.map (·.1)) z S).S e = true → PS X e (LfS G W0 (vcS Γ z))
  B : ∀ X W0 S, GoodS X G W0 k S Γ → ∀ e, (ckS (Γ.map (·.1)) z S).B e = true → PSs X e (LfS G W0 (vcS Γ z))
section
variable {G : Gx} {k : Nat} {Γ : List (Fk × ZSp)}
theorem SdS.ofS {z : YS} (f : Sx → Stmt → Bool) (hf : ∀ S, ckS (Γ.map (·.1)) z S = { S := f S }) (h : ∀ X W0 S, GoodS X G W0 k S Γ → ∀ e, f S e = true → PS X e (LfS G W0 (vcS Γ z))) : SdS G k Γ z where
  S := fun X W0 S g e c => h X W0 S g e (by rw [hf S] at c; exact c)
  B := fun X W0 S g e c => by rw [hf S] at c; cases c
theorem ss_nil : SdS G k Γ .nil where
  S := fun X W0 S g e c => by cases c
  B := fun X W0 S g e c => by
    have c' : nilB e = true := c
    unfold nilB at c'
    split at c'
    · exact pss_imp pss_nil fun D σ H ⟨B, α, ρ, O, D0, E0, R, h, hd, hl⟩ => hd.nx _ _ h _ _ _ Stp.refl R
    · cases c'
theorem ss_seq {a r : YS} (da : SdS G k Γ a) (dr : SdS G k Γ r) : SdS G k Γ (.seq a r) where
  S := fun X W0 S g e c => by cases c
  B := fun X W0 S g e c => by
    have c' : seqB' (ckS (Γ.map (·.1)) a S).S (ckS (Γ.map (·.1)) r S).B e = true := c
    unfold seqB' at c'
    split at c'
    · obtain ⟨c1, c2⟩ := ba c'
      refine pss_imp (pss_cons (da.S X W0 S g _ c1) (dr.B X W0 S g _ c2)) fun D σ H ⟨B, α, ρ, O, D0, E0, R, h, hd, hl⟩ => ?_
      exact ⟨B, α, ρ, O, _, E0, R, h, ⟨fun ρ' O' q α' σ' H' s R' => ⟨B, α', ρ', O', D0, E0, R', q, hd.stp s, hl.stp s⟩, hd.rt, hd.bk, hd.ct⟩, hl⟩
    · cases c'
theorem ss_pas : SdS G k Γ .pas := .ofS _ (fun _ => rfl) fun X W0 S g e c => by
  unfold pasS at c
  split at c
  · exact ps_imp ps_pass fun D σ H ⟨B, α, ρ, O, D0, E0, R, h, hd, hl⟩ => hd.nx _ _ h _ _ _ Stp.refl R
  · cases c
theorem ss_doc : SdS G k Γ .doc := .ofS _ (fun _ => rfl) fun X W0 S g e c => by
  unfold docS at c
  split at c
  · exact ps_imp ps_doc fun D σ H ⟨B, α, ρ, O, D0, E0, R, h, hd, hl⟩ => hd.nx _ _ h _ _ _ Stp.refl R
  · cases c
theorem ss_brk : SdS G k Γ .brk := .ofS _ (fun _ => rfl) fun X W0 S g e c => by
  unfold brkS at c
  split at c
  · exact ps_imp ps_break fun D σ H ⟨B, α, ρ, O, D0, E0, R, h, hd, hl⟩ => hd.bk _ _ h _ _ _ Stp.refl R
  · cases c
theorem ss_cnt : SdS G k Γ .cnt := .ofS _ (fun _ => rfl) fun X W0 S g e c => by
  unfold cntS at c
  split at c
  · exact ps_imp ps_continue fun D σ H ⟨B, α, ρ, O, D0, E0, R, h, hd, hl⟩ => hd.ct _ _ h _ _ _ Stp.refl R
  · cases c
theorem ss_nev : SdS G k Γ .nev := .ofS _ (fun _ => rfl) fun X W0 S g e c => ps_imp ps_never fun D σ H ⟨B, α, ρ, O, D0, E0, R, h, hd, hl⟩ => h
theorem ss_rse (e : XcD) {es : Y} : SdS G k Γ (.rse e es) := .ofS _ (fun _ => rfl) fun X W0 S g st c => by
  have low : ∀ {t : L2.St → Hp → XK → Prop} {ex : Expr} {pos : Pos}, PMk X ex t → (∀ σ H, LfS G W0 (vcS Γ (.rse e es)) ⟨fun _ _ => False, fun _ _ => False, fun _ _ => False, fun _ _ => False⟩ σ H → True) → (∀ D σ H, LfS G W0 (vcS Γ (.rse e es)) D σ H → t σ H fun cls d H' => W0 cls d H') → PS X (.Raise (some ex) none pos) (LfS G W0 (vcS Γ (.rse e es))) := fun {t ex pos} h _ i =>
    ps_imp (ps_raise (W := fun c d _ H => W0 c d H) g.calm g.takes h) fun D σ H q => i D σ H q
  have read : ∀ (D : Ends) (σ : L2.St) (H : Hp), LfS G W0 (vcS Γ (.rse e es)) D σ H → LfA G W0 (vc Γ es) σ H fun vs H1 => vs.length = e.n ∧ ∃ gs, initFs vs e.fl = some gs ∧ ∀ d, H1 d = none → W0 (.ref (He.ga X.K e.nm)) (some d) (upd H1 d (.xd gs.reverse)) := by
    rintro D σ H ⟨B, α, ρ, O, D0, E0, R, h, hd, hl⟩
    refine seqA R h hl fun us O1 f α1 vs H1 s1 w1 a1 => ?_
    obtain ⟨ds, e1, hn, fs, e2, f⟩ := tosK_of f
    have r := Ats.of w1 a1 e1
    obtain ⟨gs, e3, e4, r2⟩ := initD_of r e2
    refine ⟨by rw [r.length]; exact hn, gs, e3, fun d hd => ?_⟩
    refine (hl.stp s1) _ _ f α1 _ _ _ (stp_new hd) (own_new w1 hd) ⟨by rw [g.hK], d, gs.reverse, rfl, upd_same, w1.mu_ne hd, ?_, ?_⟩
    · rw [List.map_reverse, List.map_reverse, e4]
    · rw [List.map_reverse, List.map_reverse]
      exact (stp_new hd).ats r2.reverse
  unfold rseS at c
  split at c
  · obtain ⟨c, c5⟩ := ba c
    obtain ⟨c, c4⟩ := ba c
    obtain ⟨c, c3⟩ := ba c
    obtain ⟨c1, c2⟩ := ba c
    cases of_decide_eq_true c1
    have W := g.xs e (of_decide_eq_true c2)
    refine low (t := fun σ H Q => LfA G W0 (vc Γ es) σ H fun vs H1 => vs.length = e.n ∧ ∃ gs, initFs vs e.fl = some gs ∧ ∀ d, H1 d = none → Q (.ref (He.ga X.K e.nm)) (some d) (upd H1 d (.xd gs.reverse))) (fun pins s σ H Q I h => ?_) (fun _ _ _ => trivial) read
    refine wpAny_Call_Name_kw (ld_glob I (glo_of g.toGood c3) W.hm ?_ (okn_of c4).1)
    refine PySem.W.callWith_K0 I.kIn W.T.kC ?_
    have en : es = .nil := by
      cases es <;> first | rfl | cases c5
    subst en
    obtain ⟨B, α, ρ, O, Q0, E0, R, h, hq, hl⟩ := h
    obtain ⟨hn, gs, e3, q⟩ := hq _ _ h _ _ _ Stp.refl R.own .nil
    exact mk_err (us := []) W (g.rm2.mono (by omega)) I .nil hn e3 q
  · obtain ⟨c, c7⟩ := ba c
    obtain ⟨c, c6⟩ := ba c
    obtain ⟨c, c5⟩ := ba c
    obtain ⟨c, c4⟩ := ba c
    obtain ⟨c, c3⟩ := ba c
    obtain ⟨c1, c2⟩ := ba c
    cases of_decide_eq_true c1
    have W := g.xs e (of_decide_eq_true c2)
    refine low (t := fun σ H Q => LfA G W0 (vc Γ es) σ H fun vs H1 => vs.length = e.n ∧ ∃ gs, initFs vs e.fl = some gs ∧ ∀ d, H1 d = none → Q (.ref (He.ga X.K e.nm)) (some d) (upd H1 d (.xd gs.reverse))) (fun pins s σ H Q I h => ?_) (fun _ _ _ => trivial) read
    refine wpAny_Call_Name_kw (ld_glob I (glo_of g.toGood c3) W.hm ?_ (okn_of c4).1)
    refine PySem.W.callWith_K (h₀ := X.base) I.ok.mod.kin W.T.kC (thn (((sd_all es).A X W0 S g.toGood _ c7).run _ pins s σ H _ I h) fun us s1 ⟨vs, H1, I1, r, hn, gs, e3, q⟩ => ⟨I1.kIn, ?_⟩) (starEach_plain c5) (any_plain c6)
    exact mk_err W (g.rm2.mono (by omega)) I1 r hn e3 q
  · cases c
theorem ss_ret0 : SdS G k Γ .ret0 := .ofS _ (fun _ => rfl) fun X W0 S g e c => by
  unfold ret0S at c
  split at c
  · exact ps_imp ps_retN fun D σ H ⟨B, α, ρ, O, D0, E0, R, h, hd, hl⟩ => hd.rt _ _ h _ _ _ Stp.refl R.own (.d .non)
  · cases c
theorem nosw_none {e : Expr} {l : Nat} {env : Env} (h : noComp e = true) : swapsWith e none l env = pure false := by
  cases e <;> first | rfl | cases h
theorem nosw_sub {e o i : Expr} {p : Pos} {l : Nat} {env : Env} : swapsWithSole [.Subscript o i p] e l env = pure false := by
  cases e <;> rfl
theorem nosw_tup {e : Expr} {ts : List Expr} {kk : Nat} {p : Pos} {l : Nat} {env : Env} : swapsWithSole [.Tuple ts kk p] e l env = pure false := by
  cases e <;> rfl
theorem sws_sub {e o i : Expr} {p : Pos} {env : Env} : swappedStores [.Subscript o i p] e env = pure none := by
  cases e <;> rfl
theorem ss_ex {y : Y} : SdS G k Γ (.ex y) := .ofS _ (fun _ => rfl) fun X W0 S g e c => by
  unfold exS at c
  split at c
  · obtain ⟨c1, c2⟩ := ba c
    refine ps_imp (ps_expr ((sd_all y).E X W0 S g.toGood _ c2) (nosw_none c1)) fun D σ H ⟨B, α, ρ, O, D0, E0, R, h, hd, hl⟩ => ?_
    exact seqE R h hl fun u O1 f α1 v H1 s1 w1 a1 => hd.nx _ _ f _ _ _ s1 (R.stp s1 w1)
  · cases c
theorem ss_ret {y : Y} : SdS G k Γ (.ret y) := .ofS _ (fun _ => rfl) fun X W0 S g e c => by
  unfold retS at c
  split at c
  · refine ps_imp (ps_ret ((sd_all y).E X W0 S g.toGood _ c)) fun D σ H ⟨B, α, ρ, O, D0, E0, R, h, hd, hl⟩ => ?_
    exact seqE R h hl fun u O1 f α1 v H1 s1 w1 a1 => hd.rt _ _ f _ _ _ s1 w1 a1
  · cases c
theorem ss_ite {c : Y} {a b : YS} (da : SdS G k Γ a) (db : SdS G k Γ b) : SdS G k Γ (.ite c a b) := .ofS _ (fun _ => rfl) fun X W0 S g e ch => by
  unfold iteS at ch
  split at ch
  · obtain ⟨ch, c3⟩ := ba ch
    obtain ⟨c1, c2⟩ := ba ch
    refine ps_imp (ps_if ((sd_all c).T X W0 S g.toGood _ c1) (da.B X W0 S g _ c2) (db.B X W0 S g _ c3)) fun D σ H ⟨B, α, ρ, O, D0, E0, R, h, hd, hl⟩ => ?_
    refine seqT R h hl fun t O1 f α1 H1 s1 w1 => ?_
    cases t with
    | true => rw [if_pos rfl]; exact ⟨B, α1, ρ, O1, D0, E0, R.stp s1 w1, f.1 rfl, hd.stp s1, hl.stp s1⟩
    | false => rw [if_neg (by decide)]; exact ⟨B, α1, ρ, O1, D0, E0, R.stp s1 w1, f.2 rfl, hd.stp s1, hl.stp s1⟩
  · cases ch
end
end Z

set_option Elab.async false
set_option linter.all false
set_option maxRecDepth 100000
set_option maxHeartbeats 4000000
namespace Z
open PySem PySem.Spec PyProof.Rows L2
theorem nosw_name {e : Expr} {x : Str} {px : Pos} {l : Nat} {env : Env} (h : noswC env.scope x px e = true) : swapsWith e (some (.Name x px)) l env = pure false := by
  cases e with
  | ListComp elt gs scope pos =>
    have e1 : swapsWith (.ListComp elt gs scope pos) (some (.Name x px)) l env = pure (env.blockKind == .function && env.kindOf x == some .local && px.line == pos.line && !(scope.names.any fun (n, k) => n == x && (k == .local || k == .cell))) := rfl
    rw [e1]
    congr 1
    have h' : (!(px.line == pos.line) || decide (env.scope.names.lookup x ≠ some .local) || (scope.names.any fun (n, k) => n == x && (k == .local || k == .cell))) = true := h
    rw [Bool.or_eq_true, Bool.or_eq_true] at h'
    rcases h' with (h' | h') | h'
    · have : (px.line == pos.line) = false := by simpa using h'
      rw [this, Bool.and_false, Bool.false_and]
    · have h2 := of_decide_eq_true h'
      have : (env.kindOf x == some .local) = false := by
        show (env.scope.names.lookup x == some .local) = false
        exact beq_eq_false_iff_ne.mpr h2
      rw [this, Bool.and_false, Bool.false_and, Bool.false_and]
    · rw [h', Bool.not_true, Bool.and_false]
  | SetComp _ _ _ _ => cases h
  | DictComp _ _ _ _ _ => cases h
  | _ => rfl
theorem sws_noTup {e : Expr} {ts : List Expr} {kk : Nat} {p : Pos} {env : Env} (h : noTup e = true) : swappedStores [.Tuple ts kk p] e env = pure none := by
  cases e <;> first | rfl | cases h
def nms (env : Env) (ts : List Expr) : List Str := ts.filterMap fun
    | .Name id pos => if (env.kindOf id == some .local && pos.line == ((ts.head?.map (·.pos.line)).getD 0)) = true then some id else none
    | _ => none
theorem sws_eq {ts vs : List Expr} {kk k2 : Nat} {p p2 : Pos} {env : Env} : ∃ X, swappedStores [.Tuple ts kk p] (.Tuple vs k2 p2) env =
    if (!(ts.length == 2 || ts.length == 3) || vs.length != ts.length || env.blockKind != .function) = true then pure none else
    if (vs.any fun | .Starred .. => true | _ => false) = true then pure none else
    if ((nms env ts).length != ts.length || (nms env ts).eraseDups.length != (nms env ts).length) = true then pure none else
    if (vs.all (foldedForSure 8)) = true then pure none else
    if (vs.all (constantsAlone 8)) = true then X else
    pure (some (nms env ts)) := ⟨_, rfl⟩
theorem fm_lt {α β : Type} {f : α → Option β} : ∀ {l : List α} {a : α}, a ∈ l → f a = none → (l.filterMap f).length < l.length
  | x :: l, a, hm, hf => by
    rcases List.mem_cons.mp hm with rfl | hm
    · rw [List.filterMap_cons_none hf, List.length_cons]
      exact Nat.lt_succ_of_le (List.length_filterMap_le f l)
    · have ih := fm_lt hm hf
      rw [List.length_cons]
      cases q : f x with
      | none => rw [List.filterMap_cons_none q]; omega
      | some y => rw [List.filterMap_cons_some q, List.length_cons]; omega
theorem sws_tup {e : Expr} {ts : List Expr} {kk : Nat} {p : Pos} {env : Env} (h : (noTup e || nosw2 env.scope ts) = true) : swappedStores [.Tuple ts kk p] e env = pure none := by
  rw [Bool.or_eq_true] at h
  rcases h with h | h
  · exact sws_noTup h
  · by_cases hn : noTup e = true
    · exact sws_noTup hn
    · cases e with
      | Tuple vs k2 p2 =>
        obtain ⟨X, e1⟩ := @sws_eq ts vs kk k2 p p2 env
        rw [e1]
        by_cases c1 : (!(ts.length == 2 || ts.length == 3) || vs.length != ts.length || env.blockKind != .function) = true
        · rw [if_pos c1]
        · rw [if_neg c1]
          by_cases c2 : (vs.any fun | .Starred .. => true | _ => false) = true
          · rw [if_pos c2]
          · rw [if_neg c2, if_pos]
            unfold nosw2 at h
            rw [Bool.or_eq_true] at h
            rcases h with h | h
            · obtain ⟨t, hm, ht⟩ := List.any_eq_true.mp h
              rw [Bool.or_eq_true]
              left
              have : (nms env ts).length < ts.length := by
                refine fm_lt hm ?_
                cases t with
                | Name x px =>
                  have h2 : (env.kindOf x == some .local) = false := beq_eq_false_iff_ne.mpr (of_decide_eq_true ht)
                  show (if (env.kindOf x == some .local && _) = true then some x else none) = none
                  rw [h2, Bool.false_and, if_neg (by decide)]
                | _ => rfl
              exact bne_iff_ne.mpr (Nat.ne_of_lt this)
            · exact absurd (by rw [h]; rfl) c1
      | _ => exact absurd rfl hn
theorem nms_loc {env : Env} {l : Nat} : ∀ {xs : List (Str × Pos)}, (∀ p ∈ xs, env.scope.names.lookup p.1 = some .local ∧ (p.2.line == l) = true) → (xs.filterMap fun p => if (env.kindOf p.1 == some .local && p.2.line == l) = true then some p.1 else none) = xs.map (·.1)
  | [], _ => rfl
  | p :: xs, h => by
    obtain ⟨h1, h2⟩ := h p List.mem_cons_self
    have h3 : (env.kindOf p.1 == some .local) = true := beq_iff_eq.mpr h1
    rw [List.filterMap_cons_some (b := p.1) (by rw [h3, h2]; rfl), nms_loc fun q hq => h q (List.mem_cons_of_mem _ hq)]
    rfl
theorem sws_par {x y : Str} {px py : Pos} {a b : Expr} {kk k2 : Nat} {p p2 : Pos} {env : Env} (hk : env.scope.kind = .function) (hx : env.scope.names.lookup x = some .local) (hy : env.scope.names.lookup y = some .local) (hl : (px.line == py.line) = true) (hne : x ≠ y)
    (ha : noStar a = true) (hb : noStar b = true) (hf : (foldedForSure 8 a && foldedForSure 8 b) = false) (hc : (constantsAlone 8 a && constantsAlone 8 b) = false) :
    swappedStores [.Tuple [.Name x px, .Name y py] kk p] (.Tuple [a, b] k2 p2) env = pure (some [x, y]) := by
  obtain ⟨X, e1⟩ := @sws_eq [.Name x px, .Name y py] [a, b] kk k2 p p2 env
  have hn : nms env [.Name x px, .Name y py] = [x, y] := by
    have h3 : (env.kindOf x == some .local) = true := beq_iff_eq.mpr hx
    have h4 : (env.kindOf y == some .local) = true := beq_iff_eq.mpr hy
    have hl' : (py.line == px.line) = true := by rw [beq_iff_eq] at hl ⊢; exact hl.symm
    unfold nms
    rw [List.filterMap_cons_some (b := x) (by show (if (env.kindOf x == some .local && px.line == px.line) = true then some x else none) = some x; rw [h3]; simp), List.filterMap_cons_some (b := y) (by show (if (env.kindOf y == some .local && py.line == px.line) = true then some y else none) = some y; rw [h4, hl']; rfl)]
    rfl
  have hbk : env.blockKind = .function := by unfold Env.blockKind; rw [hk]; rfl
  have star : ∀ {e : Expr}, noStar e = true → (match e with | .Starred .. => true | _ => false) = false := fun {e} h => by cases e <;> first | rfl | cases h
  rw [e1, if_neg (by rw [hbk]; show ¬ (false = true); decide), if_neg, hn, if_neg, if_neg, if_neg]
  · simp only [List.all_cons, List.all_nil, Bool.and_true]; rw [hc]; decide
  · simp only [List.all_cons, List.all_nil, Bool.and_true]; rw [hf]; decide
  · have : [x, y].eraseDups = [x, y] := by
      have h2 : (y == x) = false := beq_eq_false_iff_ne.mpr (Ne.symm hne)
      simp [List.eraseDups_cons, h2]
    rw [this]
    show ¬ (false = true)
    decide
  · simp only [List.any_cons, List.any_nil]
    have h1 := star ha
    have h2 := star hb
    simp only [Bool.or_false, Bool.or_eq_true, not_or]
    exact ⟨by rw [Bool.not_eq_true]; exact h1, by rw [Bool.not_eq_true]; exact h2⟩
theorem sws_par3 {x y z : Str} {px py pz : Pos} {a b c : Expr} {kk k2 : Nat} {p p2 : Pos} {env : Env} (hk : env.scope.kind = .function) (hx : env.scope.names.lookup x = some .local) (hy : env.scope.names.lookup y = some .local) (hz : env.scope.names.lookup z = some .local) (hl : (px.line == py.line) = true) (hl2 : (px.line == pz.line) = true) (hne : x ≠ y ∧ x ≠ z ∧ y ≠ z)
    (ha : noStar a = true) (hb : noStar b = true) (hcs : noStar c = true) (hf : (foldedForSure 8 a && foldedForSure 8 b && foldedForSure 8 c) = false) (hc : (constantsAlone 8 a && constantsAlone 8 b && constantsAlone 8 c) = false) :
    swappedStores [.Tuple [.Name x px, .Name y py, .Name z pz] kk p] (.Tuple [a, b, c] k2 p2) env = pure (some [x, y, z]) := by
  obtain ⟨X, e1⟩ := @sws_eq [.Name x px, .Name y py, .Name z pz] [a, b, c] kk k2 p p2 env
  have hn : nms env [.Name x px, .Name y py, .Name z pz] = [x, y, z] := by
    have h3 : (env.kindOf x == some .local) = true := beq_iff_eq.mpr hx
    have h4 : (env.kindOf y == some .local) = true := beq_iff_eq.mpr hy
    have h5 : (env.kindOf z == some .local) = true := beq_iff_eq.mpr hz
    have hl' : (py.line == px.line) = true := by rw [beq_iff_eq] at hl ⊢; exact hl.symm
    have hl3 : (pz.line == px.line) = true := by rw [beq_iff_eq] at hl2 ⊢; exact hl2.symm
    unfold nms
    rw [List.filterMap_cons_some (b := x) (by show (if (env.kindOf x == some .local && px.line == px.line) = true then some x else none) = some x; rw [h3]; simp), List.filterMap_cons_some (b := y) (by show (if (env.kindOf y == some .local && py.line == px.line) = true then some y else none) = some y; rw [h4, hl']; rfl), List.filterMap_cons_some (b := z) (by show (if (env.kindOf z == some .local && pz.line == px.line) = true then some z else none) = some z; rw [h5, hl3]; rfl)]
    rfl
  have hbk : env.blockKind = .function := by unfold Env.blockKind; rw [hk]; rfl
  have star : ∀ {e : Expr}, noStar e = true → (match e with | .Starred .. => true | _ => false) = false := fun {e} h => by cases e <;> first | rfl | cases h
  rw [e1, if_neg (by rw [hbk]; show ¬ (false = true); decide), if_neg, hn, if_neg, if_neg, if_neg]
  · simp only [List.all_cons, List.all_nil, Bool.and_true]; rw [← Bool.and_assoc, hc]; decide
  · simp only [List.all_cons, List.all_nil, Bool.and_true]; rw [← Bool.and_assoc, hf]; decide
  · have : [x, y, z].eraseDups = [x, y, z] := by
      have h1 : (y == x) = false := beq_eq_false_iff_ne.mpr (Ne.symm hne.1)
      have h2 : (z == x) = false := beq_eq_false_iff_ne.mpr (Ne.symm hne.2.1)
      have h3 : (z == y) = false := beq_eq_false_iff_ne.mpr (Ne.symm hne.2.2)
      simp [List.eraseDups_cons, h1, h2, h3]
    rw [this]
    show ¬ (false = true)
    decide
  · simp only [List.any_cons, List.any_nil]
    have h1 := star ha
    have h2 := star hb
    have h3 := star hcs
    simp only [Bool.or_false, Bool.or_eq_true, not_or]
    exact ⟨by rw [Bool.not_eq_true]; exact h1, by rw [Bool.not_eq_true]; exact h2, by rw [Bool.not_eq_true]; exact h3⟩

section
variable {G : Gx} {k : Nat} {Γ : List (Fk × ZSp)}
theorem bnot {b : Bool} (h : (!b) = true) : b = false := by cases b <;> first | rfl | cases h
theorem kind_of_swC {sc : Scope} {x : Str} {px : Pos} {e : Expr} (h : swC sc x px e = true) : ∃ elt gs scope pos, e = .ListComp elt gs scope pos ∧ (px.line == pos.line) = true ∧ sc.names.lookup x = some .local ∧ (scope.names.any fun (n, k) => n == x && (k == .local || k == .cell)) = false ∧ sc.kind = .function := by
  cases e with
  | ListComp elt gs scope pos =>
    have h' : ((px.line == pos.line) && decide (sc.names.lookup x = some .local) && !(scope.names.any fun (n, k) => n == x && (k == .local || k == .cell)) && (match sc.kind with | .function => true | _ => false)) = true := h
    obtain ⟨h', h4⟩ := ba h'
    obtain ⟨h', h3⟩ := ba h'
    obtain ⟨h1, h2⟩ := ba h'
    refine ⟨elt, gs, scope, pos, rfl, h1, of_decide_eq_true h2, by simpa using h3, ?_⟩
    cases q : sc.kind <;> rw [q] at h4 <;> first | rfl | cases h4
  | _ => cases h
theorem ss_set (i : Nat) (y : Y) : SdS G k Γ (.set i y) := .ofS _ (fun _ => rfl) fun X W0 S g e c => by
  unfold setS at c
  split at c
  · rename_i x px e sp
    obtain ⟨c, c3⟩ := ba c
    obtain ⟨c1, c2⟩ := ba c
    obtain ⟨l, hf⟩ := g.sto x c2
    have hi : X.N[i]? = some x := by rw [g.hN]; exact of_decide_eq_true c1
    have low : ∀ D σ H, LfS G W0 (vcS Γ (.set i y)) D σ H → tAsg (LfE G W0 (vc Γ y)) (gName i) D σ H := fun D σ H ⟨B, α, ρ, O, D0, E0, R, h, hd, hl⟩ => by
      exact seqE R h hl fun u O1 f α1 v H1 s1 w1 a1 => hd.nx _ _ f _ _ _ s1 ((R.stp s1 w1).st i a1)
    rw [Bool.or_eq_true] at c3
    rcases c3 with c3 | c3
    · obtain ⟨c3, c4⟩ := ba c3
      exact ps_imp (ps_set g.nd hi l ((sd_all y).E X W0 S g.toGood _ c3) (nosw_name (by rw [g.sc]; exact c4)) hf) low
    · obtain ⟨c3, c4⟩ := ba c3
      cases y with
      | comp own vs tg src tst elt =>
        obtain ⟨e0, t, it, ifs, scope, pos, wi, gg, tt, te, rfl, pi, ok, hg, ht, he, hs, imp⟩ := comp_ex own vs tg (sd_all src) (sd_all tst) (sd_all elt) (by
          intro h
          cases tst <;> first | rfl | cases h) g.toGood c3
        obtain ⟨elt', gs', scope', pos', e1, h1, h2, h3, h4⟩ := kind_of_swC c4
        cases e1
        rw [← g.sc] at h2 h4
        exact ps_imp (ps_setLc g.calm g.nd hi h2 (sw_true h4 h2 h1 h3) pi ok hg ht he hs) fun D σ H h => imp _ _ _ (low D σ H h)
      | compU vs tg src elt =>
        obtain ⟨e0, t, it, ifs, scope, pos, wi, gg, tt, te, rfl, pi, ok, hg, ht, he, hs, imp⟩ := comp_exU vs tg (sd_all src) (sd_all elt) g.toGood c3
        obtain ⟨elt', gs', scope', pos', e1, h1, h2, h3, h4⟩ := kind_of_swC c4
        cases e1
        rw [← g.sc] at h2 h4
        exact ps_imp (ps_setLc g.calm g.nd hi h2 (sw_true h4 h2 h1 h3) pi ok hg ht he hs) fun D σ H h => imp _ _ _ (low D σ H h)
      | _ => cases c3
  · cases c
theorem ss_tgt (t : T1) (y : Y) : SdS G k Γ (.tgt t y) := .ofS _ (fun _ => rfl) fun X W0 S g e c => by
  unfold tgtS at c
  split at c
  · obtain ⟨c, c3⟩ := ba c
    obtain ⟨c1, c2⟩ := ba c
    refine ps_imp (ps_asg ((sd_all y).E X W0 S g.toGood _ c2) (sd_tg g.toGood c1) nosw_tup (sws_tup (by rw [g.sc]; exact c3)) rfl) fun D σ H ⟨B, α, ρ, O, D0, E0, R, h, hd, hl⟩ => ?_
    refine seqE R h hl fun u O1 f α1 v H1 s1 w1 a1 => ?_
    obtain ⟨d, e1, f⟩ := toK_of f
    exact ⟨B, α1, O1, ρ, d, _, R.stp s1 w1, At.of w1 a1 e1, f, fun ρ' q σ' R' _ _ => hd.nx _ _ q _ _ _ s1 R'⟩
  · cases c
theorem ss_par (i j : Nat) (es : Y) : SdS G k Γ (.par i j es) := .ofS _ (fun _ => rfl) fun X W0 S g e c => by
  unfold parS at c
  split at c
  · obtain ⟨c, c12⟩ := ba c
    obtain ⟨c, c11⟩ := ba c
    obtain ⟨c, c10⟩ := ba c
    obtain ⟨c, c9⟩ := ba c
    obtain ⟨c, c8⟩ := ba c
    obtain ⟨c, c7⟩ := ba c
    obtain ⟨c, c6⟩ := ba c
    obtain ⟨c, c5⟩ := ba c
    obtain ⟨c, c4⟩ := ba c
    obtain ⟨c, c3⟩ := ba c
    obtain ⟨c1, c2⟩ := ba c
    have hx := of_decide_eq_true c4
    have hy := of_decide_eq_true c5
    rw [← g.sc] at hx hy
    refine ps_imp (ps_par g.calm g.nd (by rw [g.hN]; exact of_decide_eq_true c1) (by rw [g.hN]; exact of_decide_eq_true c2) (of_decide_eq_true c3) hx hy ((sd_all es).A X W0 S g.toGood _ c12) (sws_par g.fk hx hy c6 (of_decide_eq_true c7) c8 c9 (bnot c10) (bnot c11))) fun D σ H ⟨B, α, ρ, O, D0, E0, R, h, hd, hl⟩ => ?_
    refine seqA R h hl fun us O1 f α1 vs H1 s1 w1 a1 => ?_
    split at f
    · cases a1 with
      | cons a r => cases r with
        | cons a2 r => cases r with
          | nil => exact ⟨_, _, rfl, hd.nx _ _ f _ _ _ s1 (((R.stp s1 w1).st i a).st j a2)⟩
    · exact f.elim
  · cases c
theorem ss_par3 (i j l : Nat) (es : Y) : SdS G k Γ (.par3 i j l es) := .ofS _ (fun _ => rfl) fun X W0 S g e c => by
  unfold par3S at c
  split at c
  · obtain ⟨c, c16⟩ := ba c
    obtain ⟨c, c15⟩ := ba c
    obtain ⟨c, c14⟩ := ba c
    obtain ⟨c, c13⟩ := ba c
    obtain ⟨c, c12⟩ := ba c
    obtain ⟨c, c11⟩ := ba c
    obtain ⟨c, c10⟩ := ba c
    obtain ⟨c, c9⟩ := ba c
    obtain ⟨c, c8⟩ := ba c
    obtain ⟨c, c7⟩ := ba c
    obtain ⟨c, c6⟩ := ba c
    obtain ⟨c, c5⟩ := ba c
    obtain ⟨c, c4⟩ := ba c
    obtain ⟨c, c3⟩ := ba c
    obtain ⟨c1, c2⟩ := ba c
    have hx := of_decide_eq_true c5
    have hy := of_decide_eq_true c6
    have hz := of_decide_eq_true c7
    rw [← g.sc] at hx hy hz
    obtain ⟨n1, n2, n3⟩ := of_decide_eq_true c4
    refine ps_imp (ps_par3 g.calm g.nd (by rw [g.hN]; exact of_decide_eq_true c1) (by rw [g.hN]; exact of_decide_eq_true c2) (by rw [g.hN]; exact of_decide_eq_true c3) n1 n2 n3 hx hy hz ((sd_all es).A X W0 S g.toGood _ c16) (sws_par3 g.fk hx hy hz c8 c9 (of_decide_eq_true c10) c11 c12 c13 (bnot c14) (bnot c15))) fun D σ H ⟨B, α, ρ, O, D0, E0, R, h, hd, hl⟩ => ?_
    refine seqA R h hl fun us O1 f α1 vs H1 s1 w1 a1 => ?_
    split at f
    · cases a1 with
      | cons a r => cases r with
        | cons a2 r => cases r with
          | cons a3 r => cases r with
            | nil => exact ⟨_, _, _, rfl, hd.nx _ _ f _ _ _ s1 ((((R.stp s1 w1).st i a).st j a2).st l a3)⟩
    · exact f.elim
  · cases c
theorem asg_sub {o i : Expr} {pos : Pos} {env : Env} (h : noSlice i = true) (v : Value) : assign (.Subscript o i pos) env v = (do
      let ov ← holding [v] (eval o env)
      let iv ← holding [v, ov] (eval i env)
      standAt pos
      holding [v, ov, iv] (setItem ov iv v)
      release [v, ov, iv] []) := by
  cases i <;> first | rfl | cases h
theorem ss_seti (o ix y : Y) : SdS G k Γ (.seti o ix y) := .ofS _ (fun _ => rfl) fun X W0 S g e c => by
  unfold setiS at c
  split at c
  · obtain ⟨c, c4⟩ := ba c
    obtain ⟨c, c3⟩ := ba c
    obtain ⟨c1, c2⟩ := ba c
    refine ps_imp (ps_asg ((sd_all y).E X W0 S g.toGood _ c3) (pg_sub ((sd_all o).E X W0 S g.toGood _ c1) ((sd_all ix).E X W0 S g.toGood _ c2) set_list (asg_sub c4)) nosw_sub sws_sub rfl) fun D σ H ⟨B, α, ρ, O, D0, E0, R, h, hd, hl⟩ => ?_
    refine seqE R h hl fun u O1 f α1 v H1 s1 w1 a1 => ?_
    refine seqE (R.stp s1 w1) f (hl.stp s1) fun r O2 f2 α2 v2 H2 s2 w2 a2 => ?_
    refine seqE ((R.stp s1 w1).stp s2 w2) f2 ((hl.stp s1).stp s2) fun kx O3 f3 α3 v3 H3 s3 w3 a3 => ?_
    split at f3
    · rename_i k' i'
      rw [go_eq] at f3
      cases q : O3[k']? with
      | none => rw [q] at f3; exact f3.elim
      | some oo =>
        rw [q] at f3
        cases oo with
        | frz _ => exact f3.elim
        | brw _ => exact f3.elim
        | lst ds =>
          obtain ⟨x, e1, j, e2, f3⟩ := toK_of f3
          cases (s3.atU a2) with
          | @o _ a ek =>
          cases a3 with
          | d a3 =>
          cases a3
          obtain ⟨vs, e4, r4⟩ := w3.at_ k' a _ ek q
          have ax := At.of w3 ((s2.trans s3).atU a1) e1
          rw [so_eq] at f3
          have S3 := (s1.trans s2).trans s3
          refine ⟨a, vs, i', j, rfl, rfl, e4, by rw [r4.length]; exact e2, ?_⟩
          have s5 : Stp α3 O3 H3 α3 (O3.set k' (.lst (ds.set j x))) (upd H3 a (.lst (vs.set j v))) := stp_set ek q rfl
          exact hd.nx _ _ f3 _ _ _ (S3.trans s5) ((R.stp S3 w3).stp s5 (own_set w3 ek q (r4.set ax j)))
    · exact f3.elim
  · cases c
theorem AtU.unb {B : Addr → Prop} {α : List Addr} {O O2 : List DO} {H : Hp} (h : ∀ b, Mu B α O2 b → Mu B α O b) {v : V} {u : U} (a : AtU G.K B α O H v u) : AtU G.K B α O2 H v u := a.later (fun _ _ z => z) fun b o m e _ => ⟨e, fun z => m (h b z)⟩
theorem ss_for (t : T1) (src : Y) {b : YS} (db : SdS G k Γ b) : SdS G k Γ (.for_ t src b) := .ofS _ (fun _ => rfl) fun X W0 S g e c => by
  unfold forS at c
  split at c
  · obtain ⟨c, c4⟩ := ba c
    obtain ⟨c, c3⟩ := ba c
    obtain ⟨c1, c2⟩ := ba c
    refine ps_imp (ps_for g.po g.calm ((sd_all src).I X W0 S g.toGood _ _ c2) (sd_tg g.toGood c1) (db.B X W0 S g _ c4) (folded_of c3)) fun D σ H ⟨B, α, ρ, O, D0, E0, R, h, hd, hl⟩ => ?_
    refine ⟨B, α, ρ, O, _, E0, R, h, fun us O1 q => ?_, hl⟩
    obtain ⟨xs, rfl, q⟩ := q
    refine ⟨xs, rfl, fun α1 H1 J s1 w1 wk => ?_⟩
    obtain ⟨Gd, Yy, wk, hwk⟩ := wk.ex
    refine for_it wk (fun i σ H => ∃ α2 ρ2 O2, Stp α1 O1 H1 α2 O2 H ∧ Rep G B α2 σ H ρ2 O2 ∧ forR t (vcS Γ b) E0 D0 O (xs.drop i) ρ2 O2) ?_ ?_ ?_ ?_
    · exact ⟨α1, ρ, O1, Stp.refl, R.stp s1 w1, q⟩
    · rintro i σ2 H2 hi ⟨α2, ρ2, O2, s2, R2, q2⟩
      exact (hwk _ _ _ _ (fun b m => by
        rcases m with m | m
        · exact .inl (.inl m)
        · rcases s2.new b m with z | z
          · exact .inl (.inr z)
          · exact .inr z) (fun b o e m n => s2.keep b o e m n) R2.own).1
    · rintro i x σ2 H2 H3 hi ⟨α2, ρ2, O2, s2, R2, q2⟩ y
      obtain ⟨d, ed, hH3, ax⟩ := (hwk _ _ _ _ (fun b m => by
        rcases m with m | m
        · exact .inl (.inl m)
        · rcases s2.new b m with z | z
          · exact .inl (.inr z)
          · exact .inr z) (fun b o e m n => s2.keep b o e m n) R2.own).2 i x H3 hi y
      have st3 : Stp α2 O2 H2 α2 O2 H3 ∧ Own G B α2 O2 H3 := by
        rcases hH3 with rfl | ⟨p, vs, hp, rfl⟩
        · exact ⟨Stp.refl, R2.own⟩
        · exact ⟨stp_new hp, own_new R2.own hp⟩
      obtain ⟨s3, w3⟩ := st3
      have hdrop : xs.drop i = d :: xs.drop (i + 1) := by
        obtain ⟨hlt, ed⟩ := List.getElem?_eq_some_iff.mp ed
        rw [← ed]
        exact List.drop_eq_getElem_cons hlt
      rw [hdrop, forR] at q2
      have S03 := s1.trans (s2.trans s3)
      refine ⟨B, α2, O2, ρ2, d, _, R2.stp s3 w3, ax, q2, fun ρ3 q3 σ3 R3 _ _ => ?_⟩
      refine ⟨B, α2, ρ3, O2, _, _, R3, q3, ⟨fun ρ' O' e α' σ' H' s' R' => ⟨α', ρ', O', (s2.trans s3).trans s', R', e⟩, fun u O' e α' v H' s' w' a' => ?_, fun ρ' O' e α' σ' H' s' R' => ?_, fun ρ' O' e α' σ' H' s' R' => ⟨α', ρ', O', (s2.trans s3).trans s', R', e⟩⟩, fun x O' e α' cls dd H' s' w' ex => ?_⟩
      · obtain ⟨z1, z2, z3⟩ := unb_ok (S03.trans s') R.own w'
        exact hd.rt _ _ e _ _ _ z1 z2 (a'.unb z3)
      · obtain ⟨z1, z2, z3⟩ := unb_ok (S03.trans s') R.own R'.own
        exact hd.nx _ _ e _ _ _ z1 ⟨fun j u e => let ⟨v, h1, h2⟩ := R'.vars j u e; ⟨v, h1, h2.unb z3⟩, z2, R'.len⟩
      · obtain ⟨z1, z2, z3⟩ := unb_ok (S03.trans s') R.own w'
        obtain ⟨h1, dx, fs, h2, h3, h4, h5, h6⟩ := ex
        exact hl _ _ e _ _ _ _ z1 z2 ⟨h1, dx, fs, h2, h3, fun m => h4 (z3 _ m), h5, h6.less z3⟩
    · rintro σ2 H2 ⟨α2, ρ2, O2, s2, R2, q2⟩
      rw [List.drop_length, forR] at q2
      obtain ⟨z1, z2, z3⟩ := unb_ok (s1.trans s2) R.own R2.own
      exact hd.nx _ _ q2 _ _ _ z1 ⟨fun j u e => let ⟨v, h1, h2⟩ := R2.vars j u e; ⟨v, h1, h2.unb z3⟩, z2, R2.len⟩
  · cases c
theorem ss_whl (c : Y) {b : YS} (db : SdS G k Γ b) : SdS G k Γ (.whl c b) := .ofS _ (fun _ => rfl) fun X W0 S g e ch => by
  unfold whlS at ch
  split at ch
  · obtain ⟨c1, c2⟩ := ba ch
    refine ps_imp (ps_while g.po ((sd_all c).T X W0 S g.toGood _ c1) (db.B X W0 S g _ c2)) fun D σ H ⟨B, α, ρ, O, D0, E0, R, ⟨W, ⟨m, h0⟩, hw⟩, hd, hl⟩ => ?_
    refine ⟨fun n σ H1 => ∃ α1 ρ1 O1, Stp α O H α1 O1 H1 ∧ Rep G B α1 σ H1 ρ1 O1 ∧ W n ρ1 O1, ⟨m, α, ρ, O, Stp.refl, R, h0⟩, ?_⟩
    rintro n σ1 H1 ⟨α1, ρ1, O1, s1, R1, w1⟩
    refine seqT R1 (hw n ρ1 O1 w1) (hl.stp s1) fun t O2 f α2 H2 s2 w2 => ?_
    cases t with
    | true =>
      rw [if_pos rfl]
      have s12 := s1.trans s2
      refine ⟨fun σ3 H3 => ∃ m', m' < n ∧ ∃ α1 ρ1 O1, Stp α O H α1 O1 H3 ∧ Rep G B α1 σ3 H3 ρ1 O1 ∧ W m' ρ1 O1, fun _ _ h => h, B, α2, ρ1, O2, _, E0, R1.stp s2 w2, f.1 rfl, ?_, hl.stp s12⟩
      exact ⟨fun ρ' O' ⟨m', hm, q⟩ α' σ' H' s R' => ⟨m', hm, α', ρ', O', s12.trans s, R', q⟩, fun u O' q α' v H' s w a => hd.rt _ _ q _ _ _ (s12.trans s) w a, fun ρ' O' q α' σ' H' s R' => hd.nx _ _ q _ _ _ (s12.trans s) R',
        fun ρ' O' ⟨m', hm, q⟩ α' σ' H' s R' => ⟨m', hm, α', ρ', O', s12.trans s, R', q⟩⟩
    | false =>
      rw [if_neg (by decide)]
      exact hd.nx _ _ (f.2 rfl) _ _ _ (s1.trans s2) (R1.stp s2 w2)
  · cases ch
theorem ss_all : ∀ z : YS, SdS G k Γ z
  | .nil => ss_nil
  | .seq a r => ss_seq (ss_all a) (ss_all r)
  | .pas => ss_pas
  | .doc => ss_doc
  | .ex _ => ss_ex
  | .set i y => ss_set i y
  | .tgt t y => ss_tgt t y
  | .par i j es => ss_par i j es
  | .par3 i j l es => ss_par3 i j l es
  | .seti o ix y => ss_seti o ix y
  | .ite _ a b => ss_ite (ss_all a) (ss_all b)
  | .for_ t src b => ss_for t src (ss_all b)
  | .whl c b => ss_whl c (ss_all b)
  | .ret _ => ss_ret
  | .ret0 => ss_ret0
  | .brk => ss_brk
  | .cnt => ss_cnt
  | .nev => ss_nev
  | .rse e _ => ss_rse e
end
end Z

set_option Elab.async false
set_option linter.all false
set_option maxRecDepth 100000
set_option maxHeartbeats 4000000
namespace Z
open PySem PySem.Spec PyProof.Rows L2
/-- the def x keeps the promise S, without a context -/
def FnT (P : Program) (w : World) (K : PySem.W.Frag) (mg : Str → Option Value) (base : Heap) (G : Gx) (k : Nat) (x : Fk) (S : ZSp) : Prop :=
  ∃ f, mg x.1 = some (.ref f) ∧ PySem.W.keepIn K (.ref f) = true ∧ FnRK P w K mg base k f x.2 (lowSp G S)
section
variable {P : Program} {w : World} {K : PySem.W.Frag} {mg : Str → Option Value} {base : Heap} {G : Gx} {j k : Nat} {x : Fk} {S T : ZSp}
theorem FnT.mono (h : FnT P w K mg base G j x S) (l : j ≤ k) : FnT P w K mg base G k x S := let ⟨f, h1, h2, h3⟩ := h; ⟨f, h1, h2, h3.mono l⟩
theorem lowSp_mono {G : Gx} {P S : ZSp} (h : ∀ us O Q E, P us O Q E → S us O Q E) {vs : List V} {H : Hp} {Q : VK} {E : XK} : lowSp G P vs H Q E → lowSp G S vs H Q E :=
  fun ⟨B, α, O, us, Q0, E0, ow, ha, p, r⟩ => ⟨B, α, O, us, Q0, E0, ow, ha, h _ _ _ _ p, r⟩
/-- a lesser promise -/
theorem FnT.weak (h : FnT P w K mg base G k x S) (l : ∀ us O Q E, T us O Q E → S us O Q E) : FnT P w K mg base G k x T :=
  let ⟨f, h1, h2, h3⟩ := h; ⟨f, h1, h2, h3.imp fun _ _ _ _ z => lowSp_mono l z⟩
end
section
variable {P : Program} {w : World} {K : PySem.W.Frag} {mg : Str → Option Value} {base : Heap} {G : Gx} {k : Nat} {x : Str} {S T : ZSp} {f : Addr} {fd : FuncData} {ps : List Str} {ds : List Value} {dvs : List V}
/-- a promise out of what a def does -/
theorem FnT.raw (h1 : mg x = some (.ref f)) (h2 : PySem.W.keepIn K (.ref f) = true) (h3 : FnOk P w K mg base (L2.CX P w) k f fd ps (lowSp G S)) (h4 : Binds K fd ps []) : FnT P w K mg base G k (x, []) S :=
  ⟨f, h1, h2, (FnRK.of h3 h4 .nil).imp fun _ _ _ _ z => by rw [List.append_nil]; exact z⟩
/-- .. with the defaults dd behind the arguments that are given -/
theorem FnT.dflt (h1 : mg x = some (.ref f)) (h2 : PySem.W.keepIn K (.ref f) = true) (h3 : FnOk P w K mg base (L2.CX P w) k f fd ps (lowSp G S)) (h4 : Binds K fd ps ds) (h5 : Vals dvs ds)
    (dd : List U) (hdd : ∀ B α O H, AtUs G.K B α O H dvs dd) (l : ∀ us O Q E, T us O Q E → S (us ++ dd) O Q E) : FnT P w K mg base G k (x, []) T :=
  ⟨f, h1, h2, (FnRK.of h3 h4 h5).imp fun vs H Q E ⟨B, α, O, us, Q0, E0, ow, ha, p, r⟩ => ⟨B, α, O, us ++ dd, Q0, E0, ow, ha.append (hdd _ _ _ _), l _ _ _ _ p, r⟩⟩
/-- .. called with keywords ks: g puts the positional values and the keywords' ones into the parameters' order -/
theorem FnT.kw {ks : List Str} {n : Nat} (h1 : mg x = some (.ref f)) (h2 : PySem.W.keepIn K (.ref f) = true) (h3 : FnOk P w K mg base (L2.CX P w) k f fd ps (lowSp G S)) (g : List Value → List Value → List Value) (gV : List V → List V → List V) (gU : List U → List U → List U) (hb : KBn K fd ps n ks g gV)
    (hU : ∀ B α O H vs us zs ws, AtUs G.K B α O H vs us → AtUs G.K B α O H zs ws → us.length = n → ws.length = ks.length → AtUs G.K B α O H (gV vs zs) (gU us ws))
    (l : ∀ us O Q E, T us O Q E → us.length = n + ks.length ∧ S (gU (us.take n) (us.drop n)) O Q E) : FnT P w K mg base G k (x, ks) T := by
  refine ⟨f, h1, h2, fun A outer s H us ws vs zs Q E hr e0 r1 r2 hl h => ?_⟩
  obtain ⟨B, α, O, uu, Q0, E0, ow, ha, p, r⟩ := h
  obtain ⟨l1, p⟩ := l _ _ _ _ p
  have lz : zs.length = ks.length := by rw [r2.length]; exact hl
  have lv : vs.length = n := by
    have := ha.length
    rw [List.length_append] at this
    omega
  have split : AtUs G.K B α O H vs (uu.take n) ∧ AtUs G.K B α O H zs (uu.drop n) := by
    have key : ∀ {vs zs : List V} {uu : List U}, AtUs G.K B α O H (vs ++ zs) uu → AtUs G.K B α O H vs (uu.take vs.length) ∧ AtUs G.K B α O H zs (uu.drop vs.length) := by
      intro vs
      induction vs with
      | nil => intro zs uu h; exact ⟨.nil, h⟩
      | cons v vs ih =>
        intro zs uu h
        cases h with
        | cons a r => exact ⟨.cons a (ih r).1, (ih r).2⟩
    rw [← lv]
    exact key ha
  have KX : K.In s.heap := e0.mod.kin.keeps fun b o e => (e0.bs b o e).1
  refine h3.run A outer s H ⟨us, ks.zip ws⟩ (g us ws) (gV vs zs) Q E hr e0 (hb.to s us ws KX (by rw [← r1.length]; exact lv) hl) (hb.rel r1 r2) ?_
  exact ⟨B, α, O, _, Q0, E0, ow, hU _ _ _ _ _ _ _ _ split.1 split.2 (by rw [List.length_take]; omega) (by rw [List.length_drop]; omega), p, r⟩
end
/-- the body does as the promise says -/
def Keeps (Γ : List (Fk × ZSp)) (z : YS) (n : Nat) (S : ZSp) : Prop := ∀ us O Q E, S us O Q E →
  vcS Γ z E ⟨fun _ O' => Q (.d .non) O', Q, fun _ _ => False, fun _ _ => False⟩ (us.map some ++ List.replicate (n - us.length) none) O
/-- .. for a def that gives data alone: its own places are left behind -/
def KeepsD (Γ : List (Fk × ZSp)) (z : YS) (n : Nat) (S : ZSp) : Prop := ∀ us O Q E, S us O Q E →
  vcS Γ z E ⟨fun _ O' => Q (.d .non) (O'.take O.length), fun u O' => ∃ x, u = .d x ∧ Q u (O'.take O.length), fun _ _ => False, fun _ _ => False⟩ (us.map some ++ List.replicate (n - us.length) none) O
theorem gt_start : ∀ {us : List U} {m i : Nat} {u : U}, gt (us.map some ++ List.replicate m none) i = some u → us[i]? = some u
  | [], 0, _, _, h => by cases h
  | [], m + 1, 0, _, h => by cases h
  | [], m + 1, i + 1, u, h => by
    have h' : gt (([] : List U).map some ++ List.replicate m none) i = some u := h
    have := gt_start h'
    simp at this
  | v :: us, m, 0, u, h => h
  | v :: us, m, i + 1, u, h => by
    have h' : gt (us.map some ++ List.replicate m none) i = some u := h
    have := gt_start h'
    simpa using this
theorem ownB_loc {sc : Scope} {x : Str} (h : ownB sc x = true) : Loc sc x := by
  unfold ownB at h
  split at h
  · exact .inl (by assumption)
  · exact .inr (by assumption)
  · cases h
/-- what is known of the program: built-ins' names free, global numbers and texts, errors, the defs that ask -/
structure Wld (P : Program) (w : World) (K : PySem.W.Frag) (mg : Str → Option Value) (base : Heap) (G : Gx) (ex : List Str) (gi : List (Str × Int)) (gs : List (Str × Str)) (xs : List XcD) (ask : Bool) : Prop where
  hK : K = G.K
  free : ∀ y ∈ bnames, mg y = none
  gi : ∀ p ∈ gi, ∃ t, mg p.1 = some (.int p.2 t)
  gs : ∀ p ∈ gs, ∃ t, mg p.1 = some (.str p.2 t)
  xs : ∀ e ∈ xs, XcF P w K mg base e
  ask : ask = true → AskE K mg ex
/-- a def with lambdas: its code object and its table -/
def LamD (K : PySem.W.Frag) (mg : Str → Option Value) (base : Heap) (G : Gx) (f : Addr) (qual : Str) : Prop := ∃ c Pt, (∀ oc od fd osl, K.lookup f = some ⟨oc, od, .func fd, osl⟩ → fd.code = .ref c) ∧ LamX.TabB base mg c Pt ∧ (Pt, qual ++ ".<locals>." ++ "<lambda>") ∈ G.T ∧ ∀ p ∈ G.T, p.1 = Pt → p.2 = qual ++ ".<locals>." ++ "<lambda>"
section
variable {P : Program} {w : World} {K : PySem.W.Frag} {mg : Str → Option Value} {base : Heap} {G : Gx} {k : Nat} {ex : List Str} {gi : List (Str × Int)} {gs : List (Str × Str)} {xs : List XcD} {ask : Bool}
theorem good_of {x qual : Str} {params : Arguments} {body : List Stmt} {scope : Scope} {N ps : List Str} {Γ : List (Fk × ZSp)} {f : Addr} {cdv : Value} {lam : Bool} (fs : FnScope N ps scope) (Wd : Wld P w K mg base G ex gi gs xs ask) (hl : lam = true → ask = true)
    (hfn : ∀ (i : Nat) (y : Fk) (Q : ZSp), Γ[i]? = some (y, Q) → FnT P w K mg base G k y Q)
    (hlam : lam = true → ∃ c Pt, cdv = .ref c ∧ LamX.TabB base mg c Pt ∧ (Pt, qual ++ ".<locals>." ++ "<lambda>") ∈ G.T ∧ ∀ p ∈ G.T, p.1 = Pt → p.2 = qual ++ ".<locals>." ++ "<lambda>")
    (A : Around) (outer : List Env) (s : Shared) (H : Hp) (E : XK) (hr : Room (k + 3) (A.deeper (envOfC qual scope s.heap.objs.size f cdv))) : GoodS (cxOf (L2.CX P w) P w K mg base N qual scope f cdv A outer s H E) G E k ⟨N, scope, scope, lam, ex, gi, gs, xs⟩ Γ where
  hN := rfl
  nd := fs.nd
  sc := rfl
  calm := rfl
  hK := Wd.hK
  takes := takes_of rfl rfl rfl rfl
  rm := by
    show Room (if lam = true then k + 3 else k) _
    split
    · exact hr
    · exact hr.mono (by omega)
  fns := fun i y Q h => hfn i y Q h
  free := Wd.free
  sto := fun x h => ⟨ownB_loc h, .inl rfl⟩
  gi := Wd.gi
  gs := Wd.gs
  xs := Wd.xs
  lam := fun z => by
    obtain ⟨c, Pt, h1, h2, h3, h4⟩ := hlam z
    exact ⟨⟨c, Pt, h2, h1, h3, h4⟩, Wd.ask (hl z), rfl⟩
  po := passes_of rfl
  fk := fs.kind
  rm2 := hr
theorem rep_start {α : List Addr} {O : List DO} {B : Addr → Prop} {H : Hp} {vs : List V} {us : List U} {N : List Str} (ow : Own G B α O H) (ha : AtUs G.K B α O H vs us) : Rep G B α (L2.start N vs) H (us.map some ++ List.replicate (N.length - us.length) none) O := by
  refine ⟨fun i u e => ?_, ow, ?_⟩
  · have e := gt_start e
    obtain ⟨v, e1, a1⟩ := ha.get e
    refine ⟨v, ?_, a1⟩
    unfold L2.start
    rw [List.getElem?_append_left (by rw [List.length_map]; exact (List.getElem?_eq_some_iff.mp e1).1), List.getElem?_map, e1]
    rfl
  · unfold L2.start
    rw [List.length_append, List.length_append, List.length_map, List.length_map, List.length_replicate, List.length_replicate, ha.length]
    exact Nat.le_refl _
section
variable {x qual : Str} {params : Arguments} {body : List Stmt} {scope : Scope} {kws : List (Str × V)} {dvs : List V} {f : Addr} {fd : FuncData} {N ps : List Str} {Γ : List (Fk × ZSp)} {z : YS} {S : ZSp} {lam : Bool}
theorem fnOk_of (F : FunD K x qual params body scope dvs kws f fd) (Wd : Wld P w K mg base G ex gi gs xs ask) (hl : lam = true → ask = true) (hlam : lam = true → LamD K mg base G f qual)
    (hS : C8.scC N ps scope = true) (hck : (ckS (Γ.map (·.1)) z ⟨N, scope, scope, lam, ex, gi, gs, xs⟩).B body = true)
    (hfn : ∀ (i : Nat) (y : Fk) (Q : ZSp), Γ[i]? = some (y, Q) → FnT P w K mg base G k y Q) (len : ∀ us O Q E, S us O Q E → us.length = ps.length) (spec : Keeps Γ z N.length S) : FnOk P w K mg base (L2.CX P w) (k + 4) f fd ps (lowSp G S) := by
  have fs := C8.fnScope_by hS
  obtain ⟨oc, od, dV, kV, doc, pm, an, cdv, ct, osl, rfl, lk, hcd, _, _⟩ := F.ex
  refine fn_of lk hcd fs (fun vs H Q E ⟨B, α, O, us, Q0, E0, ow, ha, h, hq, he⟩ => by rw [ha.length]; exact len _ _ _ _ h) fun A outer s H vs Q E hr ⟨B, α, O, us, Q0, E0, ow, ha, h, hq, he⟩ => ?_
  have good := good_of (x := x) (params := params) (body := body) (Γ := Γ) (f := f) fs Wd hl hfn (cdv := cdv) (fun z => let ⟨c, Pt, h1, h2⟩ := hlam z; ⟨c, Pt, h1 _ _ _ _ lk, h2⟩) A outer s H E hr
  exact ⟨_, (ss_all z).B _ E _ good _ hck, B, α, _, O, _, E0, rep_start ow ha, spec _ _ _ _ h, ⟨fun ρ' O' q α' σ' H' s R' => hq _ _ q _ _ _ s R'.own (.d .non), fun u O' q α' v H' s w a => hq _ _ q _ _ _ s w a, fun _ _ q => q.elim, fun _ _ q => q.elim⟩, he⟩
theorem fnOkD_of (F : FunD K x qual params body scope dvs kws f fd) (Wd : Wld P w K mg base G ex gi gs xs ask) (hl : lam = true → ask = true) (hlam : lam = true → LamD K mg base G f qual)
    (hS : C8.scC N ps scope = true) (hck : (ckS (Γ.map (·.1)) z ⟨N, scope, scope, lam, ex, gi, gs, xs⟩).B body = true)
    (hfn : ∀ (i : Nat) (y : Fk) (Q : ZSp), Γ[i]? = some (y, Q) → FnT P w K mg base G k y Q) (len : ∀ us O Q E, S us O Q E → us.length = ps.length) (spec : KeepsD Γ z N.length S) : FnOk P w K mg base (L2.CX P w) (k + 4) f fd ps (lowSp G S) := by
  have fs := C8.fnScope_by hS
  obtain ⟨oc, od, dV, kV, doc, pm, an, cdv, ct, osl, rfl, lk, hcd, _, _⟩ := F.ex
  refine fn_of lk hcd fs (fun vs H Q E ⟨B, α, O, us, Q0, E0, ow, ha, h, hq, he⟩ => by rw [ha.length]; exact len _ _ _ _ h) fun A outer s H vs Q E hr ⟨B, α, O, us, Q0, E0, ow, ha, h, hq, he⟩ => ?_
  have good := good_of (x := x) (params := params) (body := body) (Γ := Γ) (f := f) fs Wd hl hfn (cdv := cdv) (fun z => let ⟨c, Pt, h1, h2⟩ := hlam z; ⟨c, Pt, h1 _ _ _ _ lk, h2⟩) A outer s H E hr
  have cut : ∀ {x : D} {v : V} (O' : List DO), Q0 (.d x) (O'.take O.length) → ∀ α' H', Stp α O H α' O' H' → Own G B α' O' H' → AtU G.K B α' O' H' v (.d x) → Q v H' := fun {x v} O' q α' H' s w a => by
    have h1 := stp_take s ow
    have h2 := own_take w α.length
    rw [h1.2] at h2
    rw [← ow.len] at q
    cases a with
    | d a =>
      refine hq _ _ q _ _ _ h1.1 h2 (.d (a.less fun b m => ?_))
      rcases m with m | ⟨j, o, e1, e2, l⟩
      · exact .inl m
      · exact .inr ⟨j, o, s.idx e1, take_some e2, l⟩
  exact ⟨_, (ss_all z).B _ E _ good _ hck, B, α, _, O, _, E0, rep_start ow ha, spec _ _ _ _ h, ⟨fun ρ' O' q α' σ' H' s R' => cut _ q _ _ s R'.own (.d .non), fun u O' ⟨x, e, q⟩ α' v H' s w a => by
      subst e
      cases a with
      | d a => exact cut _ q _ _ s w (.d a), fun _ _ q => q.elim, fun _ _ q => q.elim⟩, he⟩
theorem fnT_of (F : FunD K x qual params body scope dvs kws f fd) (Wd : Wld P w K mg base G ex gi gs xs ask) (hl : lam = true → ask = true) (hlam : lam = true → LamD K mg base G f qual) (hm : mg x = some (.ref f)) (hb : Binds K fd ps [])
    (hS : C8.scC N ps scope = true) (hck : (ckS (Γ.map (·.1)) z ⟨N, scope, scope, lam, ex, gi, gs, xs⟩).B body = true)
    (hfn : ∀ (i : Nat) (y : Fk) (Q : ZSp), Γ[i]? = some (y, Q) → FnT P w K mg base G k y Q) (len : ∀ us O Q E, S us O Q E → us.length = ps.length) (spec : Keeps Γ z N.length S) : FnT P w K mg base G (k + 4) (x, []) S :=
  .raw hm F.kp (fnOk_of F Wd hl hlam hS hck hfn len spec) hb
theorem fnTD_of (F : FunD K x qual params body scope dvs kws f fd) (Wd : Wld P w K mg base G ex gi gs xs ask) (hl : lam = true → ask = true) (hlam : lam = true → LamD K mg base G f qual) (hm : mg x = some (.ref f)) (hb : Binds K fd ps [])
    (hS : C8.scC N ps scope = true) (hck : (ckS (Γ.map (·.1)) z ⟨N, scope, scope, lam, ex, gi, gs, xs⟩).B body = true)
    (hfn : ∀ (i : Nat) (y : Fk) (Q : ZSp), Γ[i]? = some (y, Q) → FnT P w K mg base G k y Q) (len : ∀ us O Q E, S us O Q E → us.length = ps.length) (spec : KeepsD Γ z N.length S) : FnT P w K mg base G (k + 4) (x, []) S :=
  .raw hm F.kp (fnOkD_of F Wd hl hlam hS hck hfn len spec) hb
end
end
/-- the law's own promise: one script, no places -/
def lawZ (n : Nat) : ZSp := fun us O Q _ => ∃ ns : List Int, us = [.d (.scr ns)] ∧ O = [] ∧ ns.length ≤ n ∧ ∀ O', Q (.d (.bl true)) O'
theorem lawZ_low {G : Gx} {n : Nat} {H : Hp} {a : Addr} {ns : List Int} (hT : LamX.Tabs G.T H) (hl : ns.length ≤ n) (hS : SqL G.K H a (ns.map V.int)) : lowSp G (lawZ n) [.ref a] H (fun v _ => v = .bl true) fun _ _ _ => False := by
  refine ⟨fun _ => False, [], [], [.d (.scr ns)], fun u _ => u = .d (.bl true), fun _ _ => False, ⟨rfl, List.nodup_nil, fun k a o e => by simp at e, fun _ z => z.elim, fun a _ z => z, hT⟩, .cons (.d ?_) .nil, ⟨ns, rfl, rfl, hl, fun _ => rfl⟩, fun u O' e α' v H' s w a => ?_, fun _ _ z => z.elim⟩
  · have hn : ¬ Mu (fun _ => False) [] [] a := fun m => m.elim id fun ⟨k, o, e, _⟩ => by simp at e
    rcases hS with h | h
    · exact .scr h hn
    · exact .scrK fun _ => .inr h
  · cases e
    cases a with
    | d a => cases a; rfl
end Z

set_option Elab.async false
set_option linter.all false
set_option maxRecDepth 100000
set_option maxHeartbeats 4000000
namespace Z
open PySem PySem.Spec PyProof.Rows L2
/-! ### steps of the reading, by cases -/
theorem nrm_d {O : List DO} {x : D} : nrm O (.d x) = some x := rfl
theorem toD_d {O : List DO} {x : D} : toD O (.d x) = some x := by rw [toD]
theorem nrK_d {O : List DO} {x : D} {k : D → Prop} : nrK O (.d x) k = k x := rfl
theorem toK_d {O : List DO} {x : D} {k : D → Prop} : toK O (.d x) k = k x := by unfold toK; rw [toD_d]
theorem nrK_lst {O : List DO} {i : Nat} {ds : List D} {k : D → Prop} (h : go O i = some (.lst ds)) : nrK O (.o i) k = k (.lst ds) := by simp only [nrK, nrm, h]
theorem nrK_lst0 {O : List DO} {ds : List D} {k : D → Prop} : nrK (.lst ds :: O) (.o 0) k = k (.lst ds) := rfl
theorem nrK_lst1 {O : List DO} {x : DO} {ds : List D} {k : D → Prop} : nrK (x :: .lst ds :: O) (.o 1) k = k (.lst ds) := rfl
theorem nrK_frz {O : List DO} {i : Nat} {ds : List D} {k : D → Prop} (h : go O i = some (.frz ds)) : nrK O (.o i) k = k (.lst ds) := by simp only [nrK, nrm, h]
theorem nrK_frz0 {O : List DO} {ds : List D} {k : D → Prop} : nrK (.frz ds :: O) (.o 0) k = k (.lst ds) := rfl
theorem nrK_frz1 {O : List DO} {x : DO} {ds : List D} {k : D → Prop} : nrK (x :: .frz ds :: O) (.o 1) k = k (.lst ds) := rfl
theorem nrK_brw {O : List DO} {i : Nat} {ds : List D} {k : D → Prop} (h : go O i = some (.brw ds)) : nrK O (.o i) k = k (.lst ds) := by simp only [nrK, nrm, h]
theorem nrK_brw0 {O : List DO} {ds : List D} {k : D → Prop} : nrK (.brw ds :: O) (.o 0) k = k (.lst ds) := rfl
theorem nrK_brw1 {O : List DO} {x : DO} {ds : List D} {k : D → Prop} : nrK (x :: .brw ds :: O) (.o 1) k = k (.lst ds) := rfl
theorem oneK_1 {u : U} {k : U → Prop} : oneK [u] k = k u := rfl
theorem boolK_1 {b : Bool} {k : Bool → Prop} : boolK [.d (.bl b)] k = k b := rfl
theorem nrs_nil {O : List DO} : nrs O [] = some [] := rfl
theorem nrs_d {O : List DO} {x : D} {us : List U} : nrs O (.d x :: us) = (nrs O us).map (x :: ·) := by
  rw [nrs, nrm_d]
  cases nrs O us <;> rfl
theorem toDs_nil {O : List DO} : toDs O [] = some [] := by rw [toDs]
theorem toDs_d {O : List DO} {x : D} {us : List U} : toDs O (.d x :: us) = (toDs O us).map (x :: ·) := by
  rw [toDs, toD_d]
  cases toDs O us <;> rfl
theorem nrsK_some {O : List DO} {us : List U} {ds : List D} {k : List D → Prop} (h : nrs O us = some ds) : nrsK O us k = k ds := by unfold nrsK; rw [h]
theorem tosK_some {O : List DO} {us : List U} {ds : List D} {k : List D → Prop} (h : toDs O us = some ds) : tosK O us k = k ds := by unfold tosK; rw [h]
theorem nrsK_1 {O : List DO} {x : D} {k : List D → Prop} : nrsK O [.d x] k = k [x] := rfl
theorem nrsK_2 {O : List DO} {x y : D} {k : List D → Prop} : nrsK O [.d x, .d y] k = k [x, y] := rfl
theorem nrsK_o {O : List DO} {i : Nat} {ds : List D} {k : List D → Prop} (h : nrm O (.o i) = some (.lst ds)) : nrsK O [.o i] k = k [.lst ds] := by unfold nrsK; rw [nrs, h]; rfl
theorem tosK_0 {O : List DO} {k : List D → Prop} : tosK O [] k = k [] := tosK_some toDs_nil
theorem tosK_1 {O : List DO} {x : D} {k : List D → Prop} : tosK O [.d x] k = k [x] := tosK_some (by simp [toDs_d, toDs_nil])
theorem tosK_2 {O : List DO} {x y : D} {k : List D → Prop} : tosK O [.d x, .d y] k = k [x, y] := tosK_some (by simp [toDs_d, toDs_nil])
theorem tosK_3 {O : List DO} {x y z : D} {k : List D → Prop} : tosK O [.d x, .d y, .d z] k = k [x, y, z] := tosK_some (by simp [toDs_d, toDs_nil])
theorem tosK_5 {O : List DO} {x y z a b : D} {k : List D → Prop} : tosK O [.d x, .d y, .d z, .d a, .d b] k = k [x, y, z, a, b] := tosK_some (by simp [toDs_d, toDs_nil])
theorem add_i {i j : Int} {Q : D → Prop} : binD .Add (.int i) (.int j) Q = Q (.int (i + j)) := rfl
theorem sub_i {i j : Int} {Q : D → Prop} : binD .Sub (.int i) (.int j) Q = Q (.int (i - j)) := rfl
theorem mul_i {i j : Int} {Q : D → Prop} : binD .Mult (.int i) (.int j) Q = (MulOk i j ∧ Q (.int (i * j))) := rfl
theorem div_i {i j : Int} {Q : D → Prop} : binD .FloorDiv (.int i) (.int j) Q = (DivOk j ∧ Q (.int (i.fdiv j))) := rfl
theorem mod_i {i j : Int} {Q : D → Prop} : binD .Mod (.int i) (.int j) Q = (j ≠ 0 ∧ Q (.int (i.fmod j))) := rfl
theorem pow_i {i j : Int} {Q : D → Prop} : binD .Pow (.int i) (.int j) Q = (CPow i j ∧ Q (.int (i ^ j.toNat))) := rfl
theorem eq_i {i j : Int} {Q : Bool → Prop} : cmpD .Eq (.int i) (.int j) Q = Q (decide (i = j)) := rfl
theorem ne_i {i j : Int} {Q : Bool → Prop} : cmpD .NotEq (.int i) (.int j) Q = Q (!(decide (i = j))) := rfl
theorem lt_i {i j : Int} {Q : Bool → Prop} : cmpD .Lt (.int i) (.int j) Q = Q (decide (i < j)) := rfl
theorem le_i {i j : Int} {Q : Bool → Prop} : cmpD .LtE (.int i) (.int j) Q = Q (decide (i ≤ j)) := rfl
theorem gt_i {i j : Int} {Q : Bool → Prop} : cmpD .Gt (.int i) (.int j) Q = Q (decide (i > j)) := rfl
theorem ge_i {i j : Int} {Q : Bool → Prop} : cmpD .GtE (.int i) (.int j) Q = Q (decide (i ≥ j)) := rfl
theorem len_l {ds : List D} {Q : D → Prop} : BF.op .len [.lst ds] Q = Q (.int ds.length) := rfl
theorem len_t {ds : List D} {Q : D → Prop} : BF.op .len [.tup ds] Q = Q (.int ds.length) := rfl
theorem abs_i {i : Int} {Q : D → Prop} : BF.op .abs [.int i] Q = Q (.int (i.natAbs : Nat)) := rfl
theorem int_i {i : Int} {Q : D → Prop} : BF.op .int [.int i] Q = Q (.int i) := rfl
theorem int_b {b : Bool} {Q : D → Prop} : BF.op .int [.bl b] Q = Q (.int (if b = true then 1 else 0)) := rfl
theorem list_l {ds : List D} {Q : D → Prop} : BF.op .list [.lst ds] Q = Q (.lst ds) := rfl
theorem list_t {ds : List D} {Q : D → Prop} : BF.op .list [.tup ds] Q = Q (.lst ds) := rfl
theorem tuple_l {ds : List D} {Q : D → Prop} : BF.op .tuple [.lst ds] Q = Q (.tup ds) := rfl
theorem tuple_t {ds : List D} {Q : D → Prop} : BF.op .tuple [.tup ds] Q = Q (.tup ds) := rfl
theorem ix_l {ds : List D} {i : Int} {Q : D → Prop} : ixD (.lst ds) (.int i) Q = ∃ d, atI ds i = some d ∧ Q d := rfl
theorem ix_t {ds : List D} {i : Int} {Q : D → Prop} : ixD (.tup ds) (.int i) Q = ∃ d, atI ds i = some d ∧ Q d := rfl
theorem ex_some {α : Type} {a : α} {P : α → Prop} : (∃ d, some a = some d ∧ P d) = P a := by
  refine propext ⟨?_, fun h => ⟨a, rfl, h⟩⟩
  rintro ⟨d, e, h⟩
  cases e
  exact h
theorem at_0 {α : Type} {a : α} {l : List α} : atI (a :: l) 0 = some a := by
  unfold atI ixN
  rw [if_pos (by decide), if_pos (by simp)]
  rfl
theorem at_1 {α : Type} {a b : α} {l : List α} : atI (a :: b :: l) 1 = some b := atI_nat (j := 1) rfl
theorem at_2 {α : Type} {a b c : α} {l : List α} : atI (a :: b :: c :: l) 2 = some c := atI_nat (j := 2) rfl
theorem at_3 {α : Type} {a b c d : α} {l : List α} : atI (a :: b :: c :: d :: l) 3 = some d := atI_nat (j := 3) rfl
theorem at_4 {α : Type} {a b c d e : α} {l : List α} : atI (a :: b :: c :: d :: e :: l) 4 = some e := atI_nat (j := 4) rfl
theorem ixN_nat {n j : Nat} (h : j < n) : ixN n (j : Int) = some j := by
  unfold ixN
  rw [if_pos (by omega), if_pos (by omega)]
  rfl
theorem ixN_0 {n : Nat} : ixN (n + 1) 0 = some 0 := ixN_nat (j := 0) (by omega)
theorem ixN_5 {i : Int} {a b c d e : D} (j : Nat) (h : i = j) (l : j < 5) : ixN [a, b, c, d, e].length i = some j := by rw [h]; exact ixN_nat l
theorem at_nat {α : Type} {l : List α} {j : Nat} (h : j < l.length) : atI l (j : Int) = some l[j] := atI_nat (List.getElem?_eq_getElem h)
theorem ix5_0 {α : Type} {a b c d e : α} : ixN [a, b, c, d, e].length 0 = some 0 := ixN_nat (j := 0) (by decide : 0 < 5)
theorem ix5_1 {α : Type} {a b c d e : α} : ixN [a, b, c, d, e].length 1 = some 1 := ixN_nat (j := 1) (by decide : 1 < 5)
theorem ix5_2 {α : Type} {a b c d e : α} : ixN [a, b, c, d, e].length 2 = some 2 := ixN_nat (j := 2) (by decide : 2 < 5)
theorem ix5_3 {α : Type} {a b c d e : α} : ixN [a, b, c, d, e].length 3 = some 3 := ixN_nat (j := 3) (by decide : 3 < 5)
theorem ix5_4 {α : Type} {a b c d e : α} : ixN [a, b, c, d, e].length 4 = some 4 := ixN_nat (j := 4) (by decide : 4 < 5)
theorem true_and' {p q : Prop} : ((true = true → p) ∧ (true = false → q)) = p := propext ⟨fun h => h.1 rfl, fun h => ⟨fun _ => h, fun z => by cases z⟩⟩
theorem false_and' {p q : Prop} : ((false = true → p) ∧ (false = false → q)) = q := propext ⟨fun h => h.2 rfl, fun h => ⟨fun z => (by cases z), fun _ => h⟩⟩
theorem dec_t {p : Prop} [Decidable p] {a b : Prop} (h : p) : ((decide p = true → a) ∧ (decide p = false → b)) = a := by rw [decide_eq_true h]; exact true_and'
theorem dec_f {p : Prop} [Decidable p] {a b : Prop} (h : ¬ p) : ((decide p = true → a) ∧ (decide p = false → b)) = b := by rw [decide_eq_false h]; exact false_and'
/-- two ways by a test -/
theorem way {p : Prop} [Decidable p] {a b : Prop} (h1 : p → a) (h2 : ¬ p → b) : (decide p = true → a) ∧ (decide p = false → b) := ⟨fun h => h1 (of_decide_eq_true h), fun h => h2 (of_decide_eq_false h)⟩
theorem wayN {p : Prop} [Decidable p] {a b : Prop} (h1 : ¬ p → a) (h2 : p → b) : ((!(decide p)) = true → a) ∧ ((!(decide p)) = false → b) :=
  ⟨fun h => h1 (of_decide_eq_false (by simpa using h)), fun h => h2 (by simpa using h)⟩
/-! ### calls -/
theorem lendU_d {O : List DO} : ∀ {ds : List D} {f : Bool} {j : Nat}, lendU O f (ds.map .d) j = some (ds.map .d, [], [])
  | [], _, _ => by rw [List.map_nil, lendU]
  | d :: ds, f, j => by
    have ih := @lendU_d O ds false j
    rw [List.map_cons, lendU]
    · simp only [toD_d, ih]
    · intro k z
      cases z
theorem mrg_nil {A O : List DO} : mrg [] [] A O = some (O ++ A) := by rw [mrg]
theorem shU_d {f : Nat → Nat} {d : D} : shU f (.d d) = .d d := by rw [shU]
theorem shU_o {f : Nat → Nat} {k : Nat} : shU f (.o k) = .o (f k) := by rw [shU]
/-- a call by data -/
theorem callD {P : ZSp} {O : List DO} {Q : U → List DO → Prop} {E : ZX} (ds : List D) (h : P (ds.map .d) [] (fun u O' => Q (shU (ren [] O.length) u) (O ++ O')) (fun x O' => E x ((O ++ O').take O.length))) : callZ P (ds.map .d) O Q E :=
  ⟨ds.map .d, [], [], lendU_d, List.nodup_nil, by simpa only [mrg_nil, ex_some'] using h⟩
where ex_some' : ∀ {α : Type} {a : α} {P : α → Prop}, (∃ d, some a = some d ∧ P d) = P a := ex_some
/-- .. that gives data alone -/
theorem callD0 {P : ZSp} {O : List DO} {Q : U → List DO → Prop} {E : ZX} (ds : List D) (h : ∀ F X, (∀ d, Q (.d d) O → F (.d d) []) → P (ds.map .d) [] F X) : callZ P (ds.map .d) O Q E :=
  callD ds (h _ _ fun d q => by
    show Q (shU _ (.d d)) (O ++ [])
    rw [shU_d, List.append_nil]
    exact q)
/-- the first argument is an owned list, the others are data; data comes back -/
theorem callO {P : ZSp} {O : List DO} {Q : U → List DO → Prop} {E : ZX} {k : Nat} {l : List D} (ds : List D) (e : go O k = some (.lst l)) (h : ∀ F X, (∀ d l', Q (.d d) (so O k (.lst l')) → F (.d d) [.lst l']) → P (.o 0 :: ds.map .d) [.lst l] F X) : callZ P (.o k :: ds.map .d) O Q E := by
  refine ⟨.o 0 :: ds.map .d, [k], [.lst l], ?_, by simp, h _ _ fun d l' q => ⟨so O k (.lst l'), ?_, by rw [shU_d]; exact q⟩⟩
  · rw [lendU]
    simp only [e, lendU_d]
    rfl
  · rw [mrg, mrg_nil, List.append_nil]
/-- .. and a second owned list, to be read -/
theorem callOB {P : ZSp} {O : List DO} {Q : U → List DO → Prop} {E : ZX} {k j : Nat} {l m : List D} (ds : List D) (e : go O k = some (.lst l)) (e2 : go O j = some (.lst m)) (hkj : k ≠ j) (h : ∀ F X, (∀ d l', Q (.d d) (so O k (.lst l')) → F (.d d) [.lst l', .brw m]) → P (.o 0 :: .o 1 :: ds.map .d) [.lst l, .brw m] F X) : callZ P (.o k :: .o j :: ds.map .d) O Q E := by
  refine ⟨.o 0 :: .o 1 :: ds.map .d, [k, j], [.lst l, .brw m], ?_, by simp [hkj], h _ _ fun d l' q => ⟨so O k (.lst l'), ?_, by rw [shU_d]; exact q⟩⟩
  · rw [lendU]
    simp only [e]
    rw [lendU]
    simp only [e2, lendU_d]
    rfl
  · rw [mrg, mrg, mrg_nil, List.append_nil]
/-! ### for, comprehensions -/
theorem compR_nil {tg : T1} {vt ve : List (Option U) → List DO → ZQ → Prop} {ρ0 : List (Option U)} {n : Nat} {acc : List D} {O : List DO} {Q : List D → List DO → Prop} : compR tg vt ve ρ0 n [] acc O Q = Q acc O := by rw [compR]
mutual
theorem bindT_mono : ∀ {t : T1} {d : D} {ρ : List (Option U)} {k k' : List (Option U) → Prop}, (∀ ρ, k ρ → k' ρ) → bindT t d ρ k → bindT t d ρ k'
  | .nm i, d, ρ, k, k', h, q => h _ q
  | .tp r, d, ρ, k, k', h, q => by
    cases d <;> first | exact bindTs_mono (t := r) h q | exact False.elim q
  | .nil, d, ρ, k, k', h, q => q.elim
  | .cons _ _, d, ρ, k, k', h, q => q.elim
theorem bindTs_mono : ∀ {t : T1} {ds : List D} {ρ : List (Option U)} {k k' : List (Option U) → Prop}, (∀ ρ, k ρ → k' ρ) → bindTs t ds ρ k → bindTs t ds ρ k'
  | .nil, [], ρ, k, k', h, q => h _ q
  | .nil, _ :: _, ρ, k, k', h, q => q.elim
  | .cons a r, d :: ds, ρ, k, k', h, q => by
    have q' : bindT a d ρ fun ρ1 => bindTs r ds ρ1 k := q
    exact bindT_mono (t := a) (d := d) (k' := fun ρ1 => bindTs r ds ρ1 k') (fun ρ1 z => bindTs_mono h z) q'
  | .cons a r, [], ρ, k, k', h, q => q.elim
  | .nm _, ds, ρ, k, k', h, q => q.elim
  | .tp _, ds, ρ, k, k', h, q => q.elim
end
/-- no test -/
abbrev yesV : List (Option U) → List DO → ZQ → Prop := fun _ O Q => Q [.d (.bl true)] O
section
variable {Γ : List (Fk × ZSp)} {tg : T1} {ve : List (Option U) → List DO → ZQ → Prop} {ρ0 : List (Option U)} {n : Nat} {Q : List D → List DO → Prop}
/-- a comprehension without a test, by an invariant -/
theorem compR_inv (I : Nat → List D → List DO → Prop) : ∀ (ds acc : List D) (O : List DO) (i : Nat), I i acc O →
    (∀ (j : Nat) d acc O, ds[j]? = some d → I (i + j) acc O → ∀ F : ZQ, (∀ x O2, I (i + j + 1) (acc ++ [x]) (O2.take n) → F [.d x] O2) → bindT tg d ρ0 fun ρ1 => ve ρ1 O F) → (∀ acc O, I (i + ds.length) acc O → Q acc O) →
    compR tg yesV ve ρ0 n ds acc O Q
  | [], acc, O, i, h0, hs, hq => by
    rw [compR_nil]
    exact hq _ _ h0
  | d :: ds, acc, O, i, h0, hs, hq => by
    rw [compR]
    refine bindT_mono (fun ρ1 z => ?_) (hs 0 d acc O rfl h0 (fun ws O2 => oneK ws fun w => toK O2 w fun x => compR tg yesV ve ρ0 n ds (acc ++ [x]) (O2.take n) Q) fun x O2 hx => ?_)
    · show boolK [.d (.bl true)] _
      rw [boolK_1]
      exact ⟨fun _ => z, fun h => by cases h⟩
    · rw [oneK_1, toK_d]
      refine compR_inv I ds (acc ++ [x]) (O2.take n) (i + 1) hx (fun j d' acc' O' e hi F hF => ?_) fun acc' O' hi => hq _ _ (by rw [List.length_cons, show i + (ds.length + 1) = i + 1 + ds.length by omega]; exact hi)
      refine hs (j + 1) d' acc' O' (by simpa using e) (by rw [show i + (j + 1) = i + 1 + j by omega]; exact hi) F fun x O2 hx => hF x O2 (by rw [show i + 1 + j + 1 = i + (j + 1) + 1 by omega]; exact hx)
/-- .. each item by f, the places as they are -/
theorem compR_map (f : D → D) {O : List DO} (hO : O.length ≤ n) (ds : List D) (hs : ∀ d ∈ ds, ∀ F : ZQ, F [.d (f d)] O → bindT tg d ρ0 fun ρ1 => ve ρ1 O F) (hq : Q (ds.map f) O) : compR tg yesV ve ρ0 n ds [] O Q := by
  have ht : O.take n = O := List.take_of_length_le hO
  refine compR_inv (fun i acc O' => acc = (ds.take i).map f ∧ O' = O) ds [] O 0 ⟨rfl, rfl⟩ (fun j d acc O' e ⟨h1, h2⟩ F hF => ?_) fun acc O' ⟨h1, h2⟩ => ?_
  · subst h2
    refine hs d (List.mem_of_getElem? e) F (hF _ _ ⟨?_, ht⟩)
    rw [h1, Nat.zero_add]
    obtain ⟨hj, e⟩ := List.getElem?_eq_some_iff.mp e
    rw [List.take_succ, List.getElem?_eq_getElem hj, e]
    simp
  · subst h2
    rw [h1, Nat.zero_add, List.take_length]
    exact hq
/-- .. those that pass a test alone -/
theorem compR_filter {vt : List (Option U) → List DO → ZQ → Prop} (p : D → Bool) (f : D → D) {O : List DO} (hO : O.length ≤ n) : ∀ (ds acc : List D)
    (hs : ∀ d ∈ ds, ∀ (F : ZQ) (S : List DO → Prop), (p d = true → F [.d (f d)] O) → (p d = false → S O) → bindT tg d ρ0 fun ρ1 => vt ρ1 O fun us O1 => boolK us fun b => (b = true → ve ρ1 O1 F) ∧ (b = false → S O1)) (hq : Q (acc ++ (ds.filter p).map f) O), compR tg vt ve ρ0 n ds acc O Q
  | [], acc, hs, hq => by
    rw [compR_nil]
    simpa using hq
  | d :: ds, acc, hs, hq => by
    have ht : O.take n = O := List.take_of_length_le hO
    have rest : ∀ acc, Q (acc ++ (ds.filter p).map f) O → compR tg vt ve ρ0 n ds acc O Q := fun acc hq => compR_filter p f hO ds acc (fun d h => hs d (List.mem_cons_of_mem _ h)) hq
    rw [compR]
    refine hs d List.mem_cons_self (fun ws O2 => oneK ws fun w => toK O2 w fun x => compR tg vt ve ρ0 n ds (acc ++ [x]) (O2.take n) Q) (fun O1 => compR tg vt ve ρ0 n ds acc (O1.take n) Q) (fun hp => ?_) fun hp => ?_
    · rw [oneK_1, toK_d, ht]
      refine rest _ ?_
      rw [List.filter_cons_of_pos hp] at hq
      simpa using hq
    · show compR tg vt ve ρ0 n ds acc (O.take n) Q
      rw [ht]
      refine rest _ ?_
      rw [List.filter_cons_of_neg (by simp [hp])] at hq
      exact hq
end
/-- a for by an invariant -/
theorem forR_inv {tg : T1} {body : ZS} {E : ZX} {D : ZD} {O0 : List DO} (I : Nat → List (Option U) → List DO → Prop) : ∀ (ds : List Z.D) (ρ : List (Option U)) (O : List DO) (i : Nat), I i ρ O →
    (∀ (j : Nat) d ρ O, ds[j]? = some d → I (i + j) ρ O → ∀ N : List (Option U) → List DO → Prop, (∀ ρ' O', I (i + j + 1) ρ' O' → N ρ' O') → bindT tg d ρ fun ρ1 => body (fun x O' => E x (unb O0 O')) ⟨N, fun u O' => D.rt u (unb O0 O'), fun ρ' O' => D.nx ρ' (unb O0 O'), N⟩ ρ1 O) →
    (∀ ρ O, I (i + ds.length) ρ O → D.nx ρ (unb O0 O)) → forR tg body E D O0 ds ρ O
  | [], ρ, O, i, h0, hs, hq => by
    rw [forR]
    exact hq _ _ h0
  | d :: ds, ρ, O, i, h0, hs, hq => by
    rw [forR]
    refine hs 0 d ρ O rfl h0 _ fun ρ' O' hi => ?_
    refine forR_inv I ds ρ' O' (i + 1) hi (fun j d' ρ2 O2 e h N hN => ?_) fun ρ2 O2 h => hq _ _ (by rw [List.length_cons, show i + (ds.length + 1) = i + 1 + ds.length by omega]; exact h)
    exact hs (j + 1) d' ρ2 O2 (by simpa using e) (by rw [show i + (j + 1) = i + 1 + j by omega]; exact h) N fun ρ' O' h => hN ρ' O' (by rw [show i + 1 + j + 1 = i + (j + 1) + 1 by omega]; exact h)
theorem unb_nil {O : List DO} : unb [] O = O := by rw [unb]
theorem brK_d {O : List DO} {x : D} {k : D → List DO → Prop} : brK O (.d x) k = k x O := by
  unfold brK
  show (match toD O (.d x) with
    | some x => k x O
    | none => False) = _
  rw [toD_d]
theorem unb_0 {O : List DO} : unb [] O = O := by rw [unb]
end Z

set_option Elab.async false
set_option linter.all false
set_option maxRecDepth 100000
set_option maxHeartbeats 4000000
namespace Z
open PySem PySem.Spec PyProof.Rows L2
/-! ### __init__ of an error: self.f = parameter | text, one after the other -/
def initC (sc : Scope) (ps : List Str) : List (Str × XSrc) → List Stmt → Bool
  | [], [] => true
  | (f, .arg i) :: r, .Assign [.Attribute (.Name s _) g _] (.Name y _) _ :: ss => decide (s = "self") && decide (g = f) && decide (ps[i + 1]? = some y) && oknB y && (sc.names.lookup y == some .local) && initC sc ps r ss
  | (f, .str z) :: r, .Assign [.Attribute (.Name s _) g _] (.Constant (.str y) _ _) _ :: ss => decide (s = "self") && decide (g = f) && decide (y = z) && initC sc ps r ss
  | _, _ => false
structure SelfAt (a : Addr) (ws : List V) (σ : L2.St) : Prop where
  me : σ[0]? = some (some (.ref a))
  arg : ∀ (i : Nat) (v : V), ws[i]? = some v → σ[i + 1]? = some (some v)
section
variable {X : Cx} {ps : List Str} {C : Addr}
theorem init_one (h0 : ps[0]? = some ("self" : Str)) (hN : X.N = ps) (hs : X.env.scope.names.lookup ("self" : Str) = some .local) {f : Str} {src : XSrc} {r : List (Str × XSrc)} {s : Stmt} {ss : List Stmt} (c : initC X.env.scope ps ((f, src) :: r) (s :: ss) = true) :
    initC X.env.scope ps r ss = true ∧ PS X s (fun D σ H => ∃ a ws y, SelfAt a ws σ ∧ initFs ws [(f, src)] = some [(f, y)] ∧ OexC X.K C ∧ PySem.W.findIn X.K (.ref C) f = some none ∧
      ((H a = some (exo a C none) ∧ ∀ dx, H dx = none → dx ≠ a → D.nx σ (upd (upd H dx (exd dx [(f, y)])) a (exo a C (some dx)))) ∨ ∃ dx fs, H a = some (exo a C (some dx)) ∧ H dx = some (exd dx fs) ∧ fs.length ≤ 900 ∧ D.nx σ (upd H dx (exd dx ((f, y) :: fs))))) := by
  have self : ∀ {p : Pos}, PE X (.Name "self" p) (tVar 0) := pe_var (i := 0) (by rw [hN]; exact h0) (.inl hs) (by decide) (by decide)
  unfold initC at c
  split at c
  · rename_i e1 e2
    cases e1
  · rename_i e1 e2
    cases e1
    cases e2
    obtain ⟨c, c6⟩ := ba c
    obtain ⟨c, c5⟩ := ba c
    obtain ⟨c, c4⟩ := ba c
    obtain ⟨c, c3⟩ := ba c
    obtain ⟨c1, c2⟩ := ba c
    cases of_decide_eq_true c1
    cases of_decide_eq_true c2
    rename_i i _ _ _ _ _ _ _ _ _ 
    refine ⟨c6, ?_⟩
    refine ⟨fun pins t σ H D I q => ?_⟩
    obtain ⟨a, ws, y, sa, e, T, no, q⟩ := q
    have hw : ∃ v, ws[i]? = some v ∧ v = y := by
      rw [initFs] at e
      split at e
      · rename_i v gs h1 h2
        cases e
        exact ⟨_, h1, rfl⟩
      · cases e
    obtain ⟨v, hw, rfl⟩ := hw
    exact (ps_ost (X := X) self (pe_var (i := i + 1) (by rw [hN]; exact of_decide_eq_true c3) (.inl (beq_iff_eq.mp c5)) (okn_of c4).1 (okn_of c4).2)).run pins t σ H D I ⟨v, sa.arg i v hw, .ref a, sa.me, a, C, rfl, T, no, q⟩
  · rename_i e1 e2
    cases e1
    cases e2
    obtain ⟨c, c4⟩ := ba c
    obtain ⟨c, c3⟩ := ba c
    obtain ⟨c1, c2⟩ := ba c
    cases of_decide_eq_true c1
    cases of_decide_eq_true c2
    cases of_decide_eq_true c3
    refine ⟨c4, ?_⟩
    refine ⟨fun pins t σ H D I q => ?_⟩
    obtain ⟨a, ws, y, sa, e, T, no, q⟩ := q
    cases e
    exact (ps_ost (X := X) self pe_str).run pins t σ H D I ⟨.ref a, sa.me, a, C, rfl, T, no, q⟩
  · cases c
theorem initFs_cons {ws : List V} {p : Str × XSrc} {r : List (Str × XSrc)} {gs : List (Str × V)} (h : initFs ws (p :: r) = some gs) : ∃ y rs, gs = (p.1, y) :: rs ∧ initFs ws [p] = some [(p.1, y)] ∧ initFs ws r = some rs := by
  obtain ⟨f, src⟩ := p
  cases src with
  | arg i =>
    rw [initFs] at h
    split at h
    · rename_i v fs h1 h2
      cases h
      exact ⟨v, fs, rfl, by rw [initFs, h1]; rfl, h2⟩
    · cases h
  | str z =>
    rw [initFs] at h
    split at h
    · rename_i fs h2
      cases h
      exact ⟨.str z, fs, rfl, rfl, h2⟩
    · cases h
theorem init_rest (h0 : ps[0]? = some ("self" : Str)) (hN : X.N = ps) (hs : X.env.scope.names.lookup ("self" : Str) = some .local) (T : OexC X.K C) : ∀ {r : List (Str × XSrc)} {ss : List Stmt}, (∀ p ∈ r, PySem.W.findIn X.K (.ref C) p.1 = some none) → initC X.env.scope ps r ss = true →
    PSs X ss (fun D σ H => ∃ a ws gs fs dx, a ≠ dx ∧ SelfAt a ws σ ∧ initFs ws r = some gs ∧ H a = some (exo a C (some dx)) ∧ H dx = some (exd dx fs) ∧ fs.length + r.length ≤ 900 ∧ ∀ H2, H2 a = some (exo a C (some dx)) → H2 dx = some (exd dx (gs.reverse ++ fs)) → (∀ b, b ≠ a → b ≠ dx → H2 b = H b) → D.nx σ H2)
  | [], [], _, _ => ⟨fun pins s σ H D I q => pss_nil.run pins s σ H D I (by
    obtain ⟨a, ws, gs, fs, dx, _, sa, e, h1, h2, _, q⟩ := q
    cases e
    exact q H h1 h2 fun _ _ _ => rfl)⟩
  | [], _ :: _, _, c => by cases c
  | (f, src) :: r, [], _, c => by cases src <;> cases c
  | (f, src) :: r, s :: ss, no, c => by
    obtain ⟨c2, one⟩ := init_one (C := C) h0 hN hs c
    refine ⟨fun pins t σ H D I q => (pss_cons one (init_rest h0 hN hs T (fun p hp => no p (List.mem_cons_of_mem _ hp)) c2)).run pins t σ H D I ?_⟩
    obtain ⟨a, ws, gs, fs, dx, nd, sa, e, h1, h2, hl, q⟩ := q
    obtain ⟨y, rs, rfl, e1, e2⟩ := initFs_cons e
    rw [List.length_cons] at hl
    refine ⟨a, ws, y, sa, e1, T, no _ List.mem_cons_self, .inr ⟨dx, fs, h1, h2, by omega, a, ws, rs, (f, y) :: fs, dx, nd, sa, e2, by rw [upd_ne nd]; exact h1, upd_same, by rw [List.length_cons]; omega, fun H2 g1 g2 g3 => q H2 g1 ?_ fun b n1 n2 => ?_⟩⟩
    · rw [g2, List.reverse_cons, List.append_assoc]
      rfl
    · rw [g3 b n1 n2, upd_ne n2]
end
theorem init_ok {P : Program} {w : World} {K : PySem.W.Frag} {mg : Str → Option Value} {base : Heap} {x qual : Str} {params : Arguments} {body : List Stmt} {scope : Scope} {f C : Addr} {fd : FuncData} {ps : List Str} {e : XcD} (F : FunD K x qual params body scope [] [] f fd) (hS : C8.scC ps ps scope = true)
    (h0 : ps[0]? = some ("self" : Str)) (hs : scope.names.lookup ("self" : Str) = some .local) (hps : ps.length = e.n + 1) (hC : initC scope ps e.fl body = true) (T : OexC K C) (no : ∀ p ∈ e.fl, PySem.W.findIn K (.ref C) p.1 = some none) (ne : e.fl ≠ []) (hl : e.fl.length ≤ 800) :
    FnOk P w K mg base (L2.CX P w) 1 f fd ps (initSp C e) := by
  refine F.ok (k := 0) (C8.fnScope_by hS) (fun vs H Q E ⟨a, ws, fs, e1, e2, _⟩ => by rw [e1, List.length_cons, e2, hps]) fun cdv A outer s H vs Q E hr ⟨a, ws, fs, e1, e2, e3, ha, hq⟩ => ?_
  subst e1
  have sa : SelfAt a ws (L2.start ps (.ref a :: ws)) := ⟨rfl, fun i v h => by
    unfold L2.start
    rw [List.map_cons, List.cons_append, List.getElem?_cons_succ, List.getElem?_append_left (by rw [List.length_map]; exact (List.getElem?_eq_some_iff.mp h).1), List.getElem?_map, h]
    rfl⟩
  cases q : e.fl with
  | nil => exact absurd q ne
  | cons p r =>
    obtain ⟨g, src⟩ := p
    rw [q] at e3 hC no hl
    cases body with
    | nil => cases src <;> cases hC
    | cons st ss =>
      obtain ⟨c2, one⟩ := init_one (X := cxOf (L2.CX P w) P w K mg base ps qual scope f cdv A outer s H E) (C := C) h0 rfl hs hC
      obtain ⟨y, rs, rfl, z1, z2⟩ := initFs_cons e3
      refine ⟨_, pss_cons one (init_rest (X := cxOf (L2.CX P w) P w K mg base ps qual scope f cdv A outer s H E) (C := C) h0 rfl hs T (fun p hp => no p (List.mem_cons_of_mem _ hp)) c2), a, ws, y, sa, z1, T, no _ List.mem_cons_self, .inl ⟨ha, fun dx hd nd => ?_⟩⟩
      rw [List.length_cons] at hl
      refine ⟨a, ws, rs, [(g, y)], dx, Ne.symm nd, sa, z2, upd_same, by rw [upd_ne nd, upd_same], by rw [List.length_singleton]; omega, fun H2 g1 g2 g3 => hq dx H2 hd ⟨g1, ?_, fun b n1 n2 => ?_⟩⟩
      · rw [g2, List.reverse_cons]
      · rw [g3 b n1 n2, upd_ne n1, upd_ne n2]
/-! ### what the head tells of such a class -/
def oexB (K : PySem.W.Frag) (C : Addr) : Bool := (match K.lookup C with
  | some ⟨.type t, _, .cls cd, sl⟩ => t == "type" && (match cd.mro, sl.toList with
    | .ref C' :: bm, [_, _, _, _, some (.builtin n), _] => C' == C && n == "ValueError.__new__" && !cd.hasDel && cd.hasDict && PySem.HandSPX.refsVE bm
    | _, _ => false)
  | _ => false) && decide (PySem.W.findIn K (.ref C) "__setattr__" = some (some (.builtin "object.__setattr__"))) && decide (PySem.W.subIn K (.ref C) (.type "BaseException") = some true) && decide (PySem.W.typeIn K (.ref C) = some (.type "type")) && PySem.W.keepIn K (.ref C)
theorem oexB_ok {K : PySem.W.Frag} {C : Addr} (h : oexB K C = true) : OexC K C := by
  obtain ⟨h, h5⟩ := ba h
  obtain ⟨h, h4⟩ := ba h
  obtain ⟨h, h3⟩ := ba h
  obtain ⟨h1, h2⟩ := ba h
  refine ⟨?_, of_decide_eq_true h2, of_decide_eq_true h3, of_decide_eq_true h4, h5⟩
  split at h1
  · rename_i t dd cd sl ho
    obtain ⟨ht, h1⟩ := ba h1
    cases beq_iff_eq.mp ht
    split at h1
    · rename_i C' bm k0 k1 k2 k3 n k5 hm hs
      simp only [Bool.and_eq_true, beq_iff_eq, Bool.not_eq_true'] at h1
      have y0 := h1.2
      have y1 := y0.1
      have hv := y0.2
      have e4 := y1.2
      have e3 := y1.1.2
      have e1 := y1.1.1.1
      have e2 := y1.1.1.2
      subst e1 e2
      obtain ⟨nm, bs, mro, ns, qn, hd, sn, sub, ab, col, del⟩ := cd
      dsimp only at hm hs e3 e4
      subst hm e3 e4
      obtain ⟨l⟩ := sl
      subst hs
      exact ⟨_, _, _, _, _, _, _, _, _, _, _, _, _, _, _, ho, hv⟩
    · cases h1
  · cases h1
/-- all that is asked of an error class by its name: the facts of its attributes, of its __init__ -/
def xcB (K : PySem.W.Frag) (e : XcD) : Bool := oexB K (He.ga K e.nm) && (e.fl.all fun p => decide (PySem.W.findIn K (.ref (He.ga K e.nm)) p.1 = some none)) && decide (PySem.W.findIn K (.ref (He.ga K e.nm)) "__init__" = some (some (.ref (He.ma K (He.ga K e.nm) "__init__")))) &&
  decide (PySem.W.typeIn K (.ref (He.ma K (He.ga K e.nm) "__init__")) = some (.type "function"))
theorem xcF_of {P : Program} {w : World} {K : PySem.W.Frag} {mg : Str → Option Value} {base : Heap} {x qual : Str} {params : Arguments} {body : List Stmt} {scope : Scope} {fd : FuncData} {ps : List Str} {e : XcD} (h : xcB K e = true) (hm : mg e.nm = some (.ref (He.ga K e.nm)))
    (F : FunD K x qual params body scope [] [] (He.ma K (He.ga K e.nm) "__init__") fd) (hb : Binds K fd ps []) (hS : C8.scC ps ps scope = true)
    (h0 : ps[0]? = some ("self" : Str)) (hs : scope.names.lookup ("self" : Str) = some .local) (hps : ps.length = e.n + 1) (hC : initC scope ps e.fl body = true) (ne : e.fl ≠ []) (hl : e.fl.length ≤ 800) (hn : e.n ≤ 1000) : XcF P w K mg base e := by
  obtain ⟨h, h4⟩ := ba h
  obtain ⟨h, h3⟩ := ba h
  obtain ⟨h1, h2⟩ := ba h
  have T := oexB_ok h1
  exact ⟨T, hm, ⟨_, fd, ps, of_decide_eq_true h3, of_decide_eq_true h4, init_ok F hS h0 hs hps hC T (fun p hp => of_decide_eq_true (List.all_eq_true.mp h2 p hp)) ne hl, hb⟩, hn⟩
end Z

set_option Elab.async false
set_option linter.all false
set_option maxRecDepth 100000
set_option maxHeartbeats 4000000
namespace Z
open PySem PySem.Spec PyProof.Rows L2
section
variable {P : Program} {w : World} {K : PySem.W.Frag} {mg : Str → Option Value} {base : Heap} {G : Gx} {k : Nat} {ex : List Str} {gi : List (Str × Int)} {gs : List (Str × Str)} {xs : List XcD} {ask : Bool}
variable {x qual : Str} {params : Arguments} {body : List Stmt} {scope : Scope} {kws : List (Str × V)} {dvs : List V} {f : Addr} {fd : FuncData} {N ps : List Str} {Γ : List (Fk × ZSp)} {z : YS} {S : ZSp} {lam : Bool}
/-- a def f( *r): the tuple is laid at the call; nothing is raised -/
theorem fnT_var {pv : Str} {nmax : Nat} (F : FunD K x qual params body scope [] [] f fd) (Wd : Wld P w K mg base G ex gi gs xs ask) (hm : mg x = some (.ref f)) (hz : nmax ≤ 1000) (hb : ∀ us : List Value, us.length ≤ nmax → bindArgs fd ⟨us, []⟩ = (newTuple us >>= fun t => pure [(pv, t)]))
    (hS : C8.scC N [pv] scope = true) (hck : (ckS (Γ.map (·.1)) z ⟨N, scope, scope, false, ex, gi, gs, xs⟩).B body = true)
    (hfn : ∀ (i : Nat) (y : Fk) (Q : ZSp), Γ[i]? = some (y, Q) → FnT P w K mg base G k y Q) (spec : Keeps Γ z N.length S) :
    FnT P w K mg base G (k + 4) (x, []) fun us O Q _ => ∃ ds, us = ds.map .d ∧ ds.length ≤ nmax ∧ S [.d (.tup ds)] O Q fun _ _ => False := by
  have fs := C8.fnScope_by hS
  obtain ⟨oc, od, dV, kV, doc, pm, an, cdv, ct, osl, rfl, lk, hcd, _, _⟩ := F.ex
  refine ⟨f, hm, F.kp, fun A outer s H us ws vs zs Q E hr e0 r1 r2 hl h => ?_⟩
  cases ws with
  | cons _ _ => cases hl
  | nil =>
  cases r2
  rw [List.append_nil] at h
  obtain ⟨B, α, O, uu, Q0, E0, ow, ha, ⟨ds, rfl, hn, hS0⟩, hq, he⟩ := h
  have lu : us.length = ds.length := by rw [← r1.length, ha.length, List.length_map]
  have KX : K.In s.heap := e0.mod.kin.keeps fun b o e => (e0.bs b o e).1
  have lim : s.heap.NoLimit := e0.mod.nolimit.keeps fun b o e => (e0.bs b o e).1
  obtain ⟨p, hp⟩ : ∃ p, p = s.heap.objs.size := ⟨_, rfl⟩
  have hn1 : H p = none := e0.hok.fresh (by rw [hp]; exact Nat.le_refl _)
  obtain ⟨g, hg⟩ : ∃ g, g = s.heap.push ({ cls := .type "tuple", data := .seq us.toArray } : Obj) := ⟨_, rfl⟩
  have kp : ∀ b o, s.heap.get? b = some o → g.get? b = some o := fun b o e => by rw [hg]; exact Heap.get?_push_of_some _ e
  have at_ : g.get? p = some ({ cls := .type "tuple", data := .seq us.toArray } : Obj) := by rw [hg, hp]; exact Heap.get?_push_size _ rfl
  have small : vs.length ≤ sizeLine := by rw [r1.length, lu, sizeLine_eq]; omega
  have new : ObjOk P w (upd H p (.tup vs)) g p (.tup vs) := ⟨small, us, r1, ⟨_, at_, rfl, _, rfl⟩⟩
  have le : s.heap.objs.size ≤ p := by rw [hp]; exact Nat.le_refl _
  have hok2 := e0.hok.laid kp le new
  have un : Un (frs outer) [] H (upd H p (.tup vs)) s.heap g := Un.laid kp le hn1
  have e2 : Env0 P w K mg base A outer { s with heap := g } (upd H p (.tup vs)) := by
    refine ⟨e0.frames, e0.mod, fun b o e => ⟨kp b o (e0.bs b o e).1, ?_⟩, ?_, Heap.FunFrames.of_keeps (fun b o e _ => ⟨o, kp b o e, rfl⟩) e0.funs, fun b hb2 => ?_, hok2, e0.bare⟩
    · rw [upd_ne (Nat.ne_of_lt (by rw [hp]; exact Heap.lt_size (e0.bs b o e).1))]
      exact (e0.bs b o e).2
    · have h1 := e0.bsz
      have h2 : g.objs.size = s.heap.objs.size + 1 := by rw [hg, Heap.size_push]
      show base.objs.size ≤ g.objs.size
      omega
    · obtain ⟨_, o, ho, _⟩ := e0.funs.mem hb2
      rw [upd_ne (Nat.ne_of_lt (by rw [hp]; exact Heap.lt_size ho))]
      exact e0.frf b hb2
  have hk : ∀ y ∈ [pv].zip [Value.ref p], scope.names.lookup y.1 = some .local ∨ (scope.names.lookup y.1 = some .cell ∧ ((cellsFrom (g.objs.size + 1) scope.names []).lookup y.1).isSome = true) := by
    rintro ⟨n, v⟩ hy
    exact (fs.par n (List.of_mem_zip hy).1).imp id fun q => ⟨q, PySem.W.cellsFrom_some _ _ _ (.inl q)⟩
  refine codeAny_call_function hr.depth (KX _ _ lk) rfl fs.co fs.gen rfl (PySem.W.codeRec_of KX hcd) ?_
  show wpAny _ _ (bindArgs _ ⟨us, []⟩) _ _ _
  rw [hb us (by omega)]
  refine wpAny_bind (wpAny_newTuple (wpAny_pure ?_) (by rw [lu, sizeLine_eq]; omega))
  have eg : ({ s with heap := s.heap.push ({ cls := .type "tuple", data := .seq us.toArray } : Obj) } : Shared) = { s with heap := g } := by rw [hg]
  rw [eg, ← hp]
  refine wpAny_newFunctionEnv_cells fs.kind hk fun env he1 s1 y => ?_
  subst he1
  have limg : g.NoLimit := lim.keeps kp
  refine ⟨limg.keeps y.toInCall.keep, codeAny_func ?_⟩
  have good := good_of (x := x) (params := params) (body := body) (Γ := Γ) (f := f) (cdv := cdv) (N := N) (lam := false) fs Wd (fun z => by cases z) hfn (fun z => by cases z) A outer { s with heap := g } (upd H p (.tup vs)) (fun _ _ _ => False) (hr.deeper (envOfC qual scope g.objs.size f cdv))
  have ow2 : Own G B α O (upd H p (.tup vs)) := own_new ow hn1
  have av : AtUs G.K B α O (upd H p (.tup vs)) [.ref p] [.d (.tup ds)] := by
    refine .cons (.d (At.tupNew ow hn1 ?_)) .nil
    have key : ∀ {vs : List V} {ds : List D}, AtUs G.K B α O H vs (ds.map .d) → Ats G.K (Mu B α O) H vs ds := by
      intro vs ds
      induction ds generalizing vs with
      | nil => intro h; cases h; exact .nil
      | cons d ds ih =>
        intro h
        cases h with
        | cons a r =>
          cases a with
          | d a => exact .cons a (ih r)
    exact key ha
  have rv1 : Vals [V.ref p] [Value.ref p] := .cons rfl .nil
  have I : Inv (cxOf (L2.CX P w) P w K mg base N qual scope f cdv A outer { s with heap := g } (upd H p (.tup vs)) fun _ _ _ => False) [] (L2.start N [.ref p]) (upd H p (.tup vs)) s1 := inv_start fs hr.hd e2 rfl rv1 y
  refine wpAny_mono (((ss_all z).B _ (fun _ _ _ => False) _ good _ hck).run [] s1 _ _ { nx := fun _ H' => Q .non H', rt := Q } I ⟨B, α, _, O, _, _, rep_start ow2 av, spec _ _ _ _ hS0, ⟨fun ρ' O' q α' σ' H' s R' => hq _ _ q _ _ _ ((stp_new hn1).trans s) R'.own (.d .non), fun u O' q α' v H' s w a => hq _ _ q _ _ _ ((stp_new hn1).trans s) w a, fun _ _ q => q.elim, fun _ _ q => q.elim⟩, fun _ _ z => z.elim⟩) (fun fl t hs => ?_) fun e t hs => ?_
  · cases fl with
    | ret u =>
      obtain ⟨v, σ', H', J, rv, q⟩ := hs
      exact ⟨v, H', J.os, J.bare, un.trans J.base, J.hok, rv, q⟩
    | next =>
      obtain ⟨σ', H', J, q⟩ := hs
      exact ⟨V.non, H', J.os, J.bare, un.trans J.base, J.hok, (rfl : RelV .non .none), q⟩
    | brk =>
      obtain ⟨_, _, _, q⟩ := hs
      exact False.elim q
    | cont =>
      obtain ⟨_, _, _, q⟩ := hs
      exact False.elim q
  · have no : ∀ (e' : Value) (s'' : Shared), L2.CX P w outer (upd H p (.tup vs)) { s with heap := g } (fun _ _ _ => False) e' s'' → L2.CX P w outer H s E e' s'' := fun e' s'' ⟨_, _, _, _, _, _, _, _, _, _, _, _, z⟩ => z.elim
    exact wpAny_mono hs (fun _ s'' z => no _ _ z) fun e' s'' z => no _ _ z
end
end Z

set_option Elab.async false
set_option linter.all false
set_option maxRecDepth 100000
set_option maxHeartbeats 4000000
namespace Z
open PySem PySem.Spec PyProof.Rows L2
/-! ### calls with keywords: which value goes where -/
def gsel {α : Type} (s : Nat) (us ds zs : List α) : List α := match s with
  | 0 => us
  | 1 => ds
  | _ => zs
/-- (0, i): the i-th positional value, (1, i): the i-th default, (2, i): the i-th keyword's value -/
def gix {α : Type} : List (Nat × Nat) → List α → List α → List α → List α
  | [], _, _, _ => []
  | (s, i) :: r, us, ds, zs => ((gsel s us ds zs)[i]?).toList ++ gix r us ds zs
theorem vals_at {vs : List V} {us : List Value} (h : Vals vs us) : ∀ i : Nat, Vals (vs[i]?).toList (us[i]?).toList := by
  induction h with
  | nil => intro i; exact .nil
  | cons a r ih =>
    intro i
    cases i with
    | zero => exact .cons a .nil
    | succ i => exact ih i
theorem vals_gix {vs ds zs : List V} {us its ws : List Value} (h1 : Vals vs us) (h2 : Vals ds its) (h3 : Vals zs ws) : ∀ is : List (Nat × Nat), Vals (gix is vs ds zs) (gix is us its ws)
  | [] => .nil
  | (s, i) :: r => by
    refine Vals.append ?_ (vals_gix h1 h2 h3 r)
    refine vals_at ?_ i
    match s with
    | 0 => exact h1
    | 1 => exact h2
    | s + 2 => exact h3
theorem atus_at {K : PySem.W.Frag} {B : Addr → Prop} {α : List Addr} {O : List DO} {H : Hp} {vs : List V} {us : List U} (h : AtUs K B α O H vs us) : ∀ i : Nat, AtUs K B α O H (vs[i]?).toList (us[i]?).toList := by
  intro i
  induction i generalizing vs us with
  | zero =>
    cases h with
    | nil => exact .nil
    | cons a r => exact .cons a .nil
  | succ i ih =>
    cases h with
    | nil => exact .nil
    | cons a r => exact ih r
theorem atus_gix {K : PySem.W.Frag} {B : Addr → Prop} {α : List Addr} {O : List DO} {H : Hp} {vs ds zs : List V} {us dd ws : List U} (h1 : AtUs K B α O H vs us) (h2 : AtUs K B α O H ds dd) (h3 : AtUs K B α O H zs ws) : ∀ is : List (Nat × Nat), AtUs K B α O H (gix is vs ds zs) (gix is us dd ws)
  | [] => .nil
  | (s, i) :: r => by
    refine AtUs.append ?_ (atus_gix h1 h2 h3 r)
    refine atus_at ?_ i
    match s with
    | 0 => exact h1
    | 1 => exact h2
    | s + 2 => exact h3
section
variable {P : Program} {w : World} {K : PySem.W.Frag} {mg : Str → Option Value} {base : Heap} {G : Gx} {k : Nat}
variable {x qual : Str} {params : Arguments} {body : List Stmt} {scope : Scope} {kws : List (Str × V)} {dvs : List V} {f : Addr} {fd : FuncData} {ps : List Str} {S T : ZSp}
theorem FnT.kwD {n : Nat} {ks : List Str} {dd : List U} (is : List (Nat × Nat)) (F : FunD K x qual params body scope dvs kws f fd) (h1 : mg x = some (.ref f)) (h3 : FnOk P w K mg base (L2.CX P w) k f fd ps (lowSp G S)) (hd : dvs ≠ [])
    (h : ∀ (T : Addr) (kV doc pm : Value) (an : Option Addr) (cdv ct : Value) (us its ws : List Value), us.length = n → its.length = dvs.length → ws.length = ks.length →
      ∃ k, bindArgs (PySem.W.fnOf x qual params body scope (.ref T) kV doc pm an cdv ct) ⟨us, ks.zip ws⟩ = seqItems? (.ref T) >>= k ∧ k (some its.toArray) = pure (ps.zip (gix is us its ws)))
    (hdd : ∀ B α O H, AtUs G.K B α O H dvs dd) (l : ∀ us O Q E, T us O Q E → us.length = n + ks.length ∧ S (gix is (us.take n) dd (us.drop n)) O Q E) : FnT P w K mg base G k (x, ks) T := by
  obtain ⟨its, hb⟩ := F.kbindsD n ks (fun us ds zs => gix is us ds zs) hd (fun r1 r2 r3 => vals_gix r1 r2 r3 is) h
  exact .kw h1 F.kp h3 _ _ (fun us ws => gix is us dd ws) hb (fun B α O H vs us zs ws a b _ _ => atus_gix a (hdd B α O H) b is) l
theorem FnT.dfltD (F : FunD K x qual params body scope dvs kws f fd) (h1 : mg x = some (.ref f)) (h3 : FnOk P w K mg base (L2.CX P w) k f fd ps (lowSp G S)) (n j : Nat) (hd : dvs ≠ []) (hn : n + (dvs.length - j) = ps.length)
    (h : ∀ (T : Addr) (kV doc pm : Value) (an : Option Addr) (cdv ct : Value) (us its : List Value), us.length = n → its.length = dvs.length →
      ∃ k, bindArgs (PySem.W.fnOf x qual params body scope (.ref T) kV doc pm an cdv ct) ⟨us, []⟩ = seqItems? (.ref T) >>= k ∧ k (some its.toArray) = pure (ps.zip (us ++ its.drop j)))
    {dd : List U} (hdd : ∀ B α O H, AtUs G.K B α O H (dvs.drop j) dd) (l : ∀ us O Q E, T us O Q E → S (us ++ dd) O Q E) : FnT P w K mg base G k (x, []) T := by
  obtain ⟨ds, hv, hb⟩ := F.binds1 n j hd hn h
  exact .dflt h1 F.kp h3 hb hv dd hdd l
theorem binds_var {pv : Str} {nmax : Nat} (F : FunD K x qual params body scope [] kws f fd)
    (h : ∀ (kV doc pm : Value) (an : Option Addr) (cdv ct : Value) (us : List Value), us.length ≤ nmax → bindArgs (PySem.W.fnOf x qual params body scope .none kV doc pm an cdv ct) ⟨us, []⟩ = (newTuple us >>= fun t => pure [(pv, t)])) :
    ∀ us : List Value, us.length ≤ nmax → bindArgs fd ⟨us, []⟩ = (newTuple us >>= fun t => pure [(pv, t)]) := by
  obtain ⟨oc, od, dV, kV, doc, pm, an, cdv, ct, osl, rfl, lk, hcd, hD, hK⟩ := F.ex
  rcases hD with ⟨_, rfl⟩ | ⟨e, _⟩
  · exact h kV doc pm an cdv ct
  · exact absurd rfl e
theorem binds_full (F : FunD K x qual params body scope dvs kws f fd) {n j : Nat} (hd : dvs ≠ []) (hn : n + (dvs.length - j) = ps.length) (hj : dvs.drop j = [])
    (h : ∀ (T : Addr) (kV doc pm : Value) (an : Option Addr) (cdv ct : Value) (us its : List Value), us.length = n → its.length = dvs.length → ∃ k, bindArgs (PySem.W.fnOf x qual params body scope (.ref T) kV doc pm an cdv ct) ⟨us, []⟩ = seqItems? (.ref T) >>= k ∧ k (some its.toArray) = pure (ps.zip (us ++ its.drop j))) : Binds K fd ps [] := by
  obtain ⟨ds, hv, hb⟩ := F.binds1 n j hd hn h
  rw [hj] at hv
  cases hv
  exact hb
theorem fnT_false (F : FunD K x qual params body scope dvs kws f fd) (hm : mg x = some (.ref f)) (hb : Binds K fd ps []) : FnT P w K mg base G k (x, []) fun _ _ _ _ => False :=
  .raw hm F.kp ⟨fun vs H Q E ⟨_, _, _, _, _, _, _, _, h, _⟩ => h.elim, fun _ _ _ _ _ _ _ _ _ _ _ _ _ ⟨_, _, _, _, _, _, _, _, h, _⟩ => h.elim⟩ hb
end
/-- the promises of the defs that are called -/
inductive FnTs (P : Program) (w : World) (K : PySem.W.Frag) (mg : Str → Option Value) (base : Heap) (G : Gx) (k : Nat) : List (Fk × ZSp) → Prop
  | nil : FnTs P w K mg base G k []
  | cons {x : Fk} {S : ZSp} {r : List (Fk × ZSp)} : FnT P w K mg base G k x S → FnTs P w K mg base G k r → FnTs P w K mg base G k ((x, S) :: r)
section
variable {P : Program} {w : World} {K : PySem.W.Frag} {mg : Str → Option Value} {base : Heap} {G : Gx} {k : Nat}
theorem FnTs.get : ∀ {r : List (Fk × ZSp)}, FnTs P w K mg base G k r → ∀ (i : Nat) (y : Fk) (Q : ZSp), r[i]? = some (y, Q) → FnT P w K mg base G k y Q
  | _, .nil, i, y, Q, h => by simp at h
  | _, .cons a s, 0, y, Q, h => by
    simp at h
    obtain ⟨rfl, rfl⟩ := h
    exact a
  | _, .cons a s, i + 1, y, Q, h => FnTs.get s i y Q (by simpa using h)
/-! ### lambdas: a def's table -/
/-- the defs with lambdas: their names; the tables' names -/
def tfT (K : PySem.W.Frag) (tf : List Str) : List (Addr × Str) := tf.map fun x => ((He.cT K (x, none)).2, x ++ ".<locals>." ++ "<lambda>")
def tfU (K : PySem.W.Frag) (tf : List Str) : Bool := tf.all fun a => tf.all fun b => !((He.cT K (a, none)).2 == (He.cT K (b, none)).2) || decide (a = b)
theorem lamD_of {x : Str} {params : Arguments} {body : List Stmt} {scope : Scope} {kws : List (Str × V)} {dvs : List V} {fd : FuncData} {tf : List Str} (F : FunD K x x params body scope dvs kws (He.ga K x) fd) (hx : x ∈ tf) (hG : G.T = tfT K tf) (hu : tfU K tf = true)
    (hT : ∀ p ∈ tf.map fun x => He.cT K (x, none), LamX.TabB base mg p.1 p.2) : LamD K mg base G (He.ga K x) x := by
  obtain ⟨oc, od, dV, kV, doc, pm, an, cdv, ct, osl, rfl, lk, hcd, _, _⟩ := F.ex
  obtain ⟨c, rfl⟩ := He.codeIn_ref hcd
  have hc : He.codeOf K (x, none) = c := He.codeOf_eq (p := (x, none)) lk rfl
  have hTx := hT _ (List.mem_map.mpr ⟨x, hx, rfl⟩)
  refine ⟨c, (He.cT K (x, none)).2, fun oc2 od2 fd2 osl2 e => ?_, ?_, ?_, fun p hp e => ?_⟩
  · rw [lk] at e
    injection e with e
    injection e with e1 e2 e3 e4
    injection e3 with e3
    rw [← e3]
  · have : (He.cT K (x, none)).1 = c := hc
    rw [← this]
    exact hTx
  · rw [hG]
    exact List.mem_map.mpr ⟨x, hx, rfl⟩
  · rw [hG] at hp
    obtain ⟨y, hy, rfl⟩ := List.mem_map.mp hp
    have h := List.all_eq_true.mp (List.all_eq_true.mp hu y hy) x hx
    have e' : (He.cT K (y, none)).2 = (He.cT K (x, none)).2 := e
    rw [e', beq_self_eq_true] at h
    have : y = x := of_decide_eq_true (by simpa using h)
    rw [this]
theorem tabs_start {tf : List Str} {H : Hp} (h : ∀ p ∈ tf.map fun x => He.cT K (x, none), H p.2 = some (.tbl #[])) : LamX.Tabs (tfT K tf) H := by
  intro p hp
  obtain ⟨x, hx, rfl⟩ := List.mem_map.mp hp
  exact .nil (h _ (List.mem_map.mpr ⟨x, hx, rfl⟩))
end
end Z

set_option Elab.async false
set_option linter.all false
set_option maxRecDepth 100000
set_option maxHeartbeats 4000000
namespace Z
open PySem PySem.Spec PyProof.Rows L2
/-! ### what every law of this house uses (no law's text in sight) -/
def BagOk (ds : List D) : Prop := ∃ (cs : List Int) (pos left seed cnt : Int), ds = [.lst (cs.map .int), .int pos, .int left, .int seed, .int cnt] ∧ 0 ≤ pos ∧ 0 ≤ left ∧ 0 ≤ seed ∧ seed < 2147483249
def bagZ : ZSp := fun us O Q _ => ∃ ns : List Int, us = [.d (.scr ns)] ∧ O = [] ∧ ∀ ds, BagOk ds → Q (.o 0) [.lst ds]
theorem cutL_len {β : Type} (xs : List β) (n : Nat) : (cutL xs none (some (n : Int))).length ≤ n := by
  unfold cutL
  rw [List.length_take, HT.sIx_nat, HT.sIx_none]
  omega
def drawZ : ZSp := fun us O Q _ => ∃ (ds : List D) (n : Int), us = [.o 0, .d (.int n)] ∧ O = [.lst ds] ∧ BagOk ds ∧ 1 ≤ n ∧ n < 2 ^ 200 ∧ ∀ r ds', 0 ≤ r → r < n → BagOk ds' → Q (.d (.int r)) [.lst ds']
theorem divOk_pos {n : Int} (h : 1 ≤ n) (h2 : n < 2 ^ 200) : DivOk n := ⟨by omega, by
  have : n.natAbs < 2 ^ 200 := by omega
  have := PySem.Flt.log2_lt_of (by decide) this
  omega⟩
theorem divOk_b {j : Int} {b : Nat} (h0 : j ≠ 0) (h : j.natAbs < 2 ^ b) (hb : 0 < b) (hl : b ≤ 9000) : DivOk j := ⟨h0, by have := PySem.Flt.log2_lt_of hb h; omega⟩
def fr (p q : Int) : D := .tup [.int p, .int q]
theorem isi_ii : isiB "int" ["int"] = some true := by decide +kernel
theorem isi_ib : isiB "int" ["bool"] = some false := by decide +kernel
theorem isi_tt : isiB "tuple" ["tuple"] = some true := by decide +kernel
/-- one of some -/
def pickZ : ZSp := fun us O Q _ => ∃ (ds xs : List D), ((us = [.o 0, .d (.lst xs)] ∧ O = [.lst ds]) ∨ (us = [.o 0, .o 1] ∧ O = [.lst ds, .brw xs])) ∧ BagOk ds ∧ 1 ≤ xs.length ∧ xs.length < 2 ^ 60 ∧ ∀ x ds', x ∈ xs → BagOk ds' → Q (.d x) (.lst ds' :: O.tail)
def Bd (b : Nat) (x : Int) : Prop := x.natAbs < 2 ^ b
theorem Bd.mono {a b : Nat} {x : Int} (h : Bd a x) (l : a ≤ b) : Bd b x := Nat.lt_of_lt_of_le h (Nat.pow_le_pow_right (by decide) l)
theorem Bd.mul {a b : Nat} {x y : Int} (h : Bd a x) (k : Bd b y) : Bd (a + b) (x * y) := by
  unfold Bd at *
  rw [Int.natAbs_mul, Nat.pow_add]
  by_cases hx : x.natAbs = 0
  · rw [hx, Nat.zero_mul]
    exact Nat.mul_pos (Nat.pow_pos (by decide)) (Nat.pow_pos (by decide))
  · exact Nat.mul_lt_mul'' h k
theorem Bd.add {a b : Nat} {x y : Int} (h : Bd a x) (k : Bd b y) : Bd (max a b + 1) (x + y) := by
  have h1 := h.mono (Nat.le_max_left a b)
  have k1 := k.mono (Nat.le_max_right a b)
  unfold Bd at *
  rw [Nat.pow_succ]
  have := Int.natAbs_add_le x y
  omega
theorem Bd.neg {a : Nat} {x : Int} (h : Bd a x) : Bd a (-x) := by
  unfold Bd at *
  rw [Int.natAbs_neg]
  exact h
theorem Bd.sub {a b : Nat} {x y : Int} (h : Bd a x) (k : Bd b y) : Bd (max a b + 1) (x - y) := by
  rw [Int.sub_eq_add_neg]
  exact h.add k.neg
theorem Bd.le {a : Nat} {x y : Int} (h : Bd a x) (l : y.natAbs ≤ x.natAbs) : Bd a y := Nat.lt_of_le_of_lt l h
theorem Bd.dvd {a : Nat} {x y : Int} (h : Bd a x) (l : y ∣ x) (h0 : x ≠ 0) : Bd a y := h.le (Nat.le_of_dvd (by omega) (Int.natAbs_dvd_natAbs.mpr l))
theorem Bd.ok {a b : Nat} {x y : Int} (h : Bd a x) (k : Bd b y) (l : a + b ≤ 999998) : MulOk x y := by
  refine mulOk_bits (a := a + 1) (b := b + 1) (h.mono (Nat.le_succ a)) (k.mono (Nat.le_succ b)) (by omega) (by omega) (by omega)
theorem Bd.div {a : Nat} {j : Int} (h : Bd a j) (h0 : j ≠ 0) (l : a ≤ 8999) : DivOk j := divOk_b (b := a + 1) h0 (h.mono (Nat.le_succ a)) (by omega) (by omega)
theorem Bd.lo {a : Nat} {j : Int} (h : Bd a j) (l : a ≤ 8999) : j.natAbs < 2 ^ 8999 := h.mono l
theorem Bd.ediv {a : Nat} {n : Int} (m : Int) (h : Bd a n) : Bd a (n / m) := h.le (Int.natAbs_ediv_le_natAbs n m)
def hugeZ : ZSp := fun us O Q _ => ∃ ds, us = [.o 0] ∧ O = [.lst ds] ∧ BagOk ds ∧ ∀ h ds', 0 ≤ h → h < 10 ^ 35 → BagOk ds' → Q (.d (.int h)) [.lst ds']
theorem all_l {bs : List Bool} {Q : D → Prop} (h : Q (.bl (bs.all id))) : BF.op .all [.lst (bs.map .bl)] Q := ⟨bs, rfl, h⟩
/-! ### plain data -/
inductive Pl : Nat → D → Prop
  | non {n : Nat} : Pl n .non
  | bl {n : Nat} (b : Bool) : Pl n (.bl b)
  | int {n : Nat} (i : Int) : Pl n (.int i)
  | str {n : Nat} (x : Str) (h : PyData.strOk x = true) : Pl n (.str x)
  | lst {n : Nat} {ds : List D} : ds.length ≤ 1000 → (∀ d ∈ ds, Pl n d) → Pl (n + 1) (.lst ds)
  | tup {n : Nat} {ds : List D} : ds.length ≤ 1000 → (∀ d ∈ ds, Pl n d) → Pl (n + 1) (.tup ds)
theorem pls {n : Nat} : ∀ {ds : List D}, (∀ d ∈ ds, (toP d).canLay0 = true ∧ (toP d).depth ≤ n) → PyData.canLayAll0 (toPs ds) = true ∧ PyData.depthAll (toPs ds) ≤ n
  | [], _ => ⟨by rw [toPs, PyData.canLayAll0], by rw [toPs, PyData.depthAll]; exact Nat.zero_le _⟩
  | d :: ds, h => by
    obtain ⟨h1, h2⟩ := h d List.mem_cons_self
    obtain ⟨h3, h4⟩ := pls fun e he => h e (List.mem_cons_of_mem _ he)
    exact ⟨by rw [toPs, PyData.canLayAll0, h1, h3]; rfl, by rw [toPs, PyData.depthAll]; exact Nat.max_le.mpr ⟨h2, h4⟩⟩
theorem Pl.ok {n : Nat} {d : D} (h : Pl n d) : (toP d).canLay0 = true ∧ (toP d).depth ≤ n := by
  induction h with
  | non => exact ⟨by rw [toP, PyData.canLay0], by rw [toP, PyData.depth]; exact Nat.zero_le _⟩
  | bl b => exact ⟨by rw [toP, PyData.canLay0], by rw [toP, PyData.depth]; exact Nat.zero_le _⟩
  | int i => exact ⟨by rw [toP, PyData.canLay0], by rw [toP, PyData.depth]; exact Nat.zero_le _⟩
  | str x hx => exact ⟨by rw [toP, PyData.canLay0]; exact hx, by rw [toP, PyData.depth]; exact Nat.zero_le _⟩
  | lst _ _ ih =>
    obtain ⟨h1, h2⟩ := pls ih
    exact ⟨by rw [toP, PyData.canLay0]; exact h1, by rw [toP, PyData.depth]; exact Nat.succ_le_succ h2⟩
  | tup _ _ ih =>
    obtain ⟨h1, h2⟩ := pls ih
    exact ⟨by rw [toP, PyData.canLay0]; exact h1, by rw [toP, PyData.depth]; exact Nat.succ_le_succ h2⟩
theorem Pl.shp {n : Nat} {d : D} (h : Pl n d) (hn : n ≤ 64) : Shp d := by
  obtain ⟨h1, h2⟩ := h.ok
  unfold Shp SeqAt.shaped
  rw [h1, decide_eq_true (Nat.le_trans h2 hn)]
  rfl
theorem Pl.mono {n m : Nat} {d : D} (h : Pl n d) (l : n ≤ m) : Pl m d := by
  induction h generalizing m with
  | non => exact .non
  | bl b => exact .bl b
  | int i => exact .int i
  | str x hx => exact .str x hx
  | lst hl _ ih =>
    obtain ⟨k, rfl⟩ : ∃ k, m = k + 1 := ⟨m - 1, by omega⟩
    exact .lst hl fun d hd => ih d hd (by omega)
  | tup hl _ ih =>
    obtain ⟨k, rfl⟩ : ∃ k, m = k + 1 := ⟨m - 1, by omega⟩
    exact .tup hl fun d hd => ih d hd (by omega)
def rowD (r : List Int) : D := .lst (r.map .int)
theorem pl_row {r : List Int} (h : r.length ≤ 1000) : Pl 1 (rowD r) := .lst (by rw [List.length_map]; exact h) fun d hd => by
  obtain ⟨i, _, rfl⟩ := List.mem_map.mp hd
  exact .int i
theorem pl_fr {p q : Int} : Pl 1 (fr p q) := .tup (by show 2 ≤ 1000; decide) fun d hd => by
  simp only [List.mem_cons, List.not_mem_nil, or_false] at hd
  rcases hd with rfl | rfl <;> exact .int _
/-- x != [] -/
theorem ne_nil {n : Nat} {ds : List D} {Q : Bool → Prop} (h : Pl n (.lst ds)) (hn : n ≤ 64) (q : Q (!ds.isEmpty)) : cmpD .NotEq (.lst ds) (.lst []) Q := by
  have h0 : Pl 1 (.lst []) := .lst (by show 0 ≤ 1000; decide) fun d hd => by cases hd
  refine ⟨h.shp hn, h0.shp (by decide), ?_⟩
  have e : PyData.eqv (toP (.lst ds)) (toP (.lst [])) = ds.isEmpty := by
    cases ds with
    | nil => simp [toP, toPs, PyData.eqv, PyData.eqvAll]
    | cons a b => simp [toP, toPs, PyData.eqv, PyData.eqvAll]
  show Q (!(PyData.eqv (toP (.lst ds)) (toP (.lst []))))
  rw [e]
  exact q
theorem ne_b {a b : Bool} {Q : Bool → Prop} (q : Q (!(a == b))) : cmpD .NotEq (.bl a) (.bl b) Q := by
  refine ⟨(Pl.bl (n := 0) a).shp (by decide), (Pl.bl (n := 0) b).shp (by decide), ?_⟩
  show Q (!(PyData.eqv (toP (.bl a)) (toP (.bl b))))
  rw [toP, toP, PyData.eqv]
  exact q
theorem eq_b {a b : Bool} {Q : Bool → Prop} (q : Q (a == b)) : cmpD .Eq (.bl a) (.bl b) Q := by
  refine ⟨(Pl.bl (n := 0) a).shp (by decide), (Pl.bl (n := 0) b).shp (by decide), ?_⟩
  show Q (PyData.eqv (toP (.bl a)) (toP (.bl b)))
  rw [toP, toP, PyData.eqv]
  exact q
theorem zip_self : ∀ ds : List D, List.zipWith (fun d e => D.tup [d, e]) ds ds = ds.map fun d => D.tup [d, d]
  | [] => rfl
  | d :: ds => by rw [List.zipWith_cons_cons, zip_self ds]; rfl
theorem is_nn {Q : Bool → Prop} : cmpD .Is .non .non Q = Q true := rfl
theorem is_in {i : Int} {Q : Bool → Prop} : cmpD .Is (.int i) .non Q = Q false := rfl
theorem is_bn {i : Bool} {Q : Bool → Prop} : cmpD .Is (.bl i) .non Q = Q false := rfl
/-! ### the same of the same -/
def sameZ (n : Nat) : ZSp := fun us O Q _ => ∃ x : D, us = [.d x, .d x] ∧ O = [] ∧ Pl n x ∧ Q (.d (.bl true)) []
/-! ### kinds -/
/-- a value whose kind isinstance sees -/
def Knd : D → Bool
  | .scr _ => false
  | .obj _ _ _ => false
  | _ => true
/-- a whole number, no bool -/
def isInt : D → Bool
  | .int _ => true
  | _ => false
def intZ : ZSp := fun us O Q _ => ∃ d : D, us = [.d d] ∧ O = [] ∧ Knd d = true ∧ Q (.d (.bl (isInt d))) []
theorem isi_int : isiB "int" ["int"] = some true ∧ isiB "bool" ["int"] = some true ∧ isiB "NoneType" ["int"] = some false ∧ isiB "str" ["int"] = some false ∧ isiB "tuple" ["int"] = some false ∧ isiB "list" ["int"] = some false ∧ isiB "dict" ["int"] = some false := by decide +kernel
theorem isi_bool : isiB "int" ["bool"] = some false ∧ isiB "bool" ["bool"] = some true ∧ isiB "NoneType" ["bool"] = some false ∧ isiB "str" ["bool"] = some false ∧ isiB "tuple" ["bool"] = some false ∧ isiB "list" ["bool"] = some false ∧ isiB "dict" ["bool"] = some false := by decide +kernel
theorem isi_tuple : isiB "int" ["tuple"] = some false ∧ isiB "bool" ["tuple"] = some false ∧ isiB "NoneType" ["tuple"] = some false ∧ isiB "str" ["tuple"] = some false ∧ isiB "tuple" ["tuple"] = some true ∧ isiB "list" ["tuple"] = some false ∧ isiB "dict" ["tuple"] = some false := by decide +kernel
theorem isi_tab : isiB "list" ["list", "tuple"] = some true ∧ isiB "tuple" ["list", "tuple"] = some true ∧ isiB "int" ["list", "tuple"] = some false ∧ isiB "bool" ["list", "tuple"] = some false ∧ isiB "NoneType" ["list", "tuple"] = some false ∧
    isiB "list" ["list"] = some true ∧ isiB "list" ["tuple"] = some false ∧ isiB "tuple" ["list"] = some false ∧ isiB "tuple" ["tuple"] = some true ∧ isiB "int" ["dict"] = some false ∧ isiB "bool" ["dict"] = some false ∧ isiB "int" ["bool"] = some false ∧ isiB "bool" ["bool"] = some true ∧ isiB "int" ["int"] = some true := by decide +kernel
theorem isi_str : isiB "str" ["list", "tuple"] = some false ∧ isiB "str" ["dict"] = some false ∧ isiB "str" ["bool"] = some false ∧ isiB "str" ["int"] = some false ∧ isiB "str" ["str"] = some true := by decide +kernel
theorem is_sn {i : Str} {Q : Bool → Prop} : cmpD .Is (.str i) .non Q = Q false := rfl
theorem eq_s {a b : Str} {Q : Bool → Prop} : cmpD .Eq (.str a) (.str b) Q = Q (decide (a = b)) := rfl
/-! ### statements, one at a time -/
section
variable {Γ : List (Fk × ZSp)} {E : ZX} {D : ZD} {ρ : List (Option U)} {O : List DO}
theorem vs_seq {a r : YS} : vcS Γ (.seq a r) E D ρ O = vcS Γ a E { D with nx := fun ρ' O' => vcS Γ r E D ρ' O' } ρ O := rfl
theorem vs_nil : vcS Γ .nil E D ρ O = D.nx ρ O := rfl
theorem vs_set {i : Nat} {y : Y} : vcS Γ (.set i y) E D ρ O = vc Γ y E ρ O fun us O1 => oneK us fun u => D.nx (st ρ i u) O1 := rfl
theorem vs_ex {y : Y} : vcS Γ (.ex y) E D ρ O = vc Γ y E ρ O fun us O1 => oneK us fun _ => D.nx ρ O1 := rfl
theorem vs_tgt {t : T1} {y : Y} : vcS Γ (.tgt t y) E D ρ O = vc Γ y E ρ O fun us O1 => oneK us fun u => toK O1 u fun d => bindT t d ρ fun ρ1 => D.nx ρ1 O1 := rfl
theorem vs_ite {c : Y} {a b : YS} : vcS Γ (.ite c a b) E D ρ O = vc Γ c E ρ O fun us O1 => boolK us fun t => (t = true → vcS Γ a E D ρ O1) ∧ (t = false → vcS Γ b E D ρ O1) := rfl
theorem vs_for {t : T1} {src : Y} {b : YS} : vcS Γ (.for_ t src b) E D ρ O = vc Γ src E ρ O fun us O1 => ∃ ds, us = ds.map .d ∧ forR t (vcS Γ b) E D O ds ρ O1 := rfl
theorem vs_ret {y : Y} : vcS Γ (.ret y) E D ρ O = vc Γ y E ρ O fun us O1 => oneK us fun u => D.rt u O1 := rfl
theorem vs_par {i j : Nat} {es : Y} : vcS Γ (.par i j es) E D ρ O = vc Γ es E ρ O fun us O1 => match us with
    | [u, w] => D.nx (st (st ρ i u) j w) O1
    | _ => False := rfl
end
theorem toDs_map {O : List DO} : ∀ ds : List D, toDs O (ds.map .d) = some ds
  | [] => by rw [List.map_nil, toDs_nil]
  | d :: ds => by rw [List.map_cons, toDs_d, toDs_map ds]; rfl
theorem tosK_snoc {O : List DO} {ds : List D} {x : D} {k : List D → Prop} : tosK O (ds.map .d ++ [.d x]) k = k (ds ++ [x]) := by
  have : ds.map U.d ++ [.d x] = (ds ++ [x]).map .d := by rw [List.map_append]; rfl
  rw [this]
  exact tosK_some (toDs_map _)
theorem so_same : ∀ {O : List DO} {k : Nat} {x : DO}, go O k = some x → so O k x = O
  | [], _, _, h => by cases h
  | o :: O, 0, x, h => by
    have : o = x := by simpa [go] using h
    rw [so, this]
  | o :: O, k + 1, x, h => by
    have h' : go O k = some x := h
    rw [so, so_same h']
theorem unb1_self (o : DO) : unb1 o o = o := by cases o <;> rfl
theorem unb_self : ∀ O : List DO, unb O O = O
  | [] => rfl
  | o :: O => by rw [unb, unb_self O, unb1_self]
theorem unb_brw : ∀ {O : List DO} {k : Nat} {ds : List D}, go O k = some (.lst ds) → unb O (so O k (.brw ds)) = O
  | [], _, _, h => by cases h
  | o :: O, 0, ds, h => by
    have : o = .lst ds := by simpa [go] using h
    rw [so, unb, this, unb_self]
    rfl
  | o :: O, k + 1, ds, h => by
    have h' : go O k = some (.lst ds) := h
    rw [so, unb, unb_brw h', unb1_self]
theorem brK_o {O : List DO} {j : Nat} {ds : List D} {k : D → List DO → Prop} (h : go O j = some (.lst ds)) : brK O (.o j) k = k (.lst ds) (so O j (.brw ds)) := by
  unfold brK
  simp only [h]
theorem go_snoc {O : List DO} {x y : DO} {k : Nat} (h : go O k = some x) : go (O ++ [y]) k = some x := by
  rw [go_eq] at h ⊢
  rw [List.getElem?_append_left (List.getElem?_eq_some_iff.mp h).1]
  exact h
theorem go_last {O : List DO} {y : DO} : go (O ++ [y]) O.length = some y := by
  rw [go_eq, List.getElem?_append_right (Nat.le_refl _), Nat.sub_self]
  rfl
theorem go_so {O : List DO} {k j : Nat} {x y : DO} (h : go O k = some x) (hkj : k ≠ j) : go (so O j y) k = some x := by
  rw [go_eq] at h ⊢
  rw [so_eq, List.getElem?_set_ne (Ne.symm hkj)]
  exact h
theorem go_so_self {O : List DO} {k : Nat} {x y : DO} (h : go O k = some x) : go (so O k y) k = some y := by
  rw [go_eq] at h ⊢
  rw [so_eq, List.getElem?_set_self (List.getElem?_eq_some_iff.mp h).1]
theorem go_len {O : List DO} {k : Nat} {x : DO} (h : go O k = some x) : k < O.length := by
  rw [go_eq] at h
  exact (List.getElem?_eq_some_iff.mp h).1
theorem so_len {O : List DO} {k : Nat} {x : DO} : (so O k x).length = O.length := by rw [so_eq, List.length_set]
theorem unb_go : ∀ {O0 O : List DO} {k : Nat} {ds : List D}, go O k = some (.lst ds) → go (unb O0 O) k = some (.lst ds)
  | [], _, _, _, h => by rw [unb]; exact h
  | _ :: _, [], _, _, h => by cases h
  | o :: _, x :: O, 0, ds, h => by
    have : x = .lst ds := by simpa [go] using h
    rw [unb, this]
    cases o <;> rfl
  | o :: O0, x :: O, k + 1, ds, h => by
    have h' : go O k = some (.lst ds) := h
    rw [unb]
    exact unb_go (O0 := O0) h'
theorem cut_to {β : Type} (xs : List β) {j : Nat} (h : j ≤ xs.length) : cutL xs none (some (j : Int)) = xs.take j := by
  unfold cutL
  rw [HT.sIx_nat, HT.sIx_none, Nat.min_eq_left h, List.drop_zero, Nat.sub_zero]
theorem cut_from {β : Type} (xs : List β) {j : Nat} (h : j ≤ xs.length) : cutL xs (some (j : Int)) none = xs.drop j := by
  unfold cutL
  rw [HT.sIx_nat, HT.sIx_none, Nat.min_eq_left h, List.take_of_length_le (by rw [List.length_drop]; exact Nat.le_refl _)]
/-! ### lowest terms -/
theorem low_math {n m : Int} (hm : m ≠ 0) (s : Int) (hs : s = if m > 0 then 1 else -1) : 0 < m.fdiv ((Int.gcd n m : Nat) * s) ∧ Int.gcd (n.fdiv ((Int.gcd n m : Nat) * s)) (m.fdiv ((Int.gcd n m : Nat) * s)) = 1 ∧ n.fdiv ((Int.gcd n m : Nat) * s) * m = n * m.fdiv ((Int.gcd n m : Nat) * s) := by
  have hg : 0 < Int.gcd n m := Int.gcd_pos_of_ne_zero_right n hm
  obtain ⟨a, ha⟩ : ((Int.gcd n m : Nat) : Int) ∣ n := Int.gcd_dvd_left ..
  obtain ⟨b, hb⟩ : ((Int.gcd n m : Nat) : Int) ∣ m := Int.gcd_dvd_right ..
  generalize hgg : Int.gcd n m = g at *
  have hg0 : ((g : Nat) : Int) ≠ 0 := by omega
  have hcop : Int.gcd a b = 1 := by
    have h := Int.gcd_mul_left (g : Int) a b
    rw [← ha, ← hb, hgg] at h
    have h2 : ((g : Nat) : Int).natAbs = g := by omega
    rw [h2] at h
    exact (Nat.eq_of_mul_eq_mul_left hg (by omega : g * Int.gcd a b = g * 1))
  have hb0 : b ≠ 0 := fun z => hm (by rw [hb, z, Int.mul_zero])
  by_cases hp : m > 0
  · rw [if_pos hp] at hs
    subst hs
    have e1 : n.fdiv ((g : Int) * 1) = a := by rw [Int.mul_one, ha, Int.mul_fdiv_cancel_left _ hg0]
    have e2 : m.fdiv ((g : Int) * 1) = b := by rw [Int.mul_one, hb, Int.mul_fdiv_cancel_left _ hg0]
    rw [e1, e2]
    refine ⟨?_, hcop, ?_⟩
    · rw [hb] at hp
      exact Int.pos_of_mul_pos_right hp (by omega)
    · rw [ha, hb]
      rw [Int.mul_left_comm, ← Int.mul_assoc]
  · rw [if_neg hp] at hs
    subst hs
    have e1 : n.fdiv ((g : Int) * -1) = -a := by
      have h : n = ((g : Int) * -1) * (-a) := by rw [Int.mul_neg, Int.mul_neg, Int.mul_one, Int.neg_mul, Int.neg_neg]; exact ha
      rw [h, Int.mul_fdiv_cancel_left _ (by omega)]
    have e2 : m.fdiv ((g : Int) * -1) = -b := by
      have h : m = ((g : Int) * -1) * (-b) := by rw [Int.mul_neg, Int.mul_neg, Int.mul_one, Int.neg_mul, Int.neg_neg]; exact hb
      rw [h, Int.mul_fdiv_cancel_left _ (by omega)]
    rw [e1, e2]
    refine ⟨?_, by rw [Int.neg_gcd, Int.gcd_neg]; exact hcop, ?_⟩
    · have hmn : (g : Int) * b < 0 := by rw [← hb]; omega
      have : b < 0 := by
        by_cases hbn : b < 0
        · exact hbn
        · have := Int.mul_nonneg (by omega : (0 : Int) ≤ g) (by omega : (0 : Int) ≤ b)
          omega
      omega
    · rw [ha, hb]
      rw [Int.neg_mul, Int.mul_neg, Int.mul_left_comm, ← Int.mul_assoc]

theorem gcd_le {n m : Int} (hm : m ≠ 0) : Int.gcd n m ≤ m.natAbs := Nat.le_of_dvd (by omega) (Int.gcd_dvd_natAbs_right n m)
theorem Bd.gcd {a : Nat} {n m : Int} (h : Bd a m) (h0 : m ≠ 0) : Bd a (Int.gcd n m : Nat) := h.le (by have := gcd_le (n := n) h0; omega)
theorem dvd_cop {k m n : Int} (hc : Int.gcd k m = 1) (h : k ∣ m * n) : k ∣ n := by
  have h1 := Int.natAbs_dvd_natAbs.mpr h
  rw [Int.natAbs_mul] at h1
  exact Int.natAbs_dvd_natAbs.mp (Nat.Coprime.dvd_of_dvd_mul_left (Nat.coprime_iff_gcd_eq_one.mpr hc) h1)
/-- a fraction that was brought to lowest terms is no larger -/
theorem low_bd {a : Nat} {n m p q : Int} (hm : m ≠ 0) (hq : 0 < q) (hc : Int.gcd p q = 1) (e : p * m = n * q) : q ∣ m ∧ (n ≠ 0 → p ∣ n) ∧ (n = 0 → p = 0) := by
  have h1 : q ∣ p * m := ⟨n, by rw [e, Int.mul_comm]⟩
  have h2 : q ∣ m := dvd_cop (by rw [Int.gcd_comm]; exact hc) h1
  have h3 : p ∣ n * q := ⟨m, e.symm⟩
  refine ⟨h2, fun hn => dvd_cop hc (by rw [Int.mul_comm]; exact h3), fun hn => ?_⟩
  rw [hn, Int.zero_mul] at e
  rcases Int.mul_eq_zero.mp e with h | h
  · exact h
  · exact absurd h hm
theorem low_num {a : Nat} {n m p q : Int} (hm : m ≠ 0) (hq : 0 < q) (hc : Int.gcd p q = 1) (e : p * m = n * q) (h : Bd a n) : Bd a p := by
  obtain ⟨_, h2, h3⟩ := low_bd (a := a) hm hq hc e
  by_cases hn : n = 0
  · rw [h3 hn, ← hn]; exact h
  · exact h.dvd (h2 hn) hn
theorem low_den {a : Nat} {n m p q : Int} (hm : m ≠ 0) (hq : 0 < q) (hc : Int.gcd p q = 1) (e : p * m = n * q) (h : Bd a m) : Bd a q := h.dvd (low_bd (a := a) hm hq hc e).1 hm
end Z

set_option Elab.async false
set_option linter.all false
set_option maxRecDepth 100000
set_option maxHeartbeats 0
namespace Z
open PySem PySem.Spec PyProof.Rows L2
def top (i : Nat) : Stmt := PySem.Challenge.pw_endlessnets_k03_vectors_and_matrices.main.body.getD i (.Pass ⟨0, 0, 0, 0⟩)
def xc_InvalidNumber : XcD := ⟨"InvalidNumber", 1, [("value", .arg 0), ("code", .str "InvalidNumber")]⟩
def xp_InvalidNumber : List Str := ["self", "value"]
def xc_InvalidMatrix : XcD := ⟨"InvalidMatrix", 0, [("code", .str "InvalidMatrix")]⟩
def xp_InvalidMatrix : List Str := ["self"]
def exs : List Str := ["InvalidNumber", "InvalidMatrix"]
def xcs : List XcD := [xc_InvalidNumber, xc_InvalidMatrix]
def gints : List (Str × Int) := [("HIGHEST_ORDER", 6), ("HIGHEST_POWER", 100)]
def gstrs : List (Str × Str) := []
def N_is_any_number : List Str := ["value"]
def ps_is_any_number : List Str := ["value"]
def gm_is_any_number : List Fk := []
def y_is_any_number : YS := (.seq (.ret (.and (.isi (.var 0) ["int"]) (.one (.not (.isi (.var 0) ["bool"]))))) .nil)
def N_is_number : List Str := ["value", "least", "most"]
def ps_is_number : List Str := ["value", "least", "most"]
def gm_is_number : List Fk := [("is_any_number", [])]
def y_is_number : YS := (.seq (.ret (.and (.call 0 (.cons (.var 0) .nil)) (.one (.chain .LtE .LtE (.var 1) (.var 0) (.var 2))))) .nil)
def N_is_vector : List Str := ["value", "directions", "number"]
def ps_is_vector : List Str := ["value", "directions"]
def gm_is_vector : List Fk := [("is_any_number", [])]
def y_is_vector : YS := (.seq (.ite (.or (.not (.isi (.var 0) ["tuple"])) (.one (.cmp .NotEq (.blt .len (.cons (.var 0) .nil)) (.var 1)))) (.seq (.ret (.bl false)) .nil) .nil) (.seq (.for_ (.nm 2) (.seq (.var 0)) (.seq (.ite (.not (.call 0 (.cons (.var 2) .nil))) (.seq (.ret (.bl false)) .nil) .nil) .nil)) (.seq (.ret (.bl true)) .nil)))
def N_is_matrix : List Str := ["value", "directions", "row"]
def ps_is_matrix : List Str := ["value", "directions"]
def gm_is_matrix : List Fk := [("is_vector", [])]
def y_is_matrix : YS := (.seq (.ite (.or (.not (.isi (.var 0) ["tuple"])) (.one (.cmp .NotEq (.blt .len (.cons (.var 0) .nil)) (.var 1)))) (.seq (.ret (.bl false)) .nil) .nil) (.seq (.for_ (.nm 2) (.seq (.var 0)) (.seq (.ite (.not (.call 0 (.cons (.var 2) (.cons (.var 1) .nil)))) (.seq (.ret (.bl false)) .nil) .nil) .nil)) (.seq (.ret (.bl true)) .nil)))
def N_zero : List Str := ["directions"]
def ps_zero : List Str := ["directions"]
def gm_zero : List Fk := []
def y_zero : YS := (.seq (.ret (.bin .Mult (.tup (.cons (.int 0) .nil)) (.var 0))) .nil)
def N_unit : List Str := ["directions", "at", "place"]
def ps_unit : List Str := ["directions", "at"]
def gm_unit : List Fk := []
def y_unit : YS := (.seq (.ret (.blt .tuple (.cons (.comp false [2] (.nm 2) (.rng (.var 0)) .yes (.ite (.cmp .Eq (.var 2) (.var 1)) (.int 1) (.int 0))) .nil))) .nil)
def N_identity : List Str := ["directions", "at"]
def ps_identity : List Str := ["directions"]
def gm_identity : List Fk := [("unit", [])]
def y_identity : YS := (.seq (.ret (.blt .tuple (.cons (.comp false [1] (.nm 1) (.rng (.var 0)) .yes (.call 0 (.cons (.var 0) (.cons (.var 1) .nil)))) .nil))) .nil)
def N_vector_plus : List Str := ["one", "other", "x", "y"]
def ps_vector_plus : List Str := ["one", "other"]
def gm_vector_plus : List Fk := []
def y_vector_plus : YS := (.seq (.ret (.blt .tuple (.cons (.comp false [2, 3] (.tp (.cons (.nm 2) (.cons (.nm 3) .nil))) (.zip (.var 0) (.var 1)) .yes (.bin .Add (.var 2) (.var 3))) .nil))) .nil)
def N_vector_minus : List Str := ["one", "other", "x", "y"]
def ps_vector_minus : List Str := ["one", "other"]
def gm_vector_minus : List Fk := []
def y_vector_minus : YS := (.seq (.ret (.blt .tuple (.cons (.comp false [2, 3] (.tp (.cons (.nm 2) (.cons (.nm 3) .nil))) (.zip (.var 0) (.var 1)) .yes (.bin .Sub (.var 2) (.var 3))) .nil))) .nil)
def N_vector_times : List Str := ["vector", "number", "x"]
def ps_vector_times : List Str := ["vector", "number"]
def gm_vector_times : List Fk := []
def y_vector_times : YS := (.seq (.ret (.blt .tuple (.cons (.comp false [2] (.nm 2) (.seq (.var 0)) .yes (.bin .Mult (.var 2) (.var 1))) .nil))) .nil)
def N_dot : List Str := ["one", "other", "x", "y"]
def ps_dot : List Str := ["one", "other"]
def gm_dot : List Fk := []
def y_dot : YS := (.seq (.ret (.blt .sum (.cons (.comp false [2, 3] (.tp (.cons (.nm 2) (.cons (.nm 3) .nil))) (.zip (.var 0) (.var 1)) .yes (.bin .Mult (.var 2) (.var 3))) .nil))) .nil)
def N_led : List Str := ["vector", "matrix", "at", "row"]
def ps_led : List Str := ["vector", "matrix"]
def gm_led : List Fk := [("dot", [])]
def y_led : YS := (.seq (.ret (.blt .tuple (.cons (.comp false [2] (.nm 2) (.rng (.blt .len (.cons (.ix (.var 1) (.int 0)) .nil))) .yes (.call 0 (.cons (.var 0) (.cons (.comp false [3] (.nm 3) (.seq (.var 1)) .yes (.ix (.var 3) (.var 2))) .nil)))) .nil))) .nil)
def N_matrix_times : List Str := ["one", "other", "row"]
def ps_matrix_times : List Str := ["one", "other"]
def gm_matrix_times : List Fk := [("led", [])]
def y_matrix_times : YS := (.seq (.ret (.blt .tuple (.cons (.comp false [2] (.nm 2) (.seq (.var 0)) .yes (.call 0 (.cons (.var 2) (.cons (.var 1) .nil)))) .nil))) .nil)
def N_determinant : List Str := ["matrix", "a", "b", "c", "d", "e", "f", "g", "h", "i"]
def ps_determinant : List Str := ["matrix"]
def gm_determinant : List Fk := []
def y_determinant : YS := (.seq (.ite (.cmp .Eq (.blt .len (.cons (.var 0) .nil)) (.int 1)) (.seq (.ret (.ix (.ix (.var 0) (.int 0)) (.int 0))) .nil) .nil) (.seq (.ite (.cmp .Eq (.blt .len (.cons (.var 0) .nil)) (.int 2)) (.seq (.tgt (.tp (.cons (.tp (.cons (.nm 1) (.cons (.nm 2) .nil))) (.cons (.tp (.cons (.nm 3) (.cons (.nm 4) .nil))) .nil))) (.var 0)) (.seq (.ret (.bin .Sub (.bin .Mult (.var 1) (.var 4)) (.bin .Mult (.var 2) (.var 3)))) .nil)) .nil) (.seq (.tgt (.tp (.cons (.tp (.cons (.nm 1) (.cons (.nm 2) (.cons (.nm 3) .nil)))) (.cons (.tp (.cons (.nm 4) (.cons (.nm 5) (.cons (.nm 6) .nil)))) (.cons (.tp (.cons (.nm 7) (.cons (.nm 8) (.cons (.nm 9) .nil)))) .nil)))) (.var 0)) (.seq (.ret (.bin .Add (.bin .Sub (.bin .Mult (.var 1) (.bin .Sub (.bin .Mult (.var 5) (.var 9)) (.bin .Mult (.var 6) (.var 8)))) (.bin .Mult (.var 2) (.bin .Sub (.bin .Mult (.var 4) (.var 9)) (.bin .Mult (.var 6) (.var 7))))) (.bin .Mult (.var 3) (.bin .Sub (.bin .Mult (.var 4) (.var 8)) (.bin .Mult (.var 5) (.var 7)))))) .nil))))
def N_adjugate : List Str := ["matrix", "a", "b", "c", "d", "e", "f", "g", "h", "i"]
def ps_adjugate : List Str := ["matrix"]
def gm_adjugate : List Fk := []
def y_adjugate : YS := (.seq (.ite (.cmp .Eq (.blt .len (.cons (.var 0) .nil)) (.int 1)) (.seq (.ret (.tup (.cons (.tup (.cons (.int 1) .nil)) .nil))) .nil) .nil) (.seq (.ite (.cmp .Eq (.blt .len (.cons (.var 0) .nil)) (.int 2)) (.seq (.tgt (.tp (.cons (.tp (.cons (.nm 1) (.cons (.nm 2) .nil))) (.cons (.tp (.cons (.nm 3) (.cons (.nm 4) .nil))) .nil))) (.var 0)) (.seq (.ret (.tup (.cons (.tup (.cons (.var 4) (.cons (.neg (.var 2)) .nil))) (.cons (.tup (.cons (.neg (.var 3)) (.cons (.var 1) .nil))) .nil)))) .nil)) .nil) (.seq (.tgt (.tp (.cons (.tp (.cons (.nm 1) (.cons (.nm 2) (.cons (.nm 3) .nil)))) (.cons (.tp (.cons (.nm 4) (.cons (.nm 5) (.cons (.nm 6) .nil)))) (.cons (.tp (.cons (.nm 7) (.cons (.nm 8) (.cons (.nm 9) .nil)))) .nil)))) (.var 0)) (.seq (.ret (.tup (.cons (.tup (.cons (.bin .Sub (.bin .Mult (.var 5) (.var 9)) (.bin .Mult (.var 6) (.var 8))) (.cons (.bin .Sub (.bin .Mult (.var 3) (.var 8)) (.bin .Mult (.var 2) (.var 9))) (.cons (.bin .Sub (.bin .Mult (.var 2) (.var 6)) (.bin .Mult (.var 3) (.var 5))) .nil)))) (.cons (.tup (.cons (.bin .Sub (.bin .Mult (.var 6) (.var 7)) (.bin .Mult (.var 4) (.var 9))) (.cons (.bin .Sub (.bin .Mult (.var 1) (.var 9)) (.bin .Mult (.var 3) (.var 7))) (.cons (.bin .Sub (.bin .Mult (.var 3) (.var 4)) (.bin .Mult (.var 1) (.var 6))) .nil)))) (.cons (.tup (.cons (.bin .Sub (.bin .Mult (.var 4) (.var 8)) (.bin .Mult (.var 5) (.var 7))) (.cons (.bin .Sub (.bin .Mult (.var 2) (.var 7)) (.bin .Mult (.var 1) (.var 8))) (.cons (.bin .Sub (.bin .Mult (.var 1) (.var 5)) (.bin .Mult (.var 2) (.var 4))) .nil)))) .nil))))) .nil))))
def N_is_unimodular : List Str := ["value", "directions"]
def ps_is_unimodular : List Str := ["value", "directions"]
def gm_is_unimodular : List Fk := [("determinant", []), ("is_matrix", [])]
def y_is_unimodular : YS := (.seq (.ret (.and (.call 1 (.cons (.var 0) (.cons (.var 1) .nil))) (.one (.cmp .In (.call 0 (.cons (.var 0) .nil)) (.tup (.cons (.int 1) (.cons (.neg (.int 1)) .nil))))))) .nil)
def N_is_any_unimodular : List Str := ["value"]
def ps_is_any_unimodular : List Str := ["value"]
def gm_is_any_unimodular : List Fk := [("is_unimodular", [])]
def y_is_any_unimodular : YS := (.seq (.ret (.and (.isi (.var 0) ["tuple"]) (.and (.chain .LtE .LtE (.int 1) (.blt .len (.cons (.var 0) .nil)) (.int 3)) (.one (.call 0 (.cons (.var 0) (.cons (.blt .len (.cons (.var 0) .nil)) .nil))))))) .nil)
def N_unimodular_inverse : List Str := ["matrix", "factor", "row"]
def ps_unimodular_inverse : List Str := ["matrix"]
def gm_unimodular_inverse : List Fk := [("adjugate", []), ("vector_times", []), ("determinant", []), ("is_any_unimodular", [])]
def y_unimodular_inverse : YS := (.seq (.ite (.not (.call 3 (.cons (.var 0) .nil))) (.seq (.rse xc_InvalidMatrix .nil) .nil) .nil) (.seq (.set 1 (.call 2 (.cons (.var 0) .nil))) (.seq (.ret (.blt .tuple (.cons (.comp false [2] (.nm 2) (.seq (.call 0 (.cons (.var 0) .nil))) .yes (.call 1 (.cons (.var 2) (.cons (.var 1) .nil)))) .nil))) .nil)))
def N_power : List Str := ["matrix", "times", "factor", "left", "result"]
def ps_power : List Str := ["matrix", "times"]
def gm_power : List Fk := [("matrix_times", []), ("identity", []), ("unimodular_inverse", []), ("is_number", []), ("is_any_unimodular", [])]
def y_power : YS := (.seq (.ite (.not (.call 4 (.cons (.var 0) .nil))) (.seq (.rse xc_InvalidMatrix .nil) .nil) .nil) (.seq (.ite (.not (.call 3 (.cons (.var 1) (.cons (.neg (.gint "HIGHEST_POWER" 100)) (.cons (.gint "HIGHEST_POWER" 100) .nil))))) (.seq (.rse xc_InvalidNumber (.cons (.var 1) .nil)) .nil) .nil) (.seq (.set 2 (.ite (.cmp .GtE (.var 1) (.int 0)) (.var 0) (.call 2 (.cons (.var 0) .nil)))) (.seq (.set 3 (.blt .abs (.cons (.var 1) .nil))) (.seq (.set 4 (.call 1 (.cons (.blt .len (.cons (.var 0) .nil)) .nil))) (.seq (.whl (.cmp .Gt (.var 3) (.int 0)) (.seq (.ite (.cmp .Eq (.bin .Mod (.var 3) (.int 2)) (.int 1)) (.seq (.set 4 (.call 0 (.cons (.var 4) (.cons (.var 2) .nil)))) .nil) .nil) (.seq (.set 2 (.call 0 (.cons (.var 2) (.cons (.var 2) .nil)))) (.seq (.set 3 (.bin .FloorDiv (.var 3) (.int 2))) .nil)))) (.seq (.ret (.var 4)) .nil)))))))
def N_order_of : List Str := ["matrix", "same", "present", "many"]
def ps_order_of : List Str := ["matrix"]
def gm_order_of : List Fk := [("matrix_times", []), ("identity", []), ("is_any_unimodular", [])]
def y_order_of : YS := (.seq (.ite (.not (.call 2 (.cons (.var 0) .nil))) (.seq (.rse xc_InvalidMatrix .nil) .nil) .nil) (.seq (.set 1 (.call 1 (.cons (.blt .len (.cons (.var 0) .nil)) .nil))) (.seq (.set 2 (.var 0)) (.seq (.for_ (.nm 3) (.rng2 (.int 1) (.bin .Add (.gint "HIGHEST_ORDER" 6) (.int 1))) (.seq (.ite (.cmp .Eq (.var 2) (.var 1)) (.seq (.ret (.var 3)) .nil) .nil) (.seq (.set 2 (.call 0 (.cons (.var 2) (.cons (.var 0) .nil)))) .nil))) (.seq (.ret .non) .nil)))))
def N__law_bag : List Str := ["_law_script", "_law_cells"]
def ps__law_bag : List Str := ["_law_script"]
def gm__law_bag : List Fk := []
def y__law_bag : YS := (.seq (.set 1 (.blt .list (.cons (.sl (.var 0) .nop (.sm (.int 63))) .nil))) (.seq (.ret (.lst true (.cons (.var 1) (.cons (.int 0) (.cons (.int 0) (.cons (.bin .Add (.int 12035) (.bin .Mult (.int 37) (.blt .len (.cons (.var 1) .nil)))) (.cons (.int 0) .nil))))))) .nil))
def N__law_draw : List Str := ["_law_bag_here", "_law_size", "_law_seed", "_law_cell", "_law_digit"]
def ps__law_draw : List Str := ["_law_bag_here", "_law_size"]
def gm__law_draw : List Fk := []
def y__law_draw : YS := (.seq (.seti (.var 0) (.int 4) (.bin .Add (.ix (.var 0) (.int 4)) (.int 1))) (.seq (.ite (.and (.cmp .Eq (.ix (.var 0) (.int 2)) (.int 0)) (.one (.cmp .Lt (.ix (.var 0) (.int 1)) (.blt .len (.cons (.ix (.var 0) (.int 0)) .nil))))) (.seq (.set 3 (.blt .abs (.cons (.ix (.ix (.var 0) (.int 0)) (.ix (.var 0) (.int 1))) .nil))) (.seq (.seti (.var 0) (.int 1) (.bin .Add (.ix (.var 0) (.int 1)) (.int 1))) (.seq (.ite (.cmp .GtE (.var 3) (.bin .Pow (.int 10) (.int 18))) (.seq (.seti (.var 0) (.int 2) (.var 3)) .nil) (.seq (.seti (.var 0) (.int 3) (.bin .Mod (.blt .int (.cons (.bin .Add (.bin .Add (.bin .Mult (.ix (.var 0) (.int 3)) (.int 48731)) (.bin .Mult (.bin .Mod (.blt .int (.cons (.var 3) .nil)) (.int 2147483029)) (.int 613))) (.int 29)) .nil)) (.int 2147483249))) .nil)) .nil))) .nil) (.seq (.ite (.cmp .Gt (.ix (.var 0) (.int 2)) (.int 0)) (.seq (.set 4 (.bin .Mod (.blt .int (.cons (.ix (.var 0) (.int 2)) .nil)) (.var 1))) (.seq (.seti (.var 0) (.int 2) (.bin .FloorDiv (.ix (.var 0) (.int 2)) (.var 1))) (.seq (.ret (.var 4)) .nil))) .nil) (.seq (.set 2 (.ix (.var 0) (.int 3))) (.seq (.seti (.var 0) (.int 3) (.bin .Mod (.blt .int (.cons (.bin .Add (.bin .Add (.bin .Add (.bin .Pow (.var 2) (.int 3)) (.bin .Mult (.var 2) (.int 31181))) (.bin .Mult (.ix (.var 0) (.int 4)) (.int 1299721))) (.int 60637)) .nil)) (.int 2147483249))) (.seq (.ret (.bin .Mod (.blt .int (.cons (.bin .Add (.bin .FloorDiv (.ix (.var 0) (.int 3)) (.int 71)) (.bin .Mult (.bin .Mod (.blt .int (.cons (.ix (.var 0) (.int 3)) .nil)) (.int 8111)) (.int 59))) .nil)) (.var 1))) .nil))))))
def N__law_pick : List Str := ["_law_bag_here", "_law_some"]
def ps__law_pick : List Str := ["_law_bag_here", "_law_some"]
def gm__law_pick : List Fk := [("_law_draw", [])]
def y__law_pick : YS := (.seq (.ret (.ix (.var 1) (.call 0 (.cons (.var 0) (.cons (.blt .len (.cons (.var 1) .nil)) .nil))))) .nil)
def N__law_mixed : List Str := ["_law_bag_here", "_law_some", "_law_found", "_law_item"]
def ps__law_mixed : List Str := ["_law_bag_here", "_law_some"]
def gm__law_mixed : List Fk := [("_law_draw", [])]
def y__law_mixed : YS := (.seq (.set 2 (.lst true .nil)) (.seq (.for_ (.nm 3) (.seq (.var 1)) (.seq (.ex (.ins (.var 2) (.call 0 (.cons (.var 0) (.cons (.bin .Add (.blt .len (.cons (.var 2) .nil)) (.int 1)) .nil))) (.var 3))) .nil)) (.seq (.ret (.fz (.var 2))) .nil)))
def N__law_huge : List Str := ["_law_bag_here", "_law_found"]
def ps__law_huge : List Str := ["_law_bag_here"]
def gm__law_huge : List Fk := [("_law_pick", []), ("_law_draw", [])]
def y__law_huge : YS := (.seq (.set 1 (.bin .Add (.bin .Add (.bin .Mult (.call 1 (.cons (.var 0) (.cons (.bin .Pow (.int 10) (.int 7)) .nil))) (.bin .Pow (.int 10) (.int 27))) (.bin .Mult (.call 1 (.cons (.var 0) (.cons (.bin .Pow (.int 10) (.int 7)) .nil))) (.bin .Pow (.int 10) (.int 13)))) (.call 1 (.cons (.var 0) (.cons (.bin .Pow (.int 10) (.int 7)) .nil))))) (.seq (.ret (.bin .FloorDiv (.var 1) (.call 0 (.cons (.var 0) (.cons (.lst false (.cons (.int 1) (.cons (.bin .Pow (.int 10) (.int 10)) (.cons (.bin .Pow (.int 10) (.int 20)) .nil)))) .nil))))) .nil))
def N__law_number : List Str := ["_law_bag_here", "_law_near"]
def ps__law_number : List Str := ["_law_bag_here", "_law_near"]
def gm__law_number : List Fk := [("_law_draw", []), ("_law_huge", []), ("_law_pick", [])]
def y__law_number : YS := (.seq (.ite (.cmp .Eq (.call 0 (.cons (.var 0) (.cons (.int 13) .nil))) (.int 12)) (.seq (.ret (.bin .Mult (.call 1 (.cons (.var 0) .nil)) (.call 2 (.cons (.var 0) (.cons (.lst false (.cons (.int 1) (.cons (.neg (.int 1)) .nil))) .nil))))) .nil) .nil) (.seq (.ret (.bin .Sub (.call 0 (.cons (.var 0) (.cons (.bin .Add (.bin .Mult (.int 2) (.var 1)) (.int 1)) .nil))) (.var 1))) .nil))
def N__law_vector : List Str := ["_law_bag_here", "_law_wide", "_law_near", "_law_k"]
def ps__law_vector : List Str := ["_law_bag_here", "_law_wide", "_law_near"]
def gm__law_vector : List Fk := [("_law_number", [])]
def y__law_vector : YS := (.seq (.ret (.blt .tuple (.cons (.comp false [3] (.nm 3) (.rng (.var 1)) .yes (.call 0 (.cons (.var 0) (.cons (.var 2) .nil)))) .nil))) .nil)
def N__law_int : List Str := ["_law_x"]
def ps__law_int : List Str := ["_law_x"]
def gm__law_int : List Fk := []
def y__law_int : YS := (.seq (.ret (.and (.isi (.var 0) ["int"]) (.one (.not (.isi (.var 0) ["bool"]))))) .nil)
def N__law_is_vector : List Str := ["_law_x", "_law_wide", "_law_n"]
def ps__law_is_vector : List Str := ["_law_x", "_law_wide"]
def gm__law_is_vector : List Fk := [("_law_int", [])]
def y__law_is_vector : YS := (.seq (.ret (.and (.isi (.var 0) ["tuple"]) (.and (.cmp .Eq (.blt .len (.cons (.var 0) .nil)) (.var 1)) (.one (.blt .all (.cons (.comp false [2] (.nm 2) (.seq (.var 0)) .yes (.call 0 (.cons (.var 2) .nil))) .nil)))))) .nil)
def N__law_is_matrix : List Str := ["_law_x", "_law_wide", "_law_row"]
def ps__law_is_matrix : List Str := ["_law_x", "_law_wide"]
def gm__law_is_matrix : List Fk := [("_law_is_vector", [])]
def y__law_is_matrix : YS := (.seq (.ret (.and (.isi (.var 0) ["tuple"]) (.and (.cmp .Eq (.blt .len (.cons (.var 0) .nil)) (.var 1)) (.one (.blt .all (.cons (.comp false [2] (.nm 2) (.seq (.var 0)) .yes (.call 0 (.cons (.var 2) (.cons (.var 1) .nil)))) .nil)))))) .nil)
def N__law_is_unimodular : List Str := ["_law_x"]
def ps__law_is_unimodular : List Str := ["_law_x"]
def gm__law_is_unimodular : List Fk := [("_law_det", []), ("_law_is_matrix", [])]
def y__law_is_unimodular : YS := (.seq (.ite (.or (.not (.isi (.var 0) ["tuple"])) (.or (.not (.chain .LtE .LtE (.int 1) (.blt .len (.cons (.var 0) .nil)) (.int 3))) (.one (.not (.call 1 (.cons (.var 0) (.cons (.blt .len (.cons (.var 0) .nil)) .nil))))))) (.seq (.ret (.bl false)) .nil) .nil) (.seq (.ret (.cmp .In (.call 0 (.cons (.var 0) .nil)) (.tup (.cons (.int 1) (.cons (.neg (.int 1)) .nil))))) .nil))
def N__law_same : List Str := ["_law_found", "_law_due", "_law_x", "_law_y"]
def ps__law_same : List Str := ["_law_found", "_law_due"]
def gm__law_same : List Fk := [("_law_same", [])]
def y__law_same : YS := (.seq (.ite (.isi (.var 1) ["list", "tuple"]) (.seq (.ite (.or (.cmp .NotEq (.isi (.var 0) ["list"]) (.isi (.var 1) ["list"])) (.one (.cmp .NotEq (.isi (.var 0) ["tuple"]) (.isi (.var 1) ["tuple"])))) (.seq (.ret (.bl false)) .nil) .nil) (.seq (.ret (.and (.cmp .Eq (.blt .len (.cons (.var 0) .nil)) (.blt .len (.cons (.var 1) .nil))) (.one (.blt .all (.cons (.comp false [2, 3] (.tp (.cons (.nm 2) (.cons (.nm 3) .nil))) (.zip (.var 0) (.var 1)) .yes (.call 0 (.cons (.var 2) (.cons (.var 3) .nil)))) .nil))))) .nil)) .nil) (.seq (.ite (.or (.cmp .Is (.var 1) .non) (.one (.cmp .Is (.var 0) .non))) (.seq (.ret (.and (.cmp .Is (.var 1) .non) (.one (.cmp .Is (.var 0) .non)))) .nil) .nil) (.seq (.ite (.isi (.var 1) ["dict"]) (.seq (.ret (.and (.isi (.var 0) ["dict"]) (.one (.call 0 (.cons (.comp false [2] (.nm 2) (.seq (.var 0)) .yes (.lst false (.cons (.var 2) (.cons (.ix (.var 0) (.var 2)) .nil)))) (.cons (.comp false [2] (.nm 2) (.seq (.var 1)) .yes (.lst false (.cons (.var 2) (.cons (.ix (.var 1) (.var 2)) .nil)))) .nil)))))) .nil) .nil) (.seq (.ite (.or (.isi (.var 1) ["bool"]) (.one (.isi (.var 0) ["bool"]))) (.seq (.ret (.and (.isi (.var 1) ["bool"]) (.and (.isi (.var 0) ["bool"]) (.one (.cmp .Eq (.var 0) (.var 1)))))) .nil) .nil) (.seq (.ite (.isi (.var 1) ["int"]) (.seq (.ret (.and (.isi (.var 0) ["int"]) (.one (.cmp .Eq (.var 0) (.var 1))))) .nil) .nil) (.seq (.ret (.and (.isi (.var 1) ["str"]) (.and (.isi (.var 0) ["str"]) (.one (.cmp .Eq (.var 0) (.var 1)))))) .nil))))))
def N__law_odd : List Str := ["_law_bag_here", "_law_near", "_law_menu"]
def ps__law_odd : List Str := ["_law_bag_here"]
def gm__law_odd : List Fk := [("_law_pick", []), ("_law_draw", [])]
def y__law_odd : YS := (.seq (.set 1 (.bin .Sub (.call 1 (.cons (.var 0) (.cons (.int 5) .nil))) (.int 1))) (.seq (.set 2 (.lst false (.cons .non (.cons (.bl true) (.cons (.bl false) (.cons (.str "") (.cons (.str "a") (.cons (.str "A") (.cons (.int 2) (.cons (.var 1) (.cons (.tup .nil) (.cons (.lst false .nil) (.cons .dic0 (.cons (.tup (.cons (.var 1) .nil)) (.cons (.lst false (.cons (.var 1) (.cons (.var 1) .nil))) (.cons (.tup (.cons (.var 1) (.cons (.bl true) .nil))) (.cons (.tup (.cons (.str "a") (.cons (.tup (.cons (.var 1) .nil)) .nil))) (.cons (.dic1 "a" (.lst false (.cons (.int 1) (.cons (.tup (.cons (.bl true) (.cons .non .nil))) .nil)))) (.cons (.lst false (.cons (.lst false (.cons (.str "a") (.cons (.str "b") (.cons (.tup (.cons (.int 0) .nil)) .nil)))) .nil)) (.cons (.str "3") (.cons (.tup (.cons (.tup (.cons (.int 1) (.cons (.int 0) .nil))) (.cons (.tup (.cons (.int 0) (.cons (.int 1) .nil))) .nil))) (.cons (.bin .Pow (.int 10) (.int 39)) .nil)))))))))))))))))))))) (.seq (.ret (.call 0 (.cons (.var 0) (.cons (.var 2) .nil)))) .nil)))
def N__law_lead : List Str := ["_law_x", "_law_rows", "_law_j", "_law_k"]
def ps__law_lead : List Str := ["_law_x", "_law_rows"]
def gm__law_lead : List Fk := []
def y__law_lead : YS := (.seq (.ret (.blt .tuple (.cons (.comp false [2] (.nm 2) (.rng (.blt .len (.cons (.var 0) .nil))) .yes (.blt .sum (.cons (.comp false [3] (.nm 3) (.rng (.blt .len (.cons (.var 0) .nil))) .yes (.bin .Mult (.ix (.var 0) (.var 3)) (.ix (.ix (.var 1) (.var 3)) (.var 2)))) .nil))) .nil))) .nil)
def N__law_mul : List Str := ["_law_rows", "_law_more", "_law_row"]
def ps__law_mul : List Str := ["_law_rows", "_law_more"]
def gm__law_mul : List Fk := [("_law_lead", [])]
def y__law_mul : YS := (.seq (.ret (.blt .tuple (.cons (.comp false [2] (.nm 2) (.seq (.var 0)) .yes (.call 0 (.cons (.var 2) (.cons (.var 1) .nil)))) .nil))) .nil)
def N__law_one : List Str := ["_law_wide", "_law_k", "_law_j"]
def ps__law_one : List Str := ["_law_wide"]
def gm__law_one : List Fk := []
def y__law_one : YS := (.seq (.ret (.blt .tuple (.cons (.comp false [1] (.nm 1) (.rng (.var 0)) .yes (.blt .tuple (.cons (.comp false [2] (.nm 2) (.rng (.var 0)) .yes (.blt .int (.cons (.cmp .Eq (.var 1) (.var 2)) .nil))) .nil))) .nil))) .nil)
def N__law_det : List Str := ["_law_m", "_law_j"]
def ps__law_det : List Str := ["_law_m"]
def gm__law_det : List Fk := []
def y__law_det : YS := (.seq (.ite (.cmp .Eq (.blt .len (.cons (.var 0) .nil)) (.int 1)) (.seq (.ret (.ix (.ix (.var 0) (.int 0)) (.int 0))) .nil) .nil) (.seq (.ite (.cmp .Eq (.blt .len (.cons (.var 0) .nil)) (.int 2)) (.seq (.ret (.bin .Sub (.bin .Mult (.ix (.ix (.var 0) (.int 0)) (.int 0)) (.ix (.ix (.var 0) (.int 1)) (.int 1))) (.bin .Mult (.ix (.ix (.var 0) (.int 0)) (.int 1)) (.ix (.ix (.var 0) (.int 1)) (.int 0))))) .nil) .nil) (.seq (.ret (.blt .sum (.cons (.comp false [1] (.nm 1) (.rng (.int 3)) .yes (.bin .Mult (.ix (.ix (.var 0) (.int 0)) (.var 1)) (.bin .Sub (.bin .Mult (.ix (.ix (.var 0) (.int 1)) (.bin .Mod (.blt .int (.cons (.bin .Add (.var 1) (.int 1)) .nil)) (.int 3))) (.ix (.ix (.var 0) (.int 2)) (.bin .Mod (.blt .int (.cons (.bin .Add (.var 1) (.int 2)) .nil)) (.int 3)))) (.bin .Mult (.ix (.ix (.var 0) (.int 1)) (.bin .Mod (.blt .int (.cons (.bin .Add (.var 1) (.int 2)) .nil)) (.int 3))) (.ix (.ix (.var 0) (.int 2)) (.bin .Mod (.blt .int (.cons (.bin .Add (.var 1) (.int 1)) .nil)) (.int 3))))))) .nil))) .nil)))
def N__law_minor : List Str := ["_law_m", "_law_j", "_law_k", "_law_a", "_law_b", "_law_c", "_law_d"]
def ps__law_minor : List Str := ["_law_m", "_law_j", "_law_k"]
def gm__law_minor : List Fk := []
def y__law_minor : YS := (.seq (.tgt (.tp (.cons (.nm 3) (.cons (.nm 4) (.cons (.nm 5) (.cons (.nm 6) .nil))))) (.tup (.cons (.bin .Mod (.blt .int (.cons (.bin .Add (.var 1) (.int 1)) .nil)) (.int 3)) (.cons (.bin .Mod (.blt .int (.cons (.bin .Add (.var 1) (.int 2)) .nil)) (.int 3)) (.cons (.bin .Mod (.blt .int (.cons (.bin .Add (.var 2) (.int 1)) .nil)) (.int 3)) (.cons (.bin .Mod (.blt .int (.cons (.bin .Add (.var 2) (.int 2)) .nil)) (.int 3)) .nil)))))) (.seq (.ret (.bin .Sub (.bin .Mult (.ix (.ix (.var 0) (.var 3)) (.var 5)) (.ix (.ix (.var 0) (.var 4)) (.var 6))) (.bin .Mult (.ix (.ix (.var 0) (.var 3)) (.var 6)) (.ix (.ix (.var 0) (.var 4)) (.var 5))))) .nil))
def N__law_undo : List Str := ["_law_m", "_law_det_here", "_law_j", "_law_k"]
def ps__law_undo : List Str := ["_law_m"]
def gm__law_undo : List Fk := [("_law_minor", []), ("_law_det", [])]
def y__law_undo : YS := (.seq (.set 1 (.call 1 (.cons (.var 0) .nil))) (.seq (.ite (.cmp .Eq (.blt .len (.cons (.var 0) .nil)) (.int 1)) (.seq (.ret (.var 0)) .nil) .nil) (.seq (.ite (.cmp .Eq (.blt .len (.cons (.var 0) .nil)) (.int 2)) (.seq (.ret (.tup (.cons (.tup (.cons (.bin .Mult (.var 1) (.ix (.ix (.var 0) (.int 1)) (.int 1))) (.cons (.bin .Mult (.neg (.var 1)) (.ix (.ix (.var 0) (.int 0)) (.int 1))) .nil))) (.cons (.tup (.cons (.bin .Mult (.neg (.var 1)) (.ix (.ix (.var 0) (.int 1)) (.int 0))) (.cons (.bin .Mult (.var 1) (.ix (.ix (.var 0) (.int 0)) (.int 0))) .nil))) .nil)))) .nil) .nil) (.seq (.ret (.blt .tuple (.cons (.comp false [2] (.nm 2) (.rng (.int 3)) .yes (.blt .tuple (.cons (.comp false [3] (.nm 3) (.rng (.int 3)) .yes (.bin .Mult (.var 1) (.call 0 (.cons (.var 0) (.cons (.var 3) (.cons (.var 2) .nil)))))) .nil))) .nil))) .nil))))
def N__law_unimodular : List Str := ["_law_bag_here", "_law_wide", "_law_rows", "_law_k", "_law_row", "_law_to", "_law_plus_of", "_law_from_row", "_law_worth", "_law_x", "_law_y"]
def ps__law_unimodular : List Str := ["_law_bag_here", "_law_wide"]
def gm__law_unimodular : List Fk := [("_law_draw", []), ("_law_mixed", []), ("_law_one", [])]
def y__law_unimodular : YS := (.seq (.set 2 (.comp true [4] (.nm 4) (.seq (.call 1 (.cons (.var 0) (.cons (.blt .list (.cons (.call 2 (.cons (.var 1) .nil)) .nil)) .nil)))) .yes (.comp false [9] (.nm 9) (.seq (.var 4)) .yes (.bin .Mult (.var 9) (.bin .Sub (.int 1) (.bin .Mult (.int 2) (.call 0 (.cons (.var 0) (.cons (.int 2) .nil))))))))) (.seq (.for_ (.nm 3) (.rng (.ite (.cmp .Gt (.var 1) (.int 1)) (.call 0 (.cons (.var 0) (.cons (.int 4) .nil))) (.int 0))) (.seq (.par 5 6 (.cons (.call 0 (.cons (.var 0) (.cons (.var 1) .nil))) (.cons (.bin .Add (.int 1) (.call 0 (.cons (.var 0) (.cons (.bin .Sub (.var 1) (.int 1)) .nil)))) .nil))) (.seq (.tgt (.tp (.cons (.nm 7) (.cons (.nm 8) .nil))) (.tup (.cons (.ix (.var 2) (.bin .Mod (.blt .int (.cons (.bin .Add (.var 5) (.var 6)) .nil)) (.var 1))) (.cons (.bin .Sub (.call 0 (.cons (.var 0) (.cons (.int 5) .nil))) (.int 2)) .nil)))) (.seq (.seti (.var 2) (.var 5) (.comp false [9, 10] (.tp (.cons (.nm 9) (.cons (.nm 10) .nil))) (.zip (.ix (.var 2) (.var 5)) (.var 7)) .yes (.bin .Add (.var 9) (.bin .Mult (.var 8) (.var 10))))) .nil)))) (.seq (.ret (.blt .tuple (.cons (.comp false [4] (.nm 4) (.seq (.var 2)) .yes (.blt .tuple (.cons (.var 4) .nil))) .nil))) .nil)))
def N__law_spun : List Str := ["_law_bag_here", "_law_wide", "_law_two", "_law_end", "_law_mid", "_law_lead_here"]
def ps__law_spun : List Str := ["_law_bag_here", "_law_wide"]
def gm__law_spun : List Fk := [("_law_mul", []), ("_law_undo", []), ("_law_unimodular", []), ("_law_draw", []), ("_law_pick", [])]
def y__law_spun : YS := (.seq (.set 2 (.call 4 (.cons (.var 0) (.cons (.lst false (.cons (.tup (.cons (.tup (.cons (.int 0) (.cons (.neg (.int 1)) .nil))) (.cons (.tup (.cons (.int 1) (.cons (.int 0) .nil))) .nil))) (.cons (.tup (.cons (.tup (.cons (.int 0) (.cons (.neg (.int 1)) .nil))) (.cons (.tup (.cons (.int 1) (.cons (.int 1) .nil))) .nil))) (.cons (.tup (.cons (.tup (.cons (.int 0) (.cons (.neg (.int 1)) .nil))) (.cons (.tup (.cons (.int 1) (.cons (.neg (.int 1)) .nil))) .nil))) (.cons (.tup (.cons (.tup (.cons (.int 1) (.cons (.int 0) .nil))) (.cons (.tup (.cons (.int 0) (.cons (.neg (.int 1)) .nil))) .nil))) (.cons (.tup (.cons (.tup (.cons (.int 0) (.cons (.int 1) .nil))) (.cons (.tup (.cons (.int 1) (.cons (.int 0) .nil))) .nil))) .nil)))))) .nil)))) (.seq (.set 3 (.bin .Sub (.int 1) (.bin .Mult (.int 2) (.call 3 (.cons (.var 0) (.cons (.int 2) .nil)))))) (.seq (.set 4 (.ite (.cmp .Eq (.var 1) (.int 1)) (.tup (.cons (.tup (.cons (.var 3) .nil)) .nil)) (.ite (.cmp .Eq (.var 1) (.int 2)) (.var 2) (.tup (.cons (.bin .Add (.ix (.var 2) (.int 0)) (.tup (.cons (.int 0) .nil))) (.cons (.bin .Add (.ix (.var 2) (.int 1)) (.tup (.cons (.int 0) .nil))) (.cons (.tup (.cons (.int 0) (.cons (.int 0) (.cons (.var 3) .nil)))) .nil))))))) (.seq (.ite (.and (.cmp .Eq (.var 1) (.int 3)) (.one (.cmp .Eq (.call 3 (.cons (.var 0) (.cons (.int 3) .nil))) (.int 0)))) (.seq (.set 4 (.tup (.cons (.tup (.cons (.int 0) (.cons (.var 3) (.cons (.int 0) .nil)))) (.cons (.tup (.cons (.int 0) (.cons (.int 0) (.cons (.var 3) .nil)))) (.cons (.tup (.cons (.var 3) (.cons (.int 0) (.cons (.int 0) .nil)))) .nil))))) .nil) .nil) (.seq (.set 5 (.call 2 (.cons (.var 0) (.cons (.var 1) .nil)))) (.seq (.ret (.call 0 (.cons (.call 0 (.cons (.var 5) (.cons (.var 4) .nil))) (.cons (.call 1 (.cons (.var 5) .nil)) .nil)))) .nil))))))
def N__law_power : List Str := ["_law_m", "_law_size", "_law_found", "_law_k"]
def ps__law_power : List Str := ["_law_m", "_law_size"]
def gm__law_power : List Fk := [("_law_undo", []), ("_law_mul", []), ("_law_one", [])]
def y__law_power : YS := (.seq (.set 2 (.call 2 (.cons (.blt .len (.cons (.var 0) .nil)) .nil))) (.seq (.for_ (.nm 3) (.rng (.blt .abs (.cons (.var 1) .nil))) (.seq (.set 2 (.call 1 (.cons (.var 2) (.cons (.var 0) .nil)))) .nil)) (.seq (.ret (.ite (.cmp .GtE (.var 1) (.int 0)) (.var 2) (.call 0 (.cons (.var 2) .nil)))) .nil)))
def N__law_order : List Str := ["_law_m", "_law_found", "_law_k"]
def ps__law_order : List Str := ["_law_m"]
def gm__law_order : List Fk := [("_law_power", []), ("_law_one", [])]
def y__law_order : YS := (.seq (.set 1 (.comp false [2] (.nm 2) (.rng2 (.int 1) (.int 7)) (.cmp .Eq (.call 0 (.cons (.var 0) (.cons (.var 2) .nil))) (.call 1 (.cons (.blt .len (.cons (.var 0) .nil)) .nil))) (.var 2))) (.seq (.ret (.ite (.cmp .NotEq (.var 1) (.lst false .nil)) (.ix (.var 1) (.int 0)) .non)) .nil))
def N__law_bent : List Str := ["_law_bag_here", "_law_m", "_law_rows", "_law_bent_here", "_law_menu", "_law_row", "_law_x"]
def ps__law_bent : List Str := ["_law_bag_here", "_law_m"]
def gm__law_bent : List Fk := [("_law_pick", []), ("_law_odd", []), ("_law_one", []), ("_law_draw", [])]
def y__law_bent : YS := (.seq (.set 2 (.compU [5] (.nm 5) (.seq (.var 1)) (.lis (.var 5)))) (.seq (.seti (.ix (.var 2) (.call 3 (.cons (.var 0) (.cons (.blt .len (.cons (.var 1) .nil)) .nil)))) (.call 3 (.cons (.var 0) (.cons (.blt .len (.cons (.var 1) .nil)) .nil))) (.call 0 (.cons (.var 0) (.cons (.lst false (.cons (.bl true) (.cons (.bl false) (.cons .non (.cons (.int 2) (.cons (.int 0) (.cons (.str "1") (.cons (.tup (.cons (.int 1) .nil)) (.cons (.bin .Pow (.int 10) (.int 39)) .nil))))))))) .nil)))) (.seq (.set 3 (.blt .tuple (.cons (.comp false [5] (.nm 5) (.seq (.fzl (.var 2))) .yes (.blt .tuple (.cons (.var 5) .nil))) .nil))) (.seq (.set 4 (.lst false (.cons (.var 3) (.cons (.var 3) (.cons (.blt .list (.cons (.var 1) .nil)) (.cons (.sl (.var 1) .nop (.sm (.neg (.int 1)))) (.cons (.bin .Add (.var 1) (.tup (.cons (.ix (.var 1) (.int 0)) .nil))) (.cons (.bin .Add (.tup (.cons (.blt .list (.cons (.ix (.var 1) (.int 0)) .nil)) .nil)) (.sl (.var 1) (.sm (.int 1)) .nop)) (.cons (.bin .Add (.tup (.cons (.bin .Add (.ix (.var 1) (.int 0)) (.tup (.cons (.int 0) .nil))) .nil)) (.sl (.var 1) (.sm (.int 1)) .nop)) (.cons (.bin .Mult (.tup (.cons (.ix (.var 1) (.int 0)) .nil)) (.blt .len (.cons (.var 1) .nil))) (.cons (.call 2 (.cons (.int 4) .nil)) (.cons (.tup .nil) (.cons (.tup (.cons (.tup .nil) .nil)) .nil))))))))))))) (.seq (.ret (.call 0 (.cons (.var 0) (.cons (.bin .Add (.var 4) (.lst false (.cons (.blt .tuple (.cons (.comp false [5] (.nm 5) (.seq (.var 1)) .yes (.blt .tuple (.cons (.comp false [6] (.nm 6) (.seq (.var 5)) .yes (.bin .Mult (.int 2) (.var 6))) .nil))) .nil)) (.cons (.call 1 (.cons (.var 0) .nil)) .nil)))) .nil)))) .nil)))))
def N__law_sums_so : List Str := ["_law_bag_here", "_law_wide", "_law_told", "_law_due", "_law_v", "_law_w", "_law_m", "_law_n", "_law_k", "_law_j", "_law_a", "_law_b"]
def ps__law_sums_so : List Str := ["_law_bag_here", "_law_wide"]
def gm__law_sums_so : List Fk := [("_law_same", []), ("_law_det", []), ("_law_mul", []), ("_law_lead", []), ("_law_one", []), ("determinant", []), ("matrix_times", []), ("led", []), ("dot", []), ("vector_times", []), ("vector_minus", []), ("vector_plus", []), ("identity", []), ("unit", []), ("zero", []), ("_law_draw", []), ("_law_number", []), ("_law_vector", [])]
def y__law_sums_so : YS := (.seq (.par 4 5 (.cons (.call 17 (.cons (.var 0) (.cons (.var 1) (.cons (.int 9) .nil)))) (.cons (.call 17 (.cons (.var 0) (.cons (.var 1) (.cons (.int 9) .nil)))) .nil))) (.seq (.tgt (.tp (.cons (.nm 6) (.cons (.nm 7) .nil))) (.comp false [9] (.nm 9) (.rng (.int 2)) .yes (.blt .tuple (.cons (.comp false [8] (.nm 8) (.rng (.var 1)) .yes (.call 17 (.cons (.var 0) (.cons (.var 1) (.cons (.int 3) .nil))))) .nil)))) (.seq (.tgt (.tp (.cons (.nm 8) (.cons (.nm 9) .nil))) (.tup (.cons (.call 16 (.cons (.var 0) (.cons (.int 5) .nil))) (.cons (.call 15 (.cons (.var 0) (.cons (.var 1) .nil))) .nil)))) (.seq (.set 2 (.lst false (.cons (.call 14 (.cons (.var 1) .nil)) (.cons (.call 13 (.cons (.var 1) (.cons (.var 9) .nil))) (.cons (.call 12 (.cons (.var 1) .nil)) (.cons (.call 11 (.cons (.var 4) (.cons (.var 5) .nil))) (.cons (.call 10 (.cons (.var 4) (.cons (.var 5) .nil))) (.cons (.call 9 (.cons (.var 4) (.cons (.var 8) .nil))) (.cons (.call 8 (.cons (.var 4) (.cons (.var 5) .nil))) (.cons (.call 7 (.cons (.var 4) (.cons (.var 6) .nil))) (.cons (.call 6 (.cons (.var 6) (.cons (.var 7) .nil))) (.cons (.call 5 (.cons (.var 6) .nil)) (.cons (.ite (.cmp .Gt (.var 1) (.int 1)) (.call 5 (.cons (.bin .Mult (.tup (.cons (.var 4) .nil)) (.var 1)) .nil)) (.ix (.var 4) (.int 0))) .nil))))))))))))) (.seq (.set 3 (.lst false (.cons (.bin .Mult (.tup (.cons (.int 0) .nil)) (.var 1)) (.cons (.ix (.call 4 (.cons (.var 1) .nil)) (.var 9)) (.cons (.call 4 (.cons (.var 1) .nil)) (.cons (.blt .tuple (.cons (.comp false [10, 11] (.tp (.cons (.nm 10) (.cons (.nm 11) .nil))) (.zip (.var 4) (.var 5)) .yes (.bin .Add (.var 10) (.var 11))) .nil)) (.cons (.blt .tuple (.cons (.comp false [10, 11] (.tp (.cons (.nm 10) (.cons (.nm 11) .nil))) (.zip (.var 4) (.var 5)) .yes (.bin .Sub (.var 10) (.var 11))) .nil)) (.cons (.blt .tuple (.cons (.comp false [10] (.nm 10) (.seq (.var 4)) .yes (.bin .Mult (.var 10) (.var 8))) .nil)) (.cons (.blt .sum (.cons (.comp false [10, 11] (.tp (.cons (.nm 10) (.cons (.nm 11) .nil))) (.zip (.var 4) (.var 5)) .yes (.bin .Mult (.var 10) (.var 11))) .nil)) (.cons (.call 3 (.cons (.var 4) (.cons (.var 6) .nil))) (.cons (.call 2 (.cons (.var 6) (.cons (.var 7) .nil))) (.cons (.call 1 (.cons (.var 6) .nil)) (.cons (.ite (.cmp .Gt (.var 1) (.int 1)) (.int 0) (.ix (.var 4) (.int 0))) .nil))))))))))))) (.seq (.ret (.call 0 (.cons (.var 2) (.cons (.var 3) .nil)))) .nil))))))
def N__law_judged_so : List Str := ["_law_bag_here", "_law_wide", "_law_u", "_law_bent_here", "_law_size", "_law_thing", "_law_due"]
def ps__law_judged_so : List Str := ["_law_bag_here", "_law_wide", "_law_u", "_law_bent_here"]
def gm__law_judged_so : List Fk := [("_law_same", []), ("is_unimodular", []), ("_law_odd", []), ("_law_is_unimodular", []), ("_law_is_matrix", []), ("is_matrix", []), ("_law_is_vector", []), ("is_vector", []), ("_law_draw", [])]
def y__law_judged_so : YS := (.seq (.set 4 (.bin .Add (.int 1) (.call 8 (.cons (.var 0) (.cons (.int 3) .nil))))) (.seq (.for_ (.nm 5) (.seq (.lst false (.cons (.var 2) (.cons (.var 3) (.cons (.ix (.var 2) (.int 0)) (.cons (.blt .list (.cons (.ix (.var 2) (.int 0)) .nil)) (.cons (.sl (.ix (.var 2) (.int 0)) .nop (.sm (.neg (.int 1)))) (.cons (.bin .Add (.tup (.cons (.bl true) .nil)) (.sl (.ix (.var 2) (.int 0)) (.sm (.int 1)) .nop)) (.cons (.call 2 (.cons (.var 0) .nil)) (.cons (.bin .Mult (.tup (.cons (.ix (.var 2) (.int 0)) .nil)) (.var 1)) .nil)))))))))) (.seq (.ite (.or (.not (.call 0 (.cons (.call 7 (.cons (.var 5) (.cons (.var 4) .nil))) (.cons (.call 6 (.cons (.var 5) (.cons (.var 4) .nil))) .nil)))) (.one (.not (.call 0 (.cons (.call 7 (.cons (.var 5) (.cons (.var 1) .nil))) (.cons (.call 6 (.cons (.var 5) (.cons (.var 1) .nil))) .nil)))))) (.seq (.ret (.bl false)) .nil) .nil) (.seq (.ite (.not (.call 0 (.cons (.call 5 (.cons (.var 5) (.cons (.var 1) .nil))) (.cons (.call 4 (.cons (.var 5) (.cons (.var 1) .nil))) .nil)))) (.seq (.ret (.bl false)) .nil) .nil) (.seq (.set 6 (.and (.call 3 (.cons (.var 5) .nil)) (.one (.cmp .Eq (.blt .len (.cons (.var 5) .nil)) (.var 4))))) (.seq (.ite (.not (.call 0 (.cons (.call 1 (.cons (.var 5) (.cons (.var 4) .nil))) (.cons (.var 6) .nil)))) (.seq (.ret (.bl false)) .nil) .nil) .nil))))) (.seq (.ret (.call 0 (.cons (.call 1 (.cons (.var 2) (.cons (.var 1) .nil))) (.cons (.bl true) .nil)))) .nil)))
def N__law_powers_so : List Str := ["_law_bag_here", "_law_wide", "_law_u", "_law_bent_here", "_law_size", "_law_odd_here", "_law_good"]
def ps__law_powers_so : List Str := ["_law_bag_here", "_law_wide", "_law_u", "_law_bent_here"]
def gm__law_powers_so : List Fk := [("_law_same", []), ("order_of", []), ("power", []), ("unimodular_inverse", []), ("_law_undo", []), ("_law_is_unimodular", []), ("_law_pick", []), ("_law_mul", []), ("_law_one", []), ("_law_order", []), ("_law_power", []), ("_law_draw", [])]
def y__law_powers_so : YS := (.seq (.set 4 (.call 6 (.cons (.var 0) (.cons (.lst false (.cons (.int 0) (.cons (.int 1) (.cons (.neg (.int 1)) (.cons (.int 2) (.cons (.int 3) (.cons (.neg (.int 2)) (.cons (.int 6) (.cons (.bin .Sub (.call 11 (.cons (.var 0) (.cons (.int 19) .nil))) (.int 9)) .nil))))))))) .nil)))) (.seq (.ite (.cmp .Eq (.call 11 (.cons (.var 0) (.cons (.int 6) .nil))) (.int 0)) (.seq (.set 4 (.call 6 (.cons (.var 0) (.cons (.lst false (.cons (.int 100) (.cons (.neg (.int 100)) (.cons (.int 99) .nil)))) .nil)))) .nil) .nil) (.seq (.ite (.not (.call 0 (.cons (.lst false (.cons (.call 3 (.cons (.var 2) .nil)) (.cons (.call 2 (.cons (.var 2) (.cons (.var 4) .nil))) (.cons (.call 1 (.cons (.var 2) .nil)) .nil)))) (.cons (.lst false (.cons (.call 4 (.cons (.var 2) .nil)) (.cons (.call 10 (.cons (.var 2) (.cons (.var 4) .nil))) (.cons (.call 9 (.cons (.var 2) .nil)) .nil)))) .nil)))) (.seq (.ret (.bl false)) .nil) .nil) (.seq (.ite (.cmp .NotEq (.call 7 (.cons (.call 4 (.cons (.var 2) .nil)) (.cons (.var 2) .nil))) (.call 8 (.cons (.var 1) .nil))) (.seq (.ret (.bl false)) .nil) .nil) (.seq (.set 5 (.call 6 (.cons (.var 0) (.cons (.lst false (.cons (.int 101) (.cons (.neg (.int 101)) (.cons (.bl true) (.cons (.bl false) (.cons .non (.cons (.str "1") (.cons (.tup (.cons (.int 1) .nil)) (.cons (.lst false (.cons (.int 1) .nil)) (.cons (.bin .Pow (.int 10) (.int 39)) .nil)))))))))) .nil)))) (.seq (.ite (.not (.ask 0 exs (.call 2 (.cons (.var 2) (.cons (.var 5) .nil))) (.tup (.cons (.str "InvalidNumber") (.cons (.var 5) .nil))))) (.seq (.ret (.bl false)) .nil) .nil) (.seq (.set 6 (.call 5 (.cons (.var 3) .nil))) (.seq (.ite (.not (.ask 0 exs (.call 2 (.cons (.var 3) (.cons (.var 5) .nil))) (.ite (.var 6) (.tup (.cons (.str "InvalidNumber") (.cons (.var 5) .nil))) (.tup (.cons (.str "InvalidMatrix") .nil))))) (.seq (.ret (.bl false)) .nil) .nil) (.seq (.ite (.var 6) (.seq (.ret (.ask 0 exs (.call 3 (.cons (.var 3) .nil)) (.tup (.cons (.str "") (.cons (.call 4 (.cons (.var 3) .nil)) .nil))))) .nil) .nil) (.seq (.ite (.not (.ask 0 exs (.call 3 (.cons (.var 3) .nil)) (.tup (.cons (.str "InvalidMatrix") .nil)))) (.seq (.ret (.bl false)) .nil) .nil) (.seq (.ite (.not (.ask 0 exs (.call 2 (.cons (.var 3) (.cons (.var 4) .nil))) (.tup (.cons (.str "InvalidMatrix") .nil)))) (.seq (.ret (.bl false)) .nil) .nil) (.seq (.ret (.ask 0 exs (.call 1 (.cons (.var 3) .nil)) (.tup (.cons (.str "InvalidMatrix") .nil)))) .nil))))))))))))
def N_law : List Str := ["_law_script", "_law_bag_here", "_law_turn", "_law_wide", "_law_u", "_law_bent_here"]
def ps_law : List Str := ["_law_script"]
def gm_law : List Fk := [("_law_powers_so", []), ("_law_judged_so", []), ("_law_sums_so", []), ("_law_bent", []), ("_law_draw", []), ("_law_unimodular", []), ("_law_spun", []), ("_law_bag", [])]
def y_law : YS := (.seq (.set 1 (.call 7 (.cons (.var 0) .nil))) (.seq (.for_ (.nm 2) (.rng (.int 2)) (.seq (.set 3 (.bin .Add (.int 1) (.call 4 (.cons (.var 1) (.cons (.int 3) .nil))))) (.seq (.set 4 (.ite (.cmp .Eq (.call 4 (.cons (.var 1) (.cons (.int 2) .nil))) (.int 0)) (.call 5 (.cons (.var 1) (.cons (.var 3) .nil))) (.call 6 (.cons (.var 1) (.cons (.var 3) .nil))))) (.seq (.set 5 (.call 3 (.cons (.var 1) (.cons (.var 4) .nil)))) (.seq (.ite (.or (.not (.call 2 (.cons (.var 1) (.cons (.var 3) .nil)))) (.or (.not (.call 1 (.cons (.var 1) (.cons (.var 3) (.cons (.var 4) (.cons (.var 5) .nil)))))) (.one (.not (.call 0 (.cons (.var 1) (.cons (.var 3) (.cons (.var 4) (.cons (.var 5) .nil))))))))) (.seq (.ret (.bl false)) .nil) .nil) .nil))))) (.seq (.ret (.bl true)) .nil)))
theorem ck_is_any_number : (ckS gm_is_any_number y_is_any_number ⟨N_is_any_number, defScope (top 6), defScope (top 6), false, exs, gints, gstrs, xcs⟩).B (defBody (top 6)) = true := by decide +kernel
theorem ck_is_number : (ckS gm_is_number y_is_number ⟨N_is_number, defScope (top 7), defScope (top 7), false, exs, gints, gstrs, xcs⟩).B (defBody (top 7)) = true := by decide +kernel
theorem ck_is_vector : (ckS gm_is_vector y_is_vector ⟨N_is_vector, defScope (top 11), defScope (top 11), false, exs, gints, gstrs, xcs⟩).B (defBody (top 11)) = true := by decide +kernel
theorem ck_is_matrix : (ckS gm_is_matrix y_is_matrix ⟨N_is_matrix, defScope (top 12), defScope (top 12), false, exs, gints, gstrs, xcs⟩).B (defBody (top 12)) = true := by decide +kernel
theorem ck_zero : (ckS gm_zero y_zero ⟨N_zero, defScope (top 13), defScope (top 13), false, exs, gints, gstrs, xcs⟩).B (defBody (top 13)) = true := by decide +kernel
theorem ck_unit : (ckS gm_unit y_unit ⟨N_unit, defScope (top 14), defScope (top 14), false, exs, gints, gstrs, xcs⟩).B (defBody (top 14)) = true := by decide +kernel
theorem ck_identity : (ckS gm_identity y_identity ⟨N_identity, defScope (top 15), defScope (top 15), false, exs, gints, gstrs, xcs⟩).B (defBody (top 15)) = true := by decide +kernel
theorem ck_vector_plus : (ckS gm_vector_plus y_vector_plus ⟨N_vector_plus, defScope (top 16), defScope (top 16), false, exs, gints, gstrs, xcs⟩).B (defBody (top 16)) = true := by decide +kernel
theorem ck_vector_minus : (ckS gm_vector_minus y_vector_minus ⟨N_vector_minus, defScope (top 17), defScope (top 17), false, exs, gints, gstrs, xcs⟩).B (defBody (top 17)) = true := by decide +kernel
theorem ck_vector_times : (ckS gm_vector_times y_vector_times ⟨N_vector_times, defScope (top 18), defScope (top 18), false, exs, gints, gstrs, xcs⟩).B (defBody (top 18)) = true := by decide +kernel
theorem ck_dot : (ckS gm_dot y_dot ⟨N_dot, defScope (top 19), defScope (top 19), false, exs, gints, gstrs, xcs⟩).B (defBody (top 19)) = true := by decide +kernel
theorem ck_led : (ckS gm_led y_led ⟨N_led, defScope (top 20), defScope (top 20), false, exs, gints, gstrs, xcs⟩).B (defBody (top 20)) = true := by decide +kernel
theorem ck_matrix_times : (ckS gm_matrix_times y_matrix_times ⟨N_matrix_times, defScope (top 21), defScope (top 21), false, exs, gints, gstrs, xcs⟩).B (defBody (top 21)) = true := by decide +kernel
theorem ck_determinant : (ckS gm_determinant y_determinant ⟨N_determinant, defScope (top 22), defScope (top 22), false, exs, gints, gstrs, xcs⟩).B (defBody (top 22)) = true := by decide +kernel
theorem ck_adjugate : (ckS gm_adjugate y_adjugate ⟨N_adjugate, defScope (top 23), defScope (top 23), false, exs, gints, gstrs, xcs⟩).B (defBody (top 23)) = true := by decide +kernel
theorem ck_is_unimodular : (ckS gm_is_unimodular y_is_unimodular ⟨N_is_unimodular, defScope (top 24), defScope (top 24), false, exs, gints, gstrs, xcs⟩).B (defBody (top 24)) = true := by decide +kernel
theorem ck_is_any_unimodular : (ckS gm_is_any_unimodular y_is_any_unimodular ⟨N_is_any_unimodular, defScope (top 25), defScope (top 25), false, exs, gints, gstrs, xcs⟩).B (defBody (top 25)) = true := by decide +kernel
theorem ck_unimodular_inverse : (ckS gm_unimodular_inverse y_unimodular_inverse ⟨N_unimodular_inverse, defScope (top 26), defScope (top 26), false, exs, gints, gstrs, xcs⟩).B (defBody (top 26)) = true := by decide +kernel
theorem ck_power : (ckS gm_power y_power ⟨N_power, defScope (top 27), defScope (top 27), false, exs, gints, gstrs, xcs⟩).B (defBody (top 27)) = true := by decide +kernel
theorem ck_order_of : (ckS gm_order_of y_order_of ⟨N_order_of, defScope (top 28), defScope (top 28), false, exs, gints, gstrs, xcs⟩).B (defBody (top 28)) = true := by decide +kernel
theorem ck__law_bag : (ckS gm__law_bag y__law_bag ⟨N__law_bag, defScope (top 30), defScope (top 30), false, exs, gints, gstrs, xcs⟩).B (defBody (top 30)) = true := by decide +kernel
theorem ck__law_draw : (ckS gm__law_draw y__law_draw ⟨N__law_draw, defScope (top 31), defScope (top 31), false, exs, gints, gstrs, xcs⟩).B (defBody (top 31)) = true := by decide +kernel
theorem ck__law_pick : (ckS gm__law_pick y__law_pick ⟨N__law_pick, defScope (top 32), defScope (top 32), false, exs, gints, gstrs, xcs⟩).B (defBody (top 32)) = true := by decide +kernel
theorem ck__law_mixed : (ckS gm__law_mixed y__law_mixed ⟨N__law_mixed, defScope (top 33), defScope (top 33), false, exs, gints, gstrs, xcs⟩).B (defBody (top 33)) = true := by decide +kernel
theorem ck__law_huge : (ckS gm__law_huge y__law_huge ⟨N__law_huge, defScope (top 34), defScope (top 34), false, exs, gints, gstrs, xcs⟩).B (defBody (top 34)) = true := by decide +kernel
theorem ck__law_number : (ckS gm__law_number y__law_number ⟨N__law_number, defScope (top 35), defScope (top 35), false, exs, gints, gstrs, xcs⟩).B (defBody (top 35)) = true := by decide +kernel
theorem ck__law_vector : (ckS gm__law_vector y__law_vector ⟨N__law_vector, defScope (top 36), defScope (top 36), false, exs, gints, gstrs, xcs⟩).B (defBody (top 36)) = true := by decide +kernel
theorem ck__law_int : (ckS gm__law_int y__law_int ⟨N__law_int, defScope (top 37), defScope (top 37), false, exs, gints, gstrs, xcs⟩).B (defBody (top 37)) = true := by decide +kernel
theorem ck__law_is_vector : (ckS gm__law_is_vector y__law_is_vector ⟨N__law_is_vector, defScope (top 38), defScope (top 38), false, exs, gints, gstrs, xcs⟩).B (defBody (top 38)) = true := by decide +kernel
theorem ck__law_is_matrix : (ckS gm__law_is_matrix y__law_is_matrix ⟨N__law_is_matrix, defScope (top 39), defScope (top 39), false, exs, gints, gstrs, xcs⟩).B (defBody (top 39)) = true := by decide +kernel
theorem ck__law_is_unimodular : (ckS gm__law_is_unimodular y__law_is_unimodular ⟨N__law_is_unimodular, defScope (top 40), defScope (top 40), false, exs, gints, gstrs, xcs⟩).B (defBody (top 40)) = true := by decide +kernel
theorem ck__law_same : (ckS gm__law_same y__law_same ⟨N__law_same, defScope (top 41), defScope (top 41), false, exs, gints, gstrs, xcs⟩).B (defBody (top 41)) = true := by decide +kernel
theorem ck__law_odd : (ckS gm__law_odd y__law_odd ⟨N__law_odd, defScope (top 45), defScope (top 45), false, exs, gints, gstrs, xcs⟩).B (defBody (top 45)) = true := by decide +kernel
theorem ck__law_lead : (ckS gm__law_lead y__law_lead ⟨N__law_lead, defScope (top 46), defScope (top 46), false, exs, gints, gstrs, xcs⟩).B (defBody (top 46)) = true := by decide +kernel
theorem ck__law_mul : (ckS gm__law_mul y__law_mul ⟨N__law_mul, defScope (top 47), defScope (top 47), false, exs, gints, gstrs, xcs⟩).B (defBody (top 47)) = true := by decide +kernel
theorem ck__law_one : (ckS gm__law_one y__law_one ⟨N__law_one, defScope (top 48), defScope (top 48), false, exs, gints, gstrs, xcs⟩).B (defBody (top 48)) = true := by decide +kernel
theorem ck__law_det : (ckS gm__law_det y__law_det ⟨N__law_det, defScope (top 49), defScope (top 49), false, exs, gints, gstrs, xcs⟩).B (defBody (top 49)) = true := by decide +kernel
theorem ck__law_minor : (ckS gm__law_minor y__law_minor ⟨N__law_minor, defScope (top 50), defScope (top 50), false, exs, gints, gstrs, xcs⟩).B (defBody (top 50)) = true := by decide +kernel
theorem ck__law_undo : (ckS gm__law_undo y__law_undo ⟨N__law_undo, defScope (top 51), defScope (top 51), false, exs, gints, gstrs, xcs⟩).B (defBody (top 51)) = true := by decide +kernel
theorem ck__law_unimodular : (ckS gm__law_unimodular y__law_unimodular ⟨N__law_unimodular, defScope (top 52), defScope (top 52), false, exs, gints, gstrs, xcs⟩).B (defBody (top 52)) = true := by decide +kernel
theorem ck__law_spun : (ckS gm__law_spun y__law_spun ⟨N__law_spun, defScope (top 53), defScope (top 53), false, exs, gints, gstrs, xcs⟩).B (defBody (top 53)) = true := by decide +kernel
theorem ck__law_power : (ckS gm__law_power y__law_power ⟨N__law_power, defScope (top 54), defScope (top 54), false, exs, gints, gstrs, xcs⟩).B (defBody (top 54)) = true := by decide +kernel
theorem ck__law_order : (ckS gm__law_order y__law_order ⟨N__law_order, defScope (top 55), defScope (top 55), false, exs, gints, gstrs, xcs⟩).B (defBody (top 55)) = true := by decide +kernel
theorem ck__law_bent : (ckS gm__law_bent y__law_bent ⟨N__law_bent, defScope (top 56), defScope (top 56), false, exs, gints, gstrs, xcs⟩).B (defBody (top 56)) = true := by decide +kernel
theorem ck__law_sums_so : (ckS gm__law_sums_so y__law_sums_so ⟨N__law_sums_so, defScope (top 57), defScope (top 57), false, exs, gints, gstrs, xcs⟩).B (defBody (top 57)) = true := by decide +kernel
theorem ck__law_judged_so : (ckS gm__law_judged_so y__law_judged_so ⟨N__law_judged_so, defScope (top 58), defScope (top 58), false, exs, gints, gstrs, xcs⟩).B (defBody (top 58)) = true := by decide +kernel
theorem ck__law_powers_so : (ckS gm__law_powers_so y__law_powers_so ⟨N__law_powers_so, defScope (top 59), defScope (top 59), true, exs, gints, gstrs, xcs⟩).B (defBody (top 59)) = true := by decide +kernel
theorem ck_law : (ckS gm_law y_law ⟨N_law, defScope (top 60), defScope (top 60), false, exs, gints, gstrs, xcs⟩).B (defBody (top 60)) = true := by decide +kernel
theorem sc_is_any_number : C8.scC N_is_any_number ps_is_any_number (defScope (top 6)) = true := by decide +kernel
theorem sc_is_number : C8.scC N_is_number ps_is_number (defScope (top 7)) = true := by decide +kernel
theorem sc_is_vector : C8.scC N_is_vector ps_is_vector (defScope (top 11)) = true := by decide +kernel
theorem sc_is_matrix : C8.scC N_is_matrix ps_is_matrix (defScope (top 12)) = true := by decide +kernel
theorem sc_zero : C8.scC N_zero ps_zero (defScope (top 13)) = true := by decide +kernel
theorem sc_unit : C8.scC N_unit ps_unit (defScope (top 14)) = true := by decide +kernel
theorem sc_identity : C8.scC N_identity ps_identity (defScope (top 15)) = true := by decide +kernel
theorem sc_vector_plus : C8.scC N_vector_plus ps_vector_plus (defScope (top 16)) = true := by decide +kernel
theorem sc_vector_minus : C8.scC N_vector_minus ps_vector_minus (defScope (top 17)) = true := by decide +kernel
theorem sc_vector_times : C8.scC N_vector_times ps_vector_times (defScope (top 18)) = true := by decide +kernel
theorem sc_dot : C8.scC N_dot ps_dot (defScope (top 19)) = true := by decide +kernel
theorem sc_led : C8.scC N_led ps_led (defScope (top 20)) = true := by decide +kernel
theorem sc_matrix_times : C8.scC N_matrix_times ps_matrix_times (defScope (top 21)) = true := by decide +kernel
theorem sc_determinant : C8.scC N_determinant ps_determinant (defScope (top 22)) = true := by decide +kernel
theorem sc_adjugate : C8.scC N_adjugate ps_adjugate (defScope (top 23)) = true := by decide +kernel
theorem sc_is_unimodular : C8.scC N_is_unimodular ps_is_unimodular (defScope (top 24)) = true := by decide +kernel
theorem sc_is_any_unimodular : C8.scC N_is_any_unimodular ps_is_any_unimodular (defScope (top 25)) = true := by decide +kernel
theorem sc_unimodular_inverse : C8.scC N_unimodular_inverse ps_unimodular_inverse (defScope (top 26)) = true := by decide +kernel
theorem sc_power : C8.scC N_power ps_power (defScope (top 27)) = true := by decide +kernel
theorem sc_order_of : C8.scC N_order_of ps_order_of (defScope (top 28)) = true := by decide +kernel
theorem sc__law_bag : C8.scC N__law_bag ps__law_bag (defScope (top 30)) = true := by decide +kernel
theorem sc__law_draw : C8.scC N__law_draw ps__law_draw (defScope (top 31)) = true := by decide +kernel
theorem sc__law_pick : C8.scC N__law_pick ps__law_pick (defScope (top 32)) = true := by decide +kernel
theorem sc__law_mixed : C8.scC N__law_mixed ps__law_mixed (defScope (top 33)) = true := by decide +kernel
theorem sc__law_huge : C8.scC N__law_huge ps__law_huge (defScope (top 34)) = true := by decide +kernel
theorem sc__law_number : C8.scC N__law_number ps__law_number (defScope (top 35)) = true := by decide +kernel
theorem sc__law_vector : C8.scC N__law_vector ps__law_vector (defScope (top 36)) = true := by decide +kernel
theorem sc__law_int : C8.scC N__law_int ps__law_int (defScope (top 37)) = true := by decide +kernel
theorem sc__law_is_vector : C8.scC N__law_is_vector ps__law_is_vector (defScope (top 38)) = true := by decide +kernel
theorem sc__law_is_matrix : C8.scC N__law_is_matrix ps__law_is_matrix (defScope (top 39)) = true := by decide +kernel
theorem sc__law_is_unimodular : C8.scC N__law_is_unimodular ps__law_is_unimodular (defScope (top 40)) = true := by decide +kernel
theorem sc__law_same : C8.scC N__law_same ps__law_same (defScope (top 41)) = true := by decide +kernel
theorem sc__law_odd : C8.scC N__law_odd ps__law_odd (defScope (top 45)) = true := by decide +kernel
theorem sc__law_lead : C8.scC N__law_lead ps__law_lead (defScope (top 46)) = true := by decide +kernel
theorem sc__law_mul : C8.scC N__law_mul ps__law_mul (defScope (top 47)) = true := by decide +kernel
theorem sc__law_one : C8.scC N__law_one ps__law_one (defScope (top 48)) = true := by decide +kernel
theorem sc__law_det : C8.scC N__law_det ps__law_det (defScope (top 49)) = true := by decide +kernel
theorem sc__law_minor : C8.scC N__law_minor ps__law_minor (defScope (top 50)) = true := by decide +kernel
theorem sc__law_undo : C8.scC N__law_undo ps__law_undo (defScope (top 51)) = true := by decide +kernel
theorem sc__law_unimodular : C8.scC N__law_unimodular ps__law_unimodular (defScope (top 52)) = true := by decide +kernel
theorem sc__law_spun : C8.scC N__law_spun ps__law_spun (defScope (top 53)) = true := by decide +kernel
theorem sc__law_power : C8.scC N__law_power ps__law_power (defScope (top 54)) = true := by decide +kernel
theorem sc__law_order : C8.scC N__law_order ps__law_order (defScope (top 55)) = true := by decide +kernel
theorem sc__law_bent : C8.scC N__law_bent ps__law_bent (defScope (top 56)) = true := by decide +kernel
theorem sc__law_sums_so : C8.scC N__law_sums_so ps__law_sums_so (defScope (top 57)) = true := by decide +kernel
theorem sc__law_judged_so : C8.scC N__law_judged_so ps__law_judged_so (defScope (top 58)) = true := by decide +kernel
theorem sc__law_powers_so : C8.scC N__law_powers_so ps__law_powers_so (defScope (top 59)) = true := by decide +kernel
theorem sc_law : C8.scC N_law ps_law (defScope (top 60)) = true := by decide +kernel
theorem xi_InvalidNumber : initC (defScope (inClass (top 3) 0)) xp_InvalidNumber xc_InvalidNumber.fl (defBody (inClass (top 3) 0)) = true := by decide +kernel
theorem xs_InvalidNumber : C8.scC xp_InvalidNumber xp_InvalidNumber (defScope (inClass (top 3) 0)) = true := by decide +kernel
theorem xl_InvalidNumber : (defScope (inClass (top 3) 0)).names.lookup ("self" : Str) = some .local := by decide +kernel
theorem xi_InvalidMatrix : initC (defScope (inClass (top 4) 0)) xp_InvalidMatrix xc_InvalidMatrix.fl (defBody (inClass (top 4) 0)) = true := by decide +kernel
theorem xs_InvalidMatrix : C8.scC xp_InvalidMatrix xp_InvalidMatrix (defScope (inClass (top 4) 0)) = true := by decide +kernel
theorem xl_InvalidMatrix : (defScope (inClass (top 4) 0)).names.lookup ("self" : Str) = some .local := by decide +kernel
theorem ak_fields : fldC "_law_e" fldT (defBody (top 42)) = true := by decide +kernel
theorem al_fields : locI (defScope (top 42)) "_law_e" = true := by decide +kernel
theorem as_fields : C8.scC ["_law_e"] ["_law_e"] (defScope (top 42)) = true := by decide +kernel
theorem ak_got : gotC (defScope (top 43)) (defBody (top 43)) = true := by decide +kernel
theorem as_got : C8.scC ["_law_ask", "_law_e"] ["_law_ask"] (defScope (top 43)) = true := by decide +kernel
theorem ak_is : isC (defScope (top 44)) (defBody (top 44)) = true := by decide +kernel
theorem as_is : C8.scC ["_law_ask", "_law_due"] ["_law_ask", "_law_due"] (defScope (top 44)) = true := by decide +kernel
end Z

set_option Elab.async false
set_option linter.all false
set_option maxRecDepth 100000
set_option maxHeartbeats 4000000
namespace Z
open PySem PySem.Spec PyProof.Rows L2
/-! ### what every law of this house calls -/
theorem k_law_bag : Keeps [] y__law_bag N__law_bag.length bagZ := by
  rintro us O Q E ⟨ns, rfl, rfl, h⟩
  show vcS [] y__law_bag E _ [some (.d (.scr ns)), none] []
  simp only [y__law_bag, vcS, vc, gt, st, oneK_1, nrsK_1, partK, nrK_d, slD, list_l, len_l, mul_i, add_i, tosK_5, newL]
  have hl := cutL_len ns 63
  refine ⟨mulOk_l (by decide) (by decide), (by decide : 5 ≤ sizeLine), h _ ⟨_, 0, 0, _, 0, rfl, by decide, by decide, ?_, ?_⟩⟩
  · omega
  · rw [List.length_map]
    have : (cutL ns none (some 63)).length ≤ 63 := hl
    omega
theorem k_law_draw : Keeps [] y__law_draw N__law_draw.length drawZ := by
  rintro us O Q E ⟨ds, n, rfl, rfl, ⟨cs, pos, left, seed, cnt, rfl, hp, hl, hs0, hs1⟩, hn, hn2, h⟩
  show vcS [] y__law_draw E _ [some (.o 0), some (.d (.int n)), none, none, none] _
  simp only [y__law_draw, vcS, vc, gt, st, go, so, oneK_1, nrK_d, nrK_lst0, ix_l, at_0, at_1, at_2, at_3, at_4, ex_some, add_i, toK_d, eq_i, boolK_1, ix5_0, ix5_1, ix5_2, ix5_3, ix5_4, List.set_cons_zero, List.set_cons_succ, nrsK_1, len_l, lt_i, gt_i, int_i, mod_i, mul_i, div_i, pow_i]
  have cnt' : ∀ c : Int, MulOk c 1299721 := fun c => mulOk_r (by decide) (by decide)
  have seedOk : ∀ x : Int, 0 ≤ x.fmod 2147483249 ∧ x.fmod 2147483249 < 2147483249 := fun x => ⟨Int.fmod_nonneg_of_pos _ (by decide), Int.fmod_lt_of_pos _ (by decide)⟩
  have digit : ∀ (x pos left seed cnt : Int), 0 ≤ pos → 0 ≤ left → 0 ≤ seed → seed < 2147483249 → Q (.d (.int (x.fmod n))) [.lst [.lst (cs.map .int), .int pos, .int left, .int seed, .int cnt]] := fun x pos left seed cnt h1 h2 h3 h4 =>
    h _ _ (Int.fmod_nonneg_of_pos _ (by omega)) (Int.fmod_lt_of_pos _ (by omega)) ⟨cs, pos, left, seed, cnt, rfl, h1, h2, h3, h4⟩
  have pow3 : ∀ s : Int, 0 ≤ s → s < 2147483249 → CPow s 3 := fun s h1 h2 => ⟨by decide, by decide, by omega⟩
  have dn : DivOk n := divOk_pos hn hn2
  have dn0 : n ≠ 0 := by omega
  have d71 : DivOk 71 := divOk_pos (by decide) (by decide)
  have fd : ∀ x : Int, 0 ≤ x → 0 ≤ x.fdiv n := fun x hx => Int.fdiv_nonneg hx (by omega)
  have gen : ∀ (x pos seed cnt : Int), 0 ≤ pos → 0 ≤ seed → seed < 2147483249 → 0 ≤ x → (CPow seed 3 ∧ MulOk seed 31181 ∧ MulOk cnt 1299721 ∧ (2147483249 : Int) ≠ 0 ∧ DivOk 71 ∧ (8111 : Int) ≠ 0 ∧ MulOk ((((seed ^ Int.toNat 3 + seed * 31181 + cnt * 1299721 + 60637).fmod 2147483249)).fmod 8111) 59 ∧ n ≠ 0 ∧
      Q (.d (.int ((((seed ^ Int.toNat 3 + seed * 31181 + cnt * 1299721 + 60637).fmod 2147483249).fdiv 71 + ((seed ^ Int.toNat 3 + seed * 31181 + cnt * 1299721 + 60637).fmod 2147483249).fmod 8111 * 59).fmod n)))
        [.lst [.lst (cs.map .int), .int pos, .int x, .int ((seed ^ Int.toNat 3 + seed * 31181 + cnt * 1299721 + 60637).fmod 2147483249), .int cnt]]) := fun x pos seed cnt h1 h2 h3 hx =>
    ⟨pow3 seed h2 h3, mulOk_r (by decide) (by decide), cnt' _, by decide, d71, by decide, mulOk_r (by decide) (by decide), dn0, digit _ _ _ _ _ h1 hx (seedOk _).1 (seedOk _).2⟩
  refine way (fun h0 => way (fun h1 => ?_) fun h1 => ?_) fun h0 => ?_
  · rw [List.length_map] at h1
    obtain ⟨j, rfl⟩ := Int.eq_ofNat_of_zero_le hp
    have hj : j < cs.length := by omega
    refine ⟨.int cs[j], atI_nat (by simp [hj]), ?_⟩
    simp only [abs_i, ge_i, boolK_1, gt_i, int_i, mod_i, mul_i, add_i, div_i, pow_i]
    refine ⟨⟨by decide, by decide, by decide⟩, way (fun h2 => way (fun h3 => ⟨dn0, dn, digit _ _ _ _ _ (by omega) (fd _ (by omega)) hs0 hs1⟩) fun h3 => gen _ _ _ _ (by omega) hs0 hs1 (by omega)) fun h2 => ?_⟩
    refine ⟨mulOk_r (by decide) (by decide), by decide, mulOk_r (by decide) (by decide), by decide, way (fun h3 => ⟨dn0, dn, digit _ _ _ _ _ (by omega) (fd _ hl) (seedOk _).1 (seedOk _).2⟩) fun h3 => gen _ _ _ _ (by omega) (seedOk _).1 (seedOk _).2 hl⟩
  · exact way (fun h3 => ⟨dn0, dn, digit _ _ _ _ _ hp (fd _ hl) hs0 hs1⟩) fun h3 => gen _ _ _ _ hp hs0 hs1 hl
  · exact ⟨(fun z => by cases z), fun _ => way (fun h3 => ⟨dn0, dn, digit _ _ _ _ _ hp (fd _ hl) hs0 hs1⟩) fun h3 => gen _ _ _ _ hp hs0 hs1 hl⟩
theorem k_law_pick : Keeps [("_law_draw", drawZ)] y__law_pick N__law_pick.length pickZ := by
  rintro us O Q E ⟨ds, xs, ho, hb, h1, h2, h⟩
  rcases ho with ⟨rfl, rfl⟩ | ⟨rfl, rfl⟩
  · show vcS _ y__law_pick E _ [some (.o 0), some (.d (.lst xs))] _
    simp only [y__law_pick, vcS, vc, gt, st, oneK_1, nrsK_1, len_l, List.getElem?_cons_zero]
    refine callO [.int xs.length] rfl fun F X hF => ⟨ds, xs.length, rfl, rfl, hb, by omega, by omega, fun r ds' h3 h4 h5 => hF _ _ ?_⟩
    simp only [oneK_1, nrK_d, ix_l]
    obtain ⟨j, rfl⟩ := Int.eq_ofNat_of_zero_le h3
    have hj : j < xs.length := by omega
    exact ⟨xs[j], at_nat hj, h _ _ (List.getElem_mem hj) h5⟩
  · show vcS _ y__law_pick E _ [some (.o 0), some (.o 1)] _
    simp only [y__law_pick, vcS, vc, gt, st, oneK_1, List.getElem?_cons_zero]
    rw [nrsK_o rfl, len_l]
    refine callO [.int xs.length] rfl fun F X hF => ⟨ds, xs.length, rfl, rfl, hb, by omega, by omega, fun r ds' h3 h4 h5 => hF _ _ ?_⟩
    simp only [oneK_1, nrK_d]
    show nrK (.lst ds' :: .brw xs :: []) (.o 1) _
    rw [nrK_brw1, ix_l]
    obtain ⟨j, rfl⟩ := Int.eq_ofNat_of_zero_le h3
    have hj : j < xs.length := by omega
    exact ⟨xs[j], at_nat hj, h _ _ (List.getElem_mem hj) h5⟩
theorem k_law_huge : Keeps [("_law_pick", pickZ), ("_law_draw", drawZ)] y__law_huge N__law_huge.length hugeZ := by
  rintro us O Q E ⟨ds, rfl, rfl, hb, h⟩
  show vcS _ y__law_huge E _ [some (.o 0), none] _
  have e7 : (10 : Int) ^ Int.toNat 7 = 10000000 := by decide
  have e27 : (10 : Int) ^ Int.toNat 27 = 10 ^ 27 := by decide
  have e13 : (10 : Int) ^ Int.toNat 13 = 10 ^ 13 := by decide
  have e10 : (10 : Int) ^ Int.toNat 10 = 10 ^ 10 := by decide
  have e20 : (10 : Int) ^ Int.toNat 20 = 10 ^ 20 := by decide
  have cp : ∀ n : Int, 0 ≤ n → n ≤ 1000 → CPow 10 n := fun n h1 h2 => ⟨h1, by omega, by decide⟩
  simp only [y__law_huge, vcS, vc, gt, st, oneK_1, nrK_d, pow_i, e7, e27, e13, e10, e20, List.getElem?_cons_zero, List.getElem?_cons_succ]
  refine ⟨cp 7 (by decide) (by decide), ?_⟩
  refine callO [.int 10000000] rfl fun F X hF => ⟨ds, _, rfl, rfl, hb, by decide, by decide, fun r1 ds1 a1 b1 c1 => hF _ _ ?_⟩
  simp only [oneK_1, nrK_d, mul_i, so]
  refine ⟨cp 27 (by decide) (by decide), mulOk_l (by omega) (by omega), cp 7 (by decide) (by decide), ?_⟩
  refine callO [.int 10000000] rfl fun F X hF => ⟨ds1, _, rfl, rfl, c1, by decide, by decide, fun r2 ds2 a2 b2 c2 => hF _ _ ?_⟩
  simp only [oneK_1, nrK_d, mul_i, so]
  refine ⟨cp 13 (by decide) (by decide), mulOk_l (by omega) (by omega), ?_⟩
  simp only [oneK_1, nrK_d, add_i]
  refine ⟨cp 7 (by decide) (by decide), ?_⟩
  refine callO [.int 10000000] rfl fun F X hF => ⟨ds2, _, rfl, rfl, c2, by decide, by decide, fun r3 ds3 a3 b3 c3 => hF _ _ ?_⟩
  simp only [oneK_1, nrK_d, add_i, so, gt, st, tosK_3, newL]
  refine ⟨cp 10 (by decide) (by decide), cp 20 (by decide) (by decide), (by decide : 3 ≤ sizeLine), ?_⟩
  refine callO [.lst [.int 1, .int (10 ^ 10), .int (10 ^ 20)]] rfl fun F X hF => ⟨ds3, [.int 1, .int (10 ^ 10), .int (10 ^ 20)], .inl ⟨rfl, rfl⟩, c3, by decide, by decide, fun x ds4 hx c4 => hF _ _ ?_⟩
  have hx' : ∃ v : Int, x = .int v ∧ 1 ≤ v ∧ v < 2 ^ 200 := by
    simp only [List.mem_cons, List.not_mem_nil, or_false] at hx
    rcases hx with rfl | rfl | rfl
    · exact ⟨1, rfl, by decide, by decide⟩
    · exact ⟨10 ^ 10, rfl, by decide, by decide⟩
    · exact ⟨10 ^ 20, rfl, by decide, by decide⟩
  obtain ⟨v, rfl, hv1, hv2⟩ := hx'
  simp only [oneK_1, nrK_d, div_i, so]
  have hs : 0 ≤ r1 * 10 ^ 27 + r2 * 10 ^ 13 + r3 ∧ r1 * 10 ^ 27 + r2 * 10 ^ 13 + r3 < 10 ^ 35 := by omega
  refine ⟨divOk_pos hv1 hv2, h _ _ (Int.fdiv_nonneg hs.1 (by omega)) ?_ c4⟩
  rw [Int.fdiv_eq_ediv_of_nonneg _ (by omega)]
  exact Int.lt_of_le_of_lt (Int.ediv_le_self _ hs.1) hs.2
theorem k_law_int : Keeps [] y__law_int N__law_int.length intZ := by
  rintro us O Q E ⟨d, rfl, rfl, hk, h⟩
  show vcS _ y__law_int E _ [some (.d d)] []
  obtain ⟨a1, a2, a3, a4, a5, a6, a7⟩ := isi_int
  obtain ⟨b1, b2, b3, b4, b5, b6, b7⟩ := isi_bool
  cases d <;> first | (cases hk; done) | (simp only [y__law_int, vcS, vc, gt, st, oneK_1, boolK_1, tyU, tyD, a1, a2, a3, a4, a5, a6, a7, b1, b2, b3, b4, b5, b6, b7, ex_some, true_and', false_and']; first | exact h | exact ⟨fun _ => h, fun z => (by cases z)⟩ | exact ⟨fun z => (by cases z), fun _ => h⟩)
theorem k_is_any_number : Keeps [] y_is_any_number N_is_any_number.length intZ := by
  rintro us O Q E ⟨d, rfl, rfl, hk, h⟩
  show vcS _ y_is_any_number E _ [some (.d d)] []
  obtain ⟨a1, a2, a3, a4, a5, a6, a7⟩ := isi_int
  obtain ⟨b1, b2, b3, b4, b5, b6, b7⟩ := isi_bool
  cases d <;> first | (cases hk; done) | (simp only [y_is_any_number, vcS, vc, gt, st, oneK_1, boolK_1, tyU, tyD, a1, a2, a3, a4, a5, a6, a7, b1, b2, b3, b4, b5, b6, b7, ex_some, true_and', false_and']; first | exact h | exact ⟨fun _ => h, fun z => (by cases z)⟩ | exact ⟨fun z => (by cases z), fun _ => h⟩)
theorem k_law_same (n : Nat) (S : ZSp) (hS : ∀ m, n = m + 1 → S = sameZ m) : Keeps [("_law_same", S)] y__law_same N__law_same.length (sameZ n) := by
  rintro us O Q E ⟨x, rfl, rfl, hx, h⟩
  show vcS _ y__law_same E _ [some (.d x), some (.d x), none, none] _
  obtain ⟨t1, t2, t3, t4, t5, t6, t7, t8, t9, t10, t11, t12, t13, t14⟩ := isi_tab
  have seq : ∀ (m : Nat) (ds : List D), n = m + 1 → ds.length ≤ 1000 → (∀ d ∈ ds, Pl m d) → ∀ F : List D → List DO → Prop, F (ds.map fun _ => .bl true) [] →
      compR (.tp (.cons (.nm 2) (.cons (.nm 3) .nil))) yesV (fun ρ O Q => vc [("_law_same", S)] (.call 0 (.cons (.var 2) (.cons (.var 3) .nil))) (fun _ _ => False) ρ O Q) [some (.d x), some (.d x), none, none] 0 (ds.map fun d => D.tup [d, d]) [] [] F := fun m ds hm hl hd F hF => by
    refine compR_map (fun _ => D.bl true) (Nat.le_refl 0) (ds.map fun d => D.tup [d, d]) (fun d hd' G hG => ?_) (by
      rw [List.map_map]
      exact hF)
    obtain ⟨e, he, rfl⟩ := List.mem_map.mp hd'
    simp only [bindT, bindTs, vc, gt, st, oneK_1, List.getElem?_cons_zero]
    refine callD0 [e, e] fun F X hF => ?_
    rw [hS m hm]
    exact ⟨e, rfl, rfl, hd e he, hF _ hG⟩
  have e2 : ∀ ds : List D, (ds.map fun _ => D.bl true) = (ds.map fun _ => true).map .bl := fun ds => by
    rw [List.map_map]
    rfl
  have e3 : ∀ ds : List D, (ds.map fun _ => true).all id = true := fun ds => by simp
  cases hx with
  | @lst m ds hl hd =>
    simp only [y__law_same, vcS, vc, gt, st, oneK_1, boolK_1, tyU, tyD, t1, t6, t7, ex_some, nrK_d, nrsK_1, brK_d, len_l, eq_i, wipeR, wipeR.rm, zip_self, Bool.false_eq_true, Bool.true_eq_false, false_implies, true_implies, true_and, and_true]
    refine ne_b ⟨(fun z => by cases z), fun _ => ne_b ⟨(fun z => by cases z), fun _ => ?_⟩⟩
    rw [decide_eq_true trivial]
    refine ⟨fun _ => ⟨_, rfl, by rw [List.length_map]; exact Nat.le_trans hl (by decide), seq m ds rfl hl hd _ ?_⟩, fun z => by cases z⟩
    simp only [newL, unb_0, oneK_1, nrsK_1]
    rw [e2]
    refine all_l ?_
    rw [e3]
    exact h
  | @tup m ds hl hd =>
    simp only [y__law_same, vcS, vc, gt, st, oneK_1, boolK_1, tyU, tyD, t2, t8, t9, ex_some, nrK_d, nrsK_1, brK_d, len_t, eq_i, wipeR, wipeR.rm, zip_self, Bool.false_eq_true, Bool.true_eq_false, false_implies, true_implies, true_and, and_true]
    refine ne_b ⟨(fun z => by cases z), fun _ => ne_b ⟨(fun z => by cases z), fun _ => ?_⟩⟩
    rw [decide_eq_true trivial]
    refine ⟨fun _ => ⟨_, rfl, by rw [List.length_map]; exact Nat.le_trans hl (by decide), seq m ds rfl hl hd _ ?_⟩, fun z => by cases z⟩
    simp only [newL, unb_0, oneK_1, nrsK_1]
    rw [e2]
    refine all_l ?_
    rw [e3]
    exact h
  | non =>
    simp only [y__law_same, vcS, vc, gt, st, oneK_1, boolK_1, tyU, tyD, t5, ex_some, nrK_d, is_nn]
    refine ⟨fun z => (by cases z), fun _ => ?_⟩
    refine ⟨fun _ => ⟨fun _ => ⟨fun _ => h, fun z => (by cases z)⟩, fun z => (by cases z)⟩, fun z => (by cases z)⟩
  | int i =>
    simp only [y__law_same, vcS, vc, gt, st, oneK_1, boolK_1, tyU, tyD, t3, t10, t12, t14, ex_some, nrK_d, is_in, eq_i, Bool.false_eq_true, Bool.true_eq_false, false_implies, true_implies, true_and, and_true]
    rw [decide_eq_true trivial]
    exact h
  | str i hi =>
    obtain ⟨u1, u2, u3, u4, u5⟩ := isi_str
    simp only [y__law_same, vcS, vc, gt, st, oneK_1, boolK_1, tyU, tyD, u1, u2, u3, u4, u5, ex_some, nrK_d, is_sn, eq_s, Bool.false_eq_true, Bool.true_eq_false, false_implies, true_implies, true_and, and_true]
    rw [decide_eq_true trivial]
    exact h
  | bl b =>
    simp only [y__law_same, vcS, vc, gt, st, oneK_1, boolK_1, tyU, tyD, t4, t11, t13, ex_some, nrK_d, is_bn, Bool.false_eq_true, Bool.true_eq_false, false_implies, true_implies, true_and, and_true]
    refine eq_b ?_
    rw [beq_self_eq_true]
    exact h
end Z

set_option Elab.async false
set_option linter.all false
set_option maxRecDepth 100000
set_option maxHeartbeats 4000000
namespace Z
open PySem PySem.Spec PyProof.Rows L2
/-- a number out of the bag -/
def numberZ : ZSp := fun us O Q _ => ∃ (ds : List D) (w : Int), us = [.o 0, .d (.int w)] ∧ O = [.lst ds] ∧ BagOk ds ∧ 0 ≤ w ∧ w < 1000 ∧ ∀ v ds', Bd 117 v → BagOk ds' → Q (.d (.int v)) [.lst ds']
theorem k_law_number : Keeps [("_law_draw", drawZ), ("_law_huge", hugeZ), ("_law_pick", pickZ)] y__law_number N__law_number.length numberZ := by
  rintro us O Q E ⟨ds, w, rfl, rfl, hb, h0, h1, h⟩
  show vcS _ y__law_number E _ [some (.o 0), some (.d (.int w))] _
  simp only [y__law_number, vcS, vc, gt, st, oneK_1, nrK_d, tosK_2, newL, mul_i, add_i, List.getElem?_cons_zero, List.getElem?_cons_succ]
  refine callO [.int 13] rfl fun F X hF => ⟨ds, _, rfl, rfl, hb, by decide, by decide, fun r ds1 a1 b1 c1 => hF _ _ ?_⟩
  simp only [oneK_1, nrK_d, eq_i, boolK_1, so]
  refine way (fun _ => ?_) fun _ => ?_
  · refine callO [] rfl fun F X hF => ⟨ds1, rfl, rfl, c1, fun v ds2 a2 b2 c2 => hF _ _ ?_⟩
    simp only [oneK_1, so]
    refine ⟨(by decide : 2 ≤ sizeLine), ?_⟩
    refine callO [.lst [.int 1, .int (-1)]] rfl fun F X hF => ⟨ds2, [.int 1, .int (-1)], .inl ⟨rfl, rfl⟩, c2, by decide, by decide, fun x ds3 hx c3 => hF _ _ ?_⟩
    have hv : Bd 117 v := by
      unfold Bd
      have : (2 : Nat) ^ 117 = 166153499473114484112975882535043072 := by decide
      omega
    have hx' : ∃ s : Int, x = .int s ∧ (s = 1 ∨ s = -1) := by
      simp only [List.mem_cons, List.not_mem_nil, or_false] at hx
      rcases hx with rfl | rfl
      · exact ⟨1, rfl, .inl rfl⟩
      · exact ⟨-1, rfl, .inr rfl⟩
    obtain ⟨s, rfl, hs⟩ := hx'
    simp only [oneK_1, nrK_d, mul_i, so]
    refine ⟨hv.ok (b := 2) (by unfold Bd; omega) (by decide), h _ _ ?_ c3⟩
    rcases hs with rfl | rfl
    · rw [Int.mul_one]; exact hv
    · rw [Int.mul_neg, Int.mul_one]; exact hv.neg
  · refine ⟨mulOk_l (by decide) (by decide), ?_⟩
    refine callO [.int (2 * w + 1)] rfl fun F X hF => ⟨ds1, _, rfl, rfl, c1, by omega, by omega, fun r2 ds2 a2 b2 c2 => hF _ _ ?_⟩
    simp only [oneK_1, nrK_d, sub_i, so]
    exact h _ _ (Bd.mono (a := 10) (by unfold Bd; omega) (by decide)) c2
theorem sz {n : Nat} (h : n ≤ 60) : n ≤ sizeLine := Nat.le_trans h (by decide)
def vecD (ns : List Int) : D := .tup (ns.map .int)
theorem good_map {α : Type} {f : α → D} {P : α → Prop} : ∀ {xs : List D}, (∀ x ∈ xs, ∃ a, x = f a ∧ P a) → ∃ as : List α, xs = as.map f ∧ ∀ a ∈ as, P a
  | [], _ => ⟨[], rfl, fun a h => by cases h⟩
  | x :: xs, h => by
    obtain ⟨a, rfl, ha⟩ := h x List.mem_cons_self
    obtain ⟨as, rfl, has⟩ := good_map fun y hy => h y (List.mem_cons_of_mem _ hy)
    exact ⟨a :: as, rfl, fun b hb => by
      rcases List.mem_cons.mp hb with rfl | hb
      · exact ha
      · exact has b hb⟩
/-- the script of a range -/
def rgD (j : Int) : List D := (List.range j.toNat).map fun (i : Nat) => D.int (0 + (i : Int))
theorem rgD_len {j : Int} (h : 0 ≤ j) : ((rgD j).length : Int) = j := by
  unfold rgD
  rw [List.length_map, List.length_range]
  omega
/-- a comprehension that draws -/
theorem draws {tg : T1} {ve : List (Option U) → List DO → ZQ → Prop} {ρ0 : List (Option U)} {Good : D → Prop} {ds0 : List D} (hb : BagOk ds0) (l : List D) {Q : List D → List DO → Prop}
    (hs : ∀ d ∈ l, ∀ ds, BagOk ds → ∀ F : ZQ, (∀ x ds', Good x → BagOk ds' → F [.d x] [.lst ds']) → bindT tg d ρ0 fun ρ1 => ve ρ1 [.lst ds] F)
    (hq : ∀ xs ds', xs.length = l.length → (∀ x ∈ xs, Good x) → BagOk ds' → Q xs [.lst ds']) : compR tg yesV ve ρ0 1 l [] [.lst ds0] Q := by
  refine compR_inv (fun i acc O => ∃ ds, O = [.lst ds] ∧ BagOk ds ∧ acc.length = i ∧ ∀ x ∈ acc, Good x) l [] _ 0 ⟨ds0, rfl, hb, rfl, fun x hx => by cases hx⟩ ?_ ?_
  · rintro j d acc O e ⟨ds, rfl, hb', hl, hg⟩ F hF
    refine hs d (List.mem_of_getElem? e) ds hb' F fun x ds' hx hb2 => hF x _ ⟨ds', rfl, hb2, by rw [List.length_append, hl]; rfl, fun y hy => ?_⟩
    rcases List.mem_append.mp hy with m | m
    · exact hg y m
    · rw [List.mem_singleton.mp m]; exact hx
  · rintro acc O ⟨ds, rfl, hb', hl, hg⟩
    exact hq acc ds (by omega) hg hb'
def vectorZ : ZSp := fun us O Q _ => ∃ (ds : List D) (w n : Int), us = [.o 0, .d (.int w), .d (.int n)] ∧ O = [.lst ds] ∧ BagOk ds ∧ 0 ≤ w ∧ w ≤ 3 ∧ 0 ≤ n ∧ n < 1000 ∧ ∀ ns ds', (ns.length : Int) = w → (∀ x ∈ ns, Bd 117 x) → BagOk ds' → Q (.d (vecD ns)) [.lst ds']
theorem unb_lst {a b : List D} : unb [.lst a] [.lst b] = [.lst b] := rfl
theorem k_law_vector : Keeps [("_law_number", numberZ)] y__law_vector N__law_vector.length vectorZ := by
  rintro us O Q E ⟨ds, w, n, rfl, rfl, hb, h0, h3, n0, n1, h⟩
  show vcS _ y__law_vector E _ [some (.o 0), some (.d (.int w)), some (.d (.int n)), none] _
  simp only [y__law_vector, vcS, vc, gt, st, oneK_1, nrK_d, wipeR, wipeR.rm, List.length_singleton]
  have e4 := rgD_len h0
  refine ⟨⟨by omega, by omega⟩, _, rfl, by show (rgD w).length ≤ _; exact sz (by omega), ?_⟩
  refine draws (Good := fun d => ∃ v, d = .int v ∧ Bd 117 v) hb (rgD w) (fun d hd ds1 hb1 F hF => ?_) fun xs ds1 hl hg hb1 => ?_
  · simp only [bindT, gt, st, oneK_1, List.getElem?_cons_zero]
    exact callO [.int n] rfl fun F X hF2 => ⟨ds1, n, rfl, rfl, hb1, n0, n1, fun v ds2 hv hb2 => hF2 _ _ (hF _ _ ⟨v, rfl, hv⟩ hb2)⟩
  · obtain ⟨ns, rfl, hn⟩ := good_map hg
    simp only [newL, oneK_1, nrsK_1, tuple_l, unb_lst]
    rw [List.length_map] at hl
    exact h ns ds1 (by omega) hn hb1
theorem comp_rows {α : Type} {tg : T1} {ve : List (Option U) → List DO → ZQ → Prop} {ρ0 : List (Option U)} (g : α → D) (f : α → D) : ∀ (rows : List α) {Q : List D → List DO → Prop} (acc : List D),
    (∀ r ∈ rows, ∀ F : ZQ, F [.d (f r)] [] → bindT tg (g r) ρ0 fun ρ1 => ve ρ1 [] F) → Q (acc ++ rows.map f) [] → compR tg yesV ve ρ0 0 (rows.map g) acc [] Q
  | [], Q, acc, hs, hq => by
    rw [List.map_nil, compR_nil]
    simpa using hq
  | r :: rows, Q, acc, hs, hq => by
    rw [List.map_cons, compR]
    refine bindT_mono (fun ρ1 z => ?_) (hs r List.mem_cons_self (fun ws O2 => oneK ws fun w => toK O2 w fun x => compR tg yesV ve ρ0 0 (rows.map g) (acc ++ [x]) (O2.take 0) Q) ?_)
    · show boolK [.d (.bl true)] _
      rw [boolK_1]
      exact ⟨fun _ => z, fun h => by cases h⟩
    · rw [oneK_1, toK_d]
      refine comp_rows g f rows (acc ++ [f r]) (fun r' hr' F hF => hs r' (List.mem_cons_of_mem _ hr') F hF) ?_
      rw [List.append_assoc]
      exact hq
/-- a comprehension over rows, places in sight -/
theorem comp_rowsO {α : Type} {tg : T1} {ve : List (Option U) → List DO → ZQ → Prop} {ρ0 : List (Option U)} {O : List DO} {n : Nat} (hn : O.length = n) (g : α → D) (f : α → D) : ∀ (rows : List α) {Q : List D → List DO → Prop} (acc : List D),
    (∀ r ∈ rows, ∀ F : ZQ, F [.d (f r)] O → bindT tg (g r) ρ0 fun ρ1 => ve ρ1 O F) → Q (acc ++ rows.map f) O → compR tg yesV ve ρ0 n (rows.map g) acc O Q
  | [], Q, acc, hs, hq => by
    rw [List.map_nil, compR_nil]
    simpa using hq
  | r :: rows, Q, acc, hs, hq => by
    rw [List.map_cons, compR]
    refine bindT_mono (fun ρ1 z => ?_) (hs r List.mem_cons_self (fun ws O2 => oneK ws fun w => toK O2 w fun x => compR tg yesV ve ρ0 n (rows.map g) (acc ++ [x]) (O2.take n) Q) ?_)
    · show boolK [.d (.bl true)] _
      rw [boolK_1]
      exact ⟨fun _ => z, fun h => by cases h⟩
    · rw [oneK_1, toK_d, ← hn, List.take_length, hn]
      refine comp_rowsO hn g f rows (acc ++ [f r]) (fun r' hr' F hF => hs r' (List.mem_cons_of_mem _ hr') F hF) ?_
      rw [List.append_assoc]
      exact hq
theorem callDE0 {P : ZSp} {O : List DO} {Q : U → List DO → Prop} {E : ZX} (ds : List D) (h : ∀ F X, (∀ d, Q (.d d) O → F (.d d) []) → (∀ x, E x O → X x []) → P (ds.map .d) [] F X) : callZ P (ds.map .d) O Q E :=
  callD ds (h _ _ (fun d q => by
    show Q (shU _ (.d d)) (O ++ [])
    rw [shU_d, List.append_nil]
    exact q) fun x q => by
    show E x ((O ++ []).take O.length)
    rw [List.append_nil, List.take_length]
    exact q)
def dropS : Nat → YS → YS
  | 0, s => s
  | n + 1, .seq _ r => dropS n r
  | _ + 1, s => s
end Z

set_option Elab.async false
set_option linter.all false
set_option maxRecDepth 100000
set_option maxHeartbeats 4000000
namespace Z
open PySem PySem.Spec PyProof.Rows L2
/-! ### whole matrices: the plain law -/
theorem sq_shape {α : Type} {w : Nat} {rows : List (List α)} (hl : rows.length = w) (hr : ∀ r ∈ rows, r.length = w) (w1 : 1 ≤ w) (w3 : w ≤ 3) :
    (∃ a, rows = [[a]]) ∨ (∃ a b c d, rows = [[a, b], [c, d]]) ∨ ∃ a b c d e f g h i, rows = [[a, b, c], [d, e, f], [g, h, i]] := by
  have w123 : w = 1 ∨ w = 2 ∨ w = 3 := by omega
  have one : ∀ {l : List α}, l.length = 1 → ∃ a, l = [a] := fun {l} h => by
    match l, h with
    | [a], _ => exact ⟨a, rfl⟩
  have two : ∀ {l : List α}, l.length = 2 → ∃ a b, l = [a, b] := fun {l} h => by
    match l, h with
    | [a, b], _ => exact ⟨a, b, rfl⟩
  have three : ∀ {l : List α}, l.length = 3 → ∃ a b c, l = [a, b, c] := fun {l} h => by
    match l, h with
    | [a, b, c], _ => exact ⟨a, b, c, rfl⟩
  rcases w123 with rfl | rfl | rfl
  · match rows, hl with
    | [x], _ =>
      obtain ⟨a, rfl⟩ := one (hr x (by simp))
      exact .inl ⟨a, rfl⟩
  · match rows, hl with
    | [x, y], _ =>
      obtain ⟨a, b, rfl⟩ := two (hr x (by simp))
      obtain ⟨c, d, rfl⟩ := two (hr y (by simp))
      exact .inr (.inl ⟨a, b, c, d, rfl⟩)
  · match rows, hl with
    | [x, y, z], _ =>
      obtain ⟨a, b, c, rfl⟩ := three (hr x (by simp))
      obtain ⟨d, e, f, rfl⟩ := three (hr y (by simp))
      obtain ⟨g, h, i, rfl⟩ := three (hr z (by simp))
      exact .inr (.inr ⟨a, b, c, d, e, f, g, h, i, rfl⟩)
def detI : List (List Int) → Int
  | [[a]] => a
  | [[a, b], [c, d]] => a * d - b * c
  | [[a, b, c], [d, e, f], [g, h, i]] => a * (e * i - f * h) - b * (d * i - f * g) + c * (d * h - e * g)
  | _ => 0
def adjI : List (List Int) → List (List Int)
  | [[a]] => [[1]]
  | [[a, b], [c, d]] => [[d, -b], [-c, a]]
  | [[a, b, c], [d, e, f], [g, h, i]] => [[e * i - f * h, c * h - b * i, b * f - c * e], [f * g - d * i, a * i - c * g, c * d - a * f], [d * h - e * g, b * g - a * h, a * e - b * d]]
  | _ => []
def Bds (k : Nat) (ms : List (List Int)) : Prop := ∀ m ∈ ms, ∀ x ∈ m, Bd k x
def SqI (w : Nat) (ms : List (List Int)) : Prop := ms.length = w ∧ ∀ m ∈ ms, m.length = w
def matD (ms : List (List Int)) : D := .tup (ms.map vecD)
def dotI (x y : List Int) : Int := ((x.zip y).map fun p => p.1 * p.2).sum
def ledI (x : List Int) (m : List (List Int)) : List Int := (List.range (m.headD []).length).map fun j => dotI x (m.map fun r => r.getD j 0)
def mulI (a b : List (List Int)) : List (List Int) := a.map fun r => ledI r b
def oneI (w : Nat) : List (List Int) := (List.range w).map fun i => (List.range w).map fun j => if i = j then 1 else 0
def sclI (c : Int) (v : List Int) : List Int := v.map (· * c)
def undoI (m : List (List Int)) : List (List Int) := (adjI m).map (sclI (detI m))
def powI (m : List (List Int)) : Nat → List (List Int)
  | 0 => oneI m.length
  | n + 1 => mulI (powI m n) m
theorem mul1 (a00 b00 : Int) : mulI [[a00]] [[b00]] = [[a00 * b00 + 0]] := rfl
theorem mul2 (a00 a01 a10 a11 b00 b01 b10 b11 : Int) : mulI [[a00, a01], [a10, a11]] [[b00, b01], [b10, b11]] = [[a00 * b00 + (a01 * b10 + 0), a00 * b01 + (a01 * b11 + 0)], [a10 * b00 + (a11 * b10 + 0), a10 * b01 + (a11 * b11 + 0)]] := rfl
theorem mul3 (a00 a01 a02 a10 a11 a12 a20 a21 a22 b00 b01 b02 b10 b11 b12 b20 b21 b22 : Int) : mulI [[a00, a01, a02], [a10, a11, a12], [a20, a21, a22]] [[b00, b01, b02], [b10, b11, b12], [b20, b21, b22]] = [[a00 * b00 + (a01 * b10 + (a02 * b20 + 0)), a00 * b01 + (a01 * b11 + (a02 * b21 + 0)), a00 * b02 + (a01 * b12 + (a02 * b22 + 0))], [a10 * b00 + (a11 * b10 + (a12 * b20 + 0)), a10 * b01 + (a11 * b11 + (a12 * b21 + 0)), a10 * b02 + (a11 * b12 + (a12 * b22 + 0))], [a20 * b00 + (a21 * b10 + (a22 * b20 + 0)), a20 * b01 + (a21 * b11 + (a22 * b21 + 0)), a20 * b02 + (a21 * b12 + (a22 * b22 + 0))]] := rfl
theorem asc1 (a0 b00 c0 : Int) : (a0 * b00 + 0) * c0 + 0 = a0 * (b00 * c0 + 0) + 0 := by grind
theorem asc2 (a0 a1 b00 b01 b10 b11 c0 c1 : Int) : (a0 * b00 + (a1 * b10 + 0)) * c0 + ((a0 * b01 + (a1 * b11 + 0)) * c1 + 0) = a0 * (b00 * c0 + (b01 * c1 + 0)) + (a1 * (b10 * c0 + (b11 * c1 + 0)) + 0) := by grind
theorem asc3 (a0 a1 a2 b00 b01 b02 b10 b11 b12 b20 b21 b22 c0 c1 c2 : Int) : (a0 * b00 + (a1 * b10 + (a2 * b20 + 0))) * c0 + ((a0 * b01 + (a1 * b11 + (a2 * b21 + 0))) * c1 + ((a0 * b02 + (a1 * b12 + (a2 * b22 + 0))) * c2 + 0)) = a0 * (b00 * c0 + (b01 * c1 + (b02 * c2 + 0))) + (a1 * (b10 * c0 + (b11 * c1 + (b12 * c2 + 0))) + (a2 * (b20 * c0 + (b21 * c1 + (b22 * c2 + 0))) + 0)) := by grind
theorem mul_sq {w : Nat} {a b : List (List Int)} (ha : SqI w a) (hb : SqI w b) (w1 : 1 ≤ w) : SqI w (mulI a b) := by
  unfold mulI ledI
  refine ⟨by rw [List.length_map]; exact ha.1, fun m hm => ?_⟩
  obtain ⟨r, hr, rfl⟩ := List.mem_map.mp hm
  rw [List.length_map, List.length_range]
  cases b with
  | nil => have := hb.1; simp at this; omega
  | cons x b => exact hb.2 x List.mem_cons_self
theorem one_sq (w : Nat) : SqI w (oneI w) := by
  unfold oneI
  refine ⟨by rw [List.length_map, List.length_range], fun m hm => ?_⟩
  obtain ⟨i, _, rfl⟩ := List.mem_map.mp hm
  rw [List.length_map, List.length_range]
theorem mul_assoc' {w : Nat} {a b c : List (List Int)} (ha : SqI w a) (hb : SqI w b) (hc : SqI w c) (w1 : 1 ≤ w) (w3 : w ≤ 3) : mulI (mulI a b) c = mulI a (mulI b c) := by
  have hw : w = 1 ∨ w = 2 ∨ w = 3 := by omega
  rcases sq_shape ha.1 ha.2 w1 w3 with ⟨a00, rfl⟩ | ⟨a00, a01, a10, a11, rfl⟩ | ⟨a00, a01, a02, a10, a11, a12, a20, a21, a22, rfl⟩
  · obtain rfl : w = 1 := ha.1.symm
    rcases sq_shape hb.1 hb.2 w1 w3 with ⟨b00, rfl⟩ | ⟨a_, b_, c_, d_, z_⟩ | ⟨a_, b_, c_, d_, e_, f_, g_, h_, i_, z_⟩
    · rcases sq_shape hc.1 hc.2 w1 w3 with ⟨c00, rfl⟩ | ⟨a_, b_, c_, d_, z_⟩ | ⟨a_, b_, c_, d_, e_, f_, g_, h_, i_, z_⟩
      · rw [mul1, mul1, mul1, mul1]
        simp only [asc1]
      · subst z_; exact absurd hc.1 (by simp)
      · subst z_; exact absurd hc.1 (by simp)
    · subst z_; exact absurd hb.1 (by simp)
    · subst z_; exact absurd hb.1 (by simp)
  · obtain rfl : w = 2 := ha.1.symm
    rcases sq_shape hb.1 hb.2 w1 w3 with ⟨a_, z_⟩ | ⟨b00, b01, b10, b11, rfl⟩ | ⟨a_, b_, c_, d_, e_, f_, g_, h_, i_, z_⟩
    · subst z_; exact absurd hb.1 (by simp)
    · rcases sq_shape hc.1 hc.2 w1 w3 with ⟨a_, z_⟩ | ⟨c00, c01, c10, c11, rfl⟩ | ⟨a_, b_, c_, d_, e_, f_, g_, h_, i_, z_⟩
      · subst z_; exact absurd hc.1 (by simp)
      · rw [mul2, mul2, mul2, mul2]
        simp only [asc2]
      · subst z_; exact absurd hc.1 (by simp)
    · subst z_; exact absurd hb.1 (by simp)
  · obtain rfl : w = 3 := ha.1.symm
    rcases sq_shape hb.1 hb.2 w1 w3 with ⟨a_, z_⟩ | ⟨a_, b_, c_, d_, z_⟩ | ⟨b00, b01, b02, b10, b11, b12, b20, b21, b22, rfl⟩
    · subst z_; exact absurd hb.1 (by simp)
    · subst z_; exact absurd hb.1 (by simp)
    · rcases sq_shape hc.1 hc.2 w1 w3 with ⟨a_, z_⟩ | ⟨a_, b_, c_, d_, z_⟩ | ⟨c00, c01, c02, c10, c11, c12, c20, c21, c22, rfl⟩
      · subst z_; exact absurd hc.1 (by simp)
      · subst z_; exact absurd hc.1 (by simp)
      · rw [mul3, mul3, mul3, mul3]
        simp only [asc3]
theorem one_mul' {w : Nat} {a : List (List Int)} (ha : SqI w a) (w1 : 1 ≤ w) (w3 : w ≤ 3) : mulI (oneI w) a = a ∧ mulI a (oneI w) = a := by
  rcases sq_shape ha.1 ha.2 w1 w3 with ⟨a00, rfl⟩ | ⟨a00, a01, a10, a11, rfl⟩ | ⟨a00, a01, a02, a10, a11, a12, a20, a21, a22, rfl⟩
  · obtain rfl : w = 1 := ha.1.symm
    rw [show oneI 1 = [[1]] from rfl, mul1, mul1]
    simp
  · obtain rfl : w = 2 := ha.1.symm
    rw [show oneI 2 = [[1, 0], [0, 1]] from rfl, mul2, mul2]
    simp
  · obtain rfl : w = 3 := ha.1.symm
    rw [show oneI 3 = [[1, 0, 0], [0, 1, 0], [0, 0, 1]] from rfl, mul3, mul3]
    simp
theorem det_mul' {w : Nat} {a b : List (List Int)} (ha : SqI w a) (hb : SqI w b) (w1 : 1 ≤ w) (w3 : w ≤ 3) : detI (mulI a b) = detI a * detI b := by
  rcases sq_shape ha.1 ha.2 w1 w3 with ⟨a00, rfl⟩ | ⟨a00, a01, a10, a11, rfl⟩ | ⟨a00, a01, a02, a10, a11, a12, a20, a21, a22, rfl⟩
  · obtain rfl : w = 1 := ha.1.symm
    rcases sq_shape hb.1 hb.2 w1 w3 with ⟨b00, rfl⟩ | ⟨a_, b_, c_, d_, z_⟩ | ⟨a_, b_, c_, d_, e_, f_, g_, h_, i_, z_⟩
    · rw [mul1]
      simp only [detI]
      grind
    · subst z_; exact absurd hb.1 (by simp)
    · subst z_; exact absurd hb.1 (by simp)
  · obtain rfl : w = 2 := ha.1.symm
    rcases sq_shape hb.1 hb.2 w1 w3 with ⟨a_, z_⟩ | ⟨b00, b01, b10, b11, rfl⟩ | ⟨a_, b_, c_, d_, e_, f_, g_, h_, i_, z_⟩
    · subst z_; exact absurd hb.1 (by simp)
    · rw [mul2]
      simp only [detI]
      grind
    · subst z_; exact absurd hb.1 (by simp)
  · obtain rfl : w = 3 := ha.1.symm
    rcases sq_shape hb.1 hb.2 w1 w3 with ⟨a_, z_⟩ | ⟨a_, b_, c_, d_, z_⟩ | ⟨b00, b01, b02, b10, b11, b12, b20, b21, b22, rfl⟩
    · subst z_; exact absurd hb.1 (by simp)
    · subst z_; exact absurd hb.1 (by simp)
    · rw [mul3]
      simp only [detI]
      grind
theorem un1l00 {a00 D : Int} (hD : a00 = D) (h1 : D * D = 1) : (1) * D * a00 + 0 = 1 := by grind
theorem un1r00 {a00 D : Int} (hD : a00 = D) (h1 : D * D = 1) : a00 * ((1) * D) + 0 = 1 := by grind
theorem un2l00 {a00 a01 a10 a11 D : Int} (hD : (a00 * a11 - a01 * a10) = D) (h1 : D * D = 1) : (a11) * D * a00 + ((-a01) * D * a10 + 0) = 1 := by grind
theorem un2l01 {a00 a01 a10 a11 D : Int} (hD : (a00 * a11 - a01 * a10) = D) (h1 : D * D = 1) : (a11) * D * a01 + ((-a01) * D * a11 + 0) = 0 := by grind
theorem un2l10 {a00 a01 a10 a11 D : Int} (hD : (a00 * a11 - a01 * a10) = D) (h1 : D * D = 1) : (-a10) * D * a00 + ((a00) * D * a10 + 0) = 0 := by grind
theorem un2l11 {a00 a01 a10 a11 D : Int} (hD : (a00 * a11 - a01 * a10) = D) (h1 : D * D = 1) : (-a10) * D * a01 + ((a00) * D * a11 + 0) = 1 := by grind
theorem un2r00 {a00 a01 a10 a11 D : Int} (hD : (a00 * a11 - a01 * a10) = D) (h1 : D * D = 1) : a00 * ((a11) * D) + (a01 * ((-a10) * D) + 0) = 1 := by grind
theorem un2r01 {a00 a01 a10 a11 D : Int} (hD : (a00 * a11 - a01 * a10) = D) (h1 : D * D = 1) : a00 * ((-a01) * D) + (a01 * ((a00) * D) + 0) = 0 := by grind
theorem un2r10 {a00 a01 a10 a11 D : Int} (hD : (a00 * a11 - a01 * a10) = D) (h1 : D * D = 1) : a10 * ((a11) * D) + (a11 * ((-a10) * D) + 0) = 0 := by grind
theorem un2r11 {a00 a01 a10 a11 D : Int} (hD : (a00 * a11 - a01 * a10) = D) (h1 : D * D = 1) : a10 * ((-a01) * D) + (a11 * ((a00) * D) + 0) = 1 := by grind
theorem un3l00 {a00 a01 a02 a10 a11 a12 a20 a21 a22 D : Int} (hD : (a00 * (a11 * a22 - a12 * a21) - a01 * (a10 * a22 - a12 * a20) + a02 * (a10 * a21 - a11 * a20)) = D) (h1 : D * D = 1) : (a11 * a22 - a12 * a21) * D * a00 + ((a02 * a21 - a01 * a22) * D * a10 + ((a01 * a12 - a02 * a11) * D * a20 + 0)) = 1 := by grind
theorem un3l01 {a00 a01 a02 a10 a11 a12 a20 a21 a22 D : Int} (hD : (a00 * (a11 * a22 - a12 * a21) - a01 * (a10 * a22 - a12 * a20) + a02 * (a10 * a21 - a11 * a20)) = D) (h1 : D * D = 1) : (a11 * a22 - a12 * a21) * D * a01 + ((a02 * a21 - a01 * a22) * D * a11 + ((a01 * a12 - a02 * a11) * D * a21 + 0)) = 0 := by grind
theorem un3l02 {a00 a01 a02 a10 a11 a12 a20 a21 a22 D : Int} (hD : (a00 * (a11 * a22 - a12 * a21) - a01 * (a10 * a22 - a12 * a20) + a02 * (a10 * a21 - a11 * a20)) = D) (h1 : D * D = 1) : (a11 * a22 - a12 * a21) * D * a02 + ((a02 * a21 - a01 * a22) * D * a12 + ((a01 * a12 - a02 * a11) * D * a22 + 0)) = 0 := by grind
theorem un3l10 {a00 a01 a02 a10 a11 a12 a20 a21 a22 D : Int} (hD : (a00 * (a11 * a22 - a12 * a21) - a01 * (a10 * a22 - a12 * a20) + a02 * (a10 * a21 - a11 * a20)) = D) (h1 : D * D = 1) : (a12 * a20 - a10 * a22) * D * a00 + ((a00 * a22 - a02 * a20) * D * a10 + ((a02 * a10 - a00 * a12) * D * a20 + 0)) = 0 := by grind
theorem un3l11 {a00 a01 a02 a10 a11 a12 a20 a21 a22 D : Int} (hD : (a00 * (a11 * a22 - a12 * a21) - a01 * (a10 * a22 - a12 * a20) + a02 * (a10 * a21 - a11 * a20)) = D) (h1 : D * D = 1) : (a12 * a20 - a10 * a22) * D * a01 + ((a00 * a22 - a02 * a20) * D * a11 + ((a02 * a10 - a00 * a12) * D * a21 + 0)) = 1 := by grind
theorem un3l12 {a00 a01 a02 a10 a11 a12 a20 a21 a22 D : Int} (hD : (a00 * (a11 * a22 - a12 * a21) - a01 * (a10 * a22 - a12 * a20) + a02 * (a10 * a21 - a11 * a20)) = D) (h1 : D * D = 1) : (a12 * a20 - a10 * a22) * D * a02 + ((a00 * a22 - a02 * a20) * D * a12 + ((a02 * a10 - a00 * a12) * D * a22 + 0)) = 0 := by grind
theorem un3l20 {a00 a01 a02 a10 a11 a12 a20 a21 a22 D : Int} (hD : (a00 * (a11 * a22 - a12 * a21) - a01 * (a10 * a22 - a12 * a20) + a02 * (a10 * a21 - a11 * a20)) = D) (h1 : D * D = 1) : (a10 * a21 - a11 * a20) * D * a00 + ((a01 * a20 - a00 * a21) * D * a10 + ((a00 * a11 - a01 * a10) * D * a20 + 0)) = 0 := by grind
theorem un3l21 {a00 a01 a02 a10 a11 a12 a20 a21 a22 D : Int} (hD : (a00 * (a11 * a22 - a12 * a21) - a01 * (a10 * a22 - a12 * a20) + a02 * (a10 * a21 - a11 * a20)) = D) (h1 : D * D = 1) : (a10 * a21 - a11 * a20) * D * a01 + ((a01 * a20 - a00 * a21) * D * a11 + ((a00 * a11 - a01 * a10) * D * a21 + 0)) = 0 := by grind
theorem un3l22 {a00 a01 a02 a10 a11 a12 a20 a21 a22 D : Int} (hD : (a00 * (a11 * a22 - a12 * a21) - a01 * (a10 * a22 - a12 * a20) + a02 * (a10 * a21 - a11 * a20)) = D) (h1 : D * D = 1) : (a10 * a21 - a11 * a20) * D * a02 + ((a01 * a20 - a00 * a21) * D * a12 + ((a00 * a11 - a01 * a10) * D * a22 + 0)) = 1 := by grind
theorem un3r00 {a00 a01 a02 a10 a11 a12 a20 a21 a22 D : Int} (hD : (a00 * (a11 * a22 - a12 * a21) - a01 * (a10 * a22 - a12 * a20) + a02 * (a10 * a21 - a11 * a20)) = D) (h1 : D * D = 1) : a00 * ((a11 * a22 - a12 * a21) * D) + (a01 * ((a12 * a20 - a10 * a22) * D) + (a02 * ((a10 * a21 - a11 * a20) * D) + 0)) = 1 := by grind
theorem un3r01 {a00 a01 a02 a10 a11 a12 a20 a21 a22 D : Int} (hD : (a00 * (a11 * a22 - a12 * a21) - a01 * (a10 * a22 - a12 * a20) + a02 * (a10 * a21 - a11 * a20)) = D) (h1 : D * D = 1) : a00 * ((a02 * a21 - a01 * a22) * D) + (a01 * ((a00 * a22 - a02 * a20) * D) + (a02 * ((a01 * a20 - a00 * a21) * D) + 0)) = 0 := by grind
theorem un3r02 {a00 a01 a02 a10 a11 a12 a20 a21 a22 D : Int} (hD : (a00 * (a11 * a22 - a12 * a21) - a01 * (a10 * a22 - a12 * a20) + a02 * (a10 * a21 - a11 * a20)) = D) (h1 : D * D = 1) : a00 * ((a01 * a12 - a02 * a11) * D) + (a01 * ((a02 * a10 - a00 * a12) * D) + (a02 * ((a00 * a11 - a01 * a10) * D) + 0)) = 0 := by grind
theorem un3r10 {a00 a01 a02 a10 a11 a12 a20 a21 a22 D : Int} (hD : (a00 * (a11 * a22 - a12 * a21) - a01 * (a10 * a22 - a12 * a20) + a02 * (a10 * a21 - a11 * a20)) = D) (h1 : D * D = 1) : a10 * ((a11 * a22 - a12 * a21) * D) + (a11 * ((a12 * a20 - a10 * a22) * D) + (a12 * ((a10 * a21 - a11 * a20) * D) + 0)) = 0 := by grind
theorem un3r11 {a00 a01 a02 a10 a11 a12 a20 a21 a22 D : Int} (hD : (a00 * (a11 * a22 - a12 * a21) - a01 * (a10 * a22 - a12 * a20) + a02 * (a10 * a21 - a11 * a20)) = D) (h1 : D * D = 1) : a10 * ((a02 * a21 - a01 * a22) * D) + (a11 * ((a00 * a22 - a02 * a20) * D) + (a12 * ((a01 * a20 - a00 * a21) * D) + 0)) = 1 := by grind
theorem un3r12 {a00 a01 a02 a10 a11 a12 a20 a21 a22 D : Int} (hD : (a00 * (a11 * a22 - a12 * a21) - a01 * (a10 * a22 - a12 * a20) + a02 * (a10 * a21 - a11 * a20)) = D) (h1 : D * D = 1) : a10 * ((a01 * a12 - a02 * a11) * D) + (a11 * ((a02 * a10 - a00 * a12) * D) + (a12 * ((a00 * a11 - a01 * a10) * D) + 0)) = 0 := by grind
theorem un3r20 {a00 a01 a02 a10 a11 a12 a20 a21 a22 D : Int} (hD : (a00 * (a11 * a22 - a12 * a21) - a01 * (a10 * a22 - a12 * a20) + a02 * (a10 * a21 - a11 * a20)) = D) (h1 : D * D = 1) : a20 * ((a11 * a22 - a12 * a21) * D) + (a21 * ((a12 * a20 - a10 * a22) * D) + (a22 * ((a10 * a21 - a11 * a20) * D) + 0)) = 0 := by grind
theorem un3r21 {a00 a01 a02 a10 a11 a12 a20 a21 a22 D : Int} (hD : (a00 * (a11 * a22 - a12 * a21) - a01 * (a10 * a22 - a12 * a20) + a02 * (a10 * a21 - a11 * a20)) = D) (h1 : D * D = 1) : a20 * ((a02 * a21 - a01 * a22) * D) + (a21 * ((a00 * a22 - a02 * a20) * D) + (a22 * ((a01 * a20 - a00 * a21) * D) + 0)) = 0 := by grind
theorem un3r22 {a00 a01 a02 a10 a11 a12 a20 a21 a22 D : Int} (hD : (a00 * (a11 * a22 - a12 * a21) - a01 * (a10 * a22 - a12 * a20) + a02 * (a10 * a21 - a11 * a20)) = D) (h1 : D * D = 1) : a20 * ((a01 * a12 - a02 * a11) * D) + (a21 * ((a02 * a10 - a00 * a12) * D) + (a22 * ((a00 * a11 - a01 * a10) * D) + 0)) = 1 := by grind
def Uni (m : List (List Int)) : Prop := detI m = 1 ∨ detI m = -1
theorem Uni.sq {m : List (List Int)} (h : Uni m) : detI m * detI m = 1 := by
  rcases h with h | h <;> rw [h] <;> rfl
theorem undo_sq {w : Nat} {a : List (List Int)} (ha : SqI w a) (w1 : 1 ≤ w) (w3 : w ≤ 3) : SqI w (undoI a) := by
  unfold undoI sclI
  rcases sq_shape ha.1 ha.2 w1 w3 with ⟨a00, rfl⟩ | ⟨a00, a01, a10, a11, rfl⟩ | ⟨a00, a01, a02, a10, a11, a12, a20, a21, a22, rfl⟩
  · obtain rfl : w = 1 := ha.1.symm
    exact ⟨rfl, by simp [adjI]⟩
  · obtain rfl : w = 2 := ha.1.symm
    exact ⟨rfl, by simp [adjI]⟩
  · obtain rfl : w = 3 := ha.1.symm
    exact ⟨rfl, by simp [adjI]⟩
theorem undo_mul {w : Nat} {a : List (List Int)} (ha : SqI w a) (w1 : 1 ≤ w) (w3 : w ≤ 3) (hu : Uni a) : mulI (undoI a) a = oneI w ∧ mulI a (undoI a) = oneI w := by
  have h1 := hu.sq
  unfold undoI sclI
  generalize hD : detI a = D at *
  rcases sq_shape ha.1 ha.2 w1 w3 with ⟨a00, rfl⟩ | ⟨a00, a01, a10, a11, rfl⟩ | ⟨a00, a01, a02, a10, a11, a12, a20, a21, a22, rfl⟩
  · obtain rfl : w = 1 := ha.1.symm
    simp only [detI] at hD
    simp only [adjI, List.map_cons, List.map_nil]
    rw [mul1, mul1]
    rw [show oneI 1 = [[1]] from rfl]
    constructor
    · rw [un1l00 hD h1]
    · rw [un1r00 hD h1]
  · obtain rfl : w = 2 := ha.1.symm
    simp only [detI] at hD
    simp only [adjI, List.map_cons, List.map_nil]
    rw [mul2, mul2]
    rw [show oneI 2 = [[1, 0], [0, 1]] from rfl]
    constructor
    · rw [un2l00 hD h1, un2l01 hD h1, un2l10 hD h1, un2l11 hD h1]
    · rw [un2r00 hD h1, un2r01 hD h1, un2r10 hD h1, un2r11 hD h1]
  · obtain rfl : w = 3 := ha.1.symm
    simp only [detI] at hD
    simp only [adjI, List.map_cons, List.map_nil]
    rw [mul3, mul3]
    rw [show oneI 3 = [[1, 0, 0], [0, 1, 0], [0, 0, 1]] from rfl]
    constructor
    · rw [un3l00 hD h1, un3l01 hD h1, un3l02 hD h1, un3l10 hD h1, un3l11 hD h1, un3l12 hD h1, un3l20 hD h1, un3l21 hD h1, un3l22 hD h1]
    · rw [un3r00 hD h1, un3r01 hD h1, un3r02 hD h1, un3r10 hD h1, un3r11 hD h1, un3r12 hD h1, un3r20 hD h1, un3r21 hD h1, un3r22 hD h1]
theorem uni_mul {w : Nat} {a b : List (List Int)} (ha : SqI w a) (hb : SqI w b) (w1 : 1 ≤ w) (w3 : w ≤ 3) (h1 : Uni a) (h2 : Uni b) : Uni (mulI a b) := by
  unfold Uni at *
  rw [det_mul' ha hb w1 w3]
  rcases h1 with h1 | h1 <;> rcases h2 with h2 | h2 <;> rw [h1, h2] <;> simp
theorem uni_one {w : Nat} (w1 : 1 ≤ w) (w3 : w ≤ 3) : Uni (oneI w) := by
  have hw : w = 1 ∨ w = 2 ∨ w = 3 := by omega
  rcases hw with rfl | rfl | rfl <;> exact .inl rfl
theorem pow_sq {w : Nat} {m : List (List Int)} (hm : SqI w m) (w1 : 1 ≤ w) : ∀ n, SqI w (powI m n)
  | 0 => by rw [powI, hm.1]; exact one_sq w
  | n + 1 => mul_sq (pow_sq hm w1 n) hm w1
theorem uni_pow {w : Nat} {m : List (List Int)} (hm : SqI w m) (w1 : 1 ≤ w) (w3 : w ≤ 3) (hu : Uni m) : ∀ n, Uni (powI m n)
  | 0 => by rw [powI, hm.1]; exact uni_one w1 w3
  | n + 1 => uni_mul (pow_sq hm w1 n) hm w1 w3 (uni_pow hm w1 w3 hu n) hu
theorem pow_add' {w : Nat} {m : List (List Int)} (hm : SqI w m) (w1 : 1 ≤ w) (w3 : w ≤ 3) (a : Nat) : ∀ b, powI m (a + b) = mulI (powI m a) (powI m b)
  | 0 => by
    rw [Nat.add_zero, show powI m 0 = oneI w from by rw [powI, hm.1], (one_mul' (pow_sq hm w1 a) w1 w3).2]
  | b + 1 => by
    rw [← Nat.add_assoc, powI, powI, pow_add' hm w1 w3 a b, mul_assoc' (pow_sq hm w1 a) (pow_sq hm w1 b) hm w1 w3]
theorem pow_1 {w : Nat} {m : List (List Int)} (hm : SqI w m) (w1 : 1 ≤ w) (w3 : w ≤ 3) : powI m 1 = m := by
  rw [powI, powI, hm.1, (one_mul' hm w1 w3).1]
theorem inv_uniq {w : Nat} {a b c : List (List Int)} (ha : SqI w a) (hb : SqI w b) (hc : SqI w c) (w1 : 1 ≤ w) (w3 : w ≤ 3) (h1 : mulI b a = oneI w) (h2 : mulI a c = oneI w) : b = c := by
  rw [← (one_mul' hb w1 w3).2, ← h2, ← mul_assoc' hb ha hc w1 w3, h1, (one_mul' hc w1 w3).1]
theorem undo_pow {w : Nat} {m : List (List Int)} (hm : SqI w m) (w1 : 1 ≤ w) (w3 : w ≤ 3) (hu : Uni m) (n : Nat) : undoI (powI m n) = powI (undoI m) n := by
  have hv := undo_sq hm w1 w3
  obtain ⟨e1, e2⟩ := undo_mul hm w1 w3 hu
  have key : ∀ n, mulI (powI (undoI m) n) (powI m n) = oneI w := by
    intro n
    induction n with
    | zero =>
      rw [powI, powI, hm.1, hv.1]
      exact (one_mul' (one_sq w) w1 w3).1
    | succ n ih =>
      have e3 : powI m (n + 1) = mulI m (powI m n) := by
        rw [Nat.add_comm, pow_add' hm w1 w3, pow_1 hm w1 w3]
      rw [e3, powI, mul_assoc' (pow_sq hv w1 n) hv (mul_sq hm (pow_sq hm w1 n) w1) w1 w3, ← mul_assoc' hv hm (pow_sq hm w1 n) w1 w3, e1, (one_mul' (pow_sq hm w1 n) w1 w3).1, ih]
  have hp := pow_sq hm w1 n
  obtain ⟨f1, f2⟩ := undo_mul hp w1 w3 (uni_pow hm w1 w3 hu n)
  exact (inv_uniq hp (pow_sq hv w1 n) (undo_sq hp w1 w3) w1 w3 (key n) f2).symm
/-! sizes -/
theorem Bds.mono {a b : Nat} {m : List (List Int)} (h : Bds a m) (l : a ≤ b) : Bds b m := fun r hr x hx => (h r hr x hx).mono l
theorem bd_sum {k : Nat} : ∀ {l : List Int}, (∀ x ∈ l, Bd k x) → Bd (k + l.length) l.sum
  | [], _ => by
    show (0 : Int).natAbs < 2 ^ _
    exact Nat.pow_pos (by decide)
  | x :: l, h => by
    rw [List.sum_cons]
    exact ((h x List.mem_cons_self).add (bd_sum fun y hy => h y (List.mem_cons_of_mem _ hy))).mono (by simp only [List.length_cons]; omega)
theorem det_bd {w k : Nat} {ms : List (List Int)} (hs : SqI w ms) (w1 : 1 ≤ w) (w3 : w ≤ 3) (h : Bds k ms) : Bd (3 * k + 3) (detI ms) := by
  rcases sq_shape hs.1 hs.2 w1 w3 with ⟨a, rfl⟩ | ⟨a, b, c, d, rfl⟩ | ⟨a, b, c, d, e, f, g, x, i, rfl⟩
  · exact (h [a] (by simp) a (by simp)).mono (by omega)
  · have h1 : ∀ y ∈ [a, b, c, d], Bd k y := fun y hy => by
      obtain ⟨m, hm, hy⟩ := List.mem_flatten.mp (show y ∈ [[a, b], [c, d]].flatten from hy)
      exact h m hm y hy
    exact (((h1 a (by simp)).mul (h1 d (by simp))).sub ((h1 b (by simp)).mul (h1 c (by simp)))).mono (by omega)
  · have h1 : ∀ y ∈ [a, b, c, d, e, f, g, x, i], Bd k y := fun y hy => by
      obtain ⟨m, hm, hy⟩ := List.mem_flatten.mp (show y ∈ [[a, b, c], [d, e, f], [g, x, i]].flatten from hy)
      exact h m hm y hy
    have q : ∀ {p y z u v : Int}, p ∈ [a, b, c, d, e, f, g, x, i] → y ∈ [a, b, c, d, e, f, g, x, i] → z ∈ [a, b, c, d, e, f, g, x, i] → u ∈ [a, b, c, d, e, f, g, x, i] → v ∈ [a, b, c, d, e, f, g, x, i] → Bd (3 * k + 1) (p * (y * z - u * v)) := fun h2 h3 h4 h5 h6 => ((h1 _ h2).mul (((h1 _ h3).mul (h1 _ h4)).sub ((h1 _ h5).mul (h1 _ h6)))).mono (by omega)
    exact (((q (by simp) (by simp) (by simp) (by simp) (by simp)).sub (q (by simp) (by simp) (by simp) (by simp) (by simp))).add (q (by simp) (by simp) (by simp) (by simp) (by simp))).mono (by omega)
theorem adj_bd {w k : Nat} {ms : List (List Int)} (hs : SqI w ms) (w1 : 1 ≤ w) (w3 : w ≤ 3) (h : Bds k ms) (hk : 1 ≤ k) : Bds (2 * k + 1) (adjI ms) := by
  rcases sq_shape hs.1 hs.2 w1 w3 with ⟨a, rfl⟩ | ⟨a, b, c, d, rfl⟩ | ⟨a, b, c, d, e, f, g, x, i, rfl⟩
  · intro m hm y hy
    simp only [adjI, List.mem_singleton] at hm
    subst hm
    rw [List.mem_singleton.mp hy]
    exact Bd.mono (a := 1) (by unfold Bd; decide) (by omega)
  · have h1 : ∀ y ∈ [a, b, c, d], Bd k y := fun y hy => by
      obtain ⟨m, hm, hy⟩ := List.mem_flatten.mp (show y ∈ [[a, b], [c, d]].flatten from hy)
      exact h m hm y hy
    intro m hm y hy
    have hy2 : y ∈ [d, -b, -c, a] := by
      have : y ∈ (adjI [[a, b], [c, d]]).flatten := List.mem_flatten.mpr ⟨m, hm, hy⟩
      exact this
    simp only [List.mem_cons, List.not_mem_nil, or_false] at hy2
    rcases hy2 with rfl | rfl | rfl | rfl
    · exact (h1 _ (by simp)).mono (by omega)
    · exact (h1 b (by simp)).neg.mono (by omega)
    · exact (h1 c (by simp)).neg.mono (by omega)
    · exact (h1 _ (by simp)).mono (by omega)
  · have h1 : ∀ y ∈ [a, b, c, d, e, f, g, x, i], Bd k y := fun y hy => by
      obtain ⟨m, hm, hy⟩ := List.mem_flatten.mp (show y ∈ [[a, b, c], [d, e, f], [g, x, i]].flatten from hy)
      exact h m hm y hy
    have q : ∀ {y z u v : Int}, y ∈ [a, b, c, d, e, f, g, x, i] → z ∈ [a, b, c, d, e, f, g, x, i] → u ∈ [a, b, c, d, e, f, g, x, i] → v ∈ [a, b, c, d, e, f, g, x, i] → Bd (2 * k + 1) (y * z - u * v) := fun h3 h4 h5 h6 => (((h1 _ h3).mul (h1 _ h4)).sub ((h1 _ h5).mul (h1 _ h6))).mono (by omega)
    intro m hm y hy
    have hy2 : y ∈ (adjI [[a, b, c], [d, e, f], [g, x, i]]).flatten := List.mem_flatten.mpr ⟨m, hm, hy⟩
    have hy3 : y ∈ [e * i - f * x, c * x - b * i, b * f - c * e, f * g - d * i, a * i - c * g, c * d - a * f, d * x - e * g, b * g - a * x, a * e - b * d] := hy2
    simp only [List.mem_cons, List.not_mem_nil, or_false] at hy3
    rcases hy3 with rfl | rfl | rfl | rfl | rfl | rfl | rfl | rfl | rfl <;> exact q (by simp) (by simp) (by simp) (by simp)
theorem dot_bd {k l : Nat} {x y : List Int} (hx : ∀ a ∈ x, Bd k a) (hy : ∀ a ∈ y, Bd l a) (h3 : x.length ≤ 3) : Bd (k + l + 3) (dotI x y) := by
  unfold dotI
  refine (bd_sum (k := k + l) fun z hz => ?_).mono (by rw [List.length_map, List.length_zip]; omega)
  obtain ⟨p, hp, rfl⟩ := List.mem_map.mp hz
  obtain ⟨m1, m2⟩ := List.of_mem_zip (a := p.1) (b := p.2) hp
  exact (hx _ m1).mul (hy _ m2)
theorem getD_bd {k w j : Nat} {m : List (List Int)} (hb : Bds k m) (hm : ∀ r ∈ m, r.length = w) (hj : j < w) : ∀ x ∈ m.map (fun r => r.getD j 0), Bd k x := fun x hx => by
  obtain ⟨r, hr, rfl⟩ := List.mem_map.mp hx
  rw [List.getD_eq_getElem?_getD, List.getElem?_eq_getElem (by rw [hm r hr]; exact hj)]
  exact hb r hr _ (List.getElem_mem _)
theorem head_sq {w : Nat} {b : List (List Int)} (hb : SqI w b) (w1 : 1 ≤ w) : (b.headD []).length = w := by
  cases b with
  | nil => have := hb.1; simp at this; omega
  | cons x b => exact hb.2 x List.mem_cons_self
theorem led_bd {w k l : Nat} {x : List Int} {b : List (List Int)} (hx : x.length = w) (hb : SqI w b) (w1 : 1 ≤ w) (w3 : w ≤ 3) (h1 : ∀ a ∈ x, Bd k a) (h2 : Bds l b) : ∀ a ∈ ledI x b, Bd (k + l + 3) a := fun a ha => by
  unfold ledI at ha
  obtain ⟨j, hj, rfl⟩ := List.mem_map.mp ha
  rw [List.mem_range, head_sq hb w1] at hj
  exact dot_bd h1 (getD_bd h2 hb.2 hj) (by omega)
theorem mul_bd {w k l : Nat} {a b : List (List Int)} (ha : SqI w a) (hb : SqI w b) (w1 : 1 ≤ w) (w3 : w ≤ 3) (h1 : Bds k a) (h2 : Bds l b) : Bds (k + l + 3) (mulI a b) := fun r hr x hx => by
  unfold mulI at hr
  obtain ⟨q, hq, rfl⟩ := List.mem_map.mp hr
  exact led_bd (ha.2 q hq) hb w1 w3 (h1 q hq) h2 x hx
theorem one_bd (w : Nat) : Bds 1 (oneI w) := fun r hr x hx => by
  unfold oneI at hr
  obtain ⟨i, _, rfl⟩ := List.mem_map.mp hr
  obtain ⟨j, _, rfl⟩ := List.mem_map.mp hx
  split <;> (unfold Bd; decide)
theorem pow_bd {w k : Nat} {m : List (List Int)} (hm : SqI w m) (w1 : 1 ≤ w) (w3 : w ≤ 3) (h : Bds k m) : ∀ n, Bds (n * (k + 3) + 1) (powI m n)
  | 0 => by rw [powI]; exact (one_bd _).mono (by omega)
  | n + 1 => (mul_bd (pow_sq hm w1 n) hm w1 w3 (pow_bd hm w1 w3 h n) h).mono (by rw [Nat.add_mul]; omega)
theorem undo_bd {w k : Nat} {m : List (List Int)} (hm : SqI w m) (w1 : 1 ≤ w) (w3 : w ≤ 3) (h : Bds k m) (hk : 1 ≤ k) (hu : Uni m) : Bds (2 * k + 2) (undoI m) := fun r hr x hx => by
  unfold undoI sclI at hr
  obtain ⟨q, hq, rfl⟩ := List.mem_map.mp hr
  obtain ⟨y, hy, rfl⟩ := List.mem_map.mp hx
  have hb := adj_bd hm w1 w3 h hk q hq y hy
  refine hb.mono (by omega) |>.le ?_
  rcases hu with e | e <;> rw [e] <;> omega
theorem uni_undo {w : Nat} {m : List (List Int)} (hm : SqI w m) (w1 : 1 ≤ w) (w3 : w ≤ 3) (hu : Uni m) : Uni (undoI m) := by
  have h := det_mul' (undo_sq hm w1 w3) hm w1 w3
  rw [(undo_mul hm w1 w3 hu).1] at h
  have h1 : detI (oneI w) = 1 := by
    have hw : w = 1 ∨ w = 2 ∨ w = 3 := by omega
    rcases hw with rfl | rfl | rfl <;> rfl
  rw [h1] at h
  unfold Uni
  rcases hu with e | e
  · rw [e] at h; left; omega
  · rw [e] at h; right; omega
/-! equality as the program sees it -/
theorem eqv_ints : ∀ (a b : List Int), PyData.eqvAll (toPs (a.map D.int)) (toPs (b.map D.int)) = decide (a = b)
  | [], [] => by simp [toPs, PyData.eqvAll]
  | [], _ :: _ => by simp [toPs, PyData.eqvAll]
  | _ :: _, [] => by simp [toPs, PyData.eqvAll]
  | x :: a, y :: b => by
    simp only [List.map_cons, toPs, toP, PyData.eqvAll, PyData.eqv, eqv_ints a b, List.cons.injEq, Bool.decide_and]
    try rfl
theorem eqv_rows : ∀ (a b : List (List Int)), PyData.eqvAll (toPs (a.map vecD)) (toPs (b.map vecD)) = decide (a = b)
  | [], [] => by simp [toPs, PyData.eqvAll]
  | [], _ :: _ => by simp [toPs, PyData.eqvAll]
  | _ :: _, [] => by simp [toPs, PyData.eqvAll]
  | x :: a, y :: b => by
    simp only [List.map_cons, toPs, toP, vecD, PyData.eqvAll, PyData.eqv, eqv_ints, List.cons.injEq, Bool.decide_and]
    rw [eqv_rows a b]
end Z

set_option Elab.async false
set_option linter.all false
set_option maxRecDepth 100000
set_option maxHeartbeats 4000000
namespace Z
open PySem PySem.Spec PyProof.Rows L2
/-! ### is it a vector, is it a matrix? -/
def isVecB (n : Int) (d : D) : Bool := match d with
  | .tup ds => decide ((ds.length : Int) = n) && ds.all isInt
  | _ => false
def isMatB (n : Int) (d : D) : Bool := match d with
  | .tup ds => decide ((ds.length : Int) = n) && ds.all (isVecB n)
  | _ => false
theorem isVecB_t {ds : List D} {n : Int} (h : (ds.length : Int) = n) : isVecB n (.tup ds) = ds.all isInt := by
  show (decide ((ds.length : Int) = n) && ds.all isInt) = _
  rw [decide_eq_true h]
  rfl
theorem isVecB_f {ds : List D} {n : Int} (h : ¬ (ds.length : Int) = n) : isVecB n (.tup ds) = false := by
  show (decide ((ds.length : Int) = n) && ds.all isInt) = _
  rw [decide_eq_false h]
  rfl
theorem isMatB_t {ds : List D} {n : Int} (h : (ds.length : Int) = n) : isMatB n (.tup ds) = ds.all (isVecB n) := by
  show (decide ((ds.length : Int) = n) && ds.all (isVecB n)) = _
  rw [decide_eq_true h]
  rfl
theorem isMatB_f {ds : List D} {n : Int} (h : ¬ (ds.length : Int) = n) : isMatB n (.tup ds) = false := by
  show (decide ((ds.length : Int) = n) && ds.all (isVecB n)) = _
  rw [decide_eq_false h]
  rfl
/-- kinds to be seen, one step deep; two steps deep -/
def Ib (d : D) : Prop := Knd d = true ∧ ∀ ds, d = .tup ds → ds.length ≤ 60 ∧ ∀ e ∈ ds, Knd e = true
def Jb (d : D) : Prop := Knd d = true ∧ ∀ ds, d = .tup ds → ds.length ≤ 60 ∧ ∀ e ∈ ds, Ib e
def isVecZ : ZSp := fun us O Q _ => ∃ (d : D) (n : Int), us = [.d d, .d (.int n)] ∧ O = [] ∧ Ib d ∧ Q (.d (.bl (isVecB n d))) []
def isMatZ : ZSp := fun us O Q _ => ∃ (d : D) (n : Int), us = [.d d, .d (.int n)] ∧ O = [] ∧ Jb d ∧ Q (.d (.bl (isMatB n d))) []
theorem k_is_vector : Keeps [("is_any_number", intZ)] y_is_vector N_is_vector.length isVecZ := by
  rintro us O Q E ⟨d, n, rfl, rfl, ⟨hk, hd⟩, h⟩
  show vcS _ y_is_vector E _ [some (.d d), some (.d (.int n)), none] []
  obtain ⟨b1, b2, b3, b4, b5, b6, b7⟩ := isi_tuple
  have other : isVecB n d = false → tyD d ≠ some "tuple" → vcS [("is_any_number", intZ)] y_is_vector E ⟨fun _ O' => Q (.d .non) O', Q, fun _ _ => False, fun _ _ => False⟩ [some (.d d), some (.d (.int n)), none] [] := fun e1 e2 => by
    rw [e1] at h
    cases d <;> first | (cases hk; done) | (exact absurd rfl e2) | (simp only [y_is_vector, vcS, vc, gt, st, oneK_1, boolK_1, tyU, tyD, b1, b2, b3, b4, b5, b6, b7, ex_some, Bool.not_false, true_and', true_implies, Bool.true_eq_false, false_implies, and_true]; exact h)
  cases d with
  | tup ds =>
    unfold y_is_vector
    rw [vs_seq, vs_ite]
    simp -implicitDefEqProofs only [vc, gt, st, oneK_1, boolK_1, tyU, tyD, b5, ex_some, Bool.not_true, false_and', nrsK_1, len_t, nrK_d, ne_i]
    refine ⟨(fun z => by cases z), fun _ => wayN (fun hl => ?_) fun hl => ?_⟩
    · rw [vs_seq, vs_ret]
      simp -implicitDefEqProofs only [vc, oneK_1]
      have e : isVecB n (.tup ds) = false := isVecB_f hl
      rw [e] at h
      exact h
    · rw [vs_nil]
      dsimp only
      have e : isVecB n (.tup ds) = ds.all isInt := isVecB_t hl
      rw [e] at h
      rw [vs_seq, vs_for]
      simp -implicitDefEqProofs only [vc, gt, st, oneK_1, brK_d]
      refine ⟨_, rfl, ?_⟩
      refine forR_inv (fun i ρ O => O = [] ∧ ∃ x, ρ = [some (.d (.tup ds)), some (.d (.int n)), x] ∧ (ds.take i).all isInt = true) _ _ _ 0 ⟨rfl, none, rfl, by simp⟩ ?_ ?_
      · rintro j d ρ O e1 ⟨rfl, x, rfl, ha⟩ N hN
        rw [Nat.zero_add] at *
        have hm := List.mem_of_getElem? e1
        have o1 := (hd ds rfl).2 d hm
        simp -implicitDefEqProofs only [bindT, st]
        rw [vs_seq, vs_ite]
        simp -implicitDefEqProofs only [vc, gt, oneK_1, List.getElem?_cons_zero]
        refine callD0 [d] fun F X hF => ⟨d, rfl, rfl, o1, hF _ ?_⟩
        cases q : isInt d with
        | true =>
          simp -implicitDefEqProofs only [boolK_1, Bool.not_true]
          refine ⟨(fun z => by cases z), fun _ => ?_⟩
          rw [vs_nil]
          dsimp only
          rw [vs_nil]
          refine hN _ _ ⟨rfl, _, rfl, ?_⟩
          rw [List.take_add_one, e1, List.all_append, ha]
          simp [q]
        | false =>
          simp -implicitDefEqProofs only [boolK_1, Bool.not_false]
          refine ⟨fun _ => ?_, (fun z => by cases z)⟩
          rw [vs_seq, vs_ret]
          simp -implicitDefEqProofs only [vc, oneK_1, unb_0]
          have e2 : ds.all isInt = false := by
            rw [List.all_eq_false]
            exact ⟨d, hm, by simp [q]⟩
          rw [e2] at h
          exact h
      · rintro ρ O ⟨rfl, x, rfl, ha⟩
        dsimp only
        rw [Nat.zero_add, List.take_length] at ha
        rw [vs_seq, vs_ret]
        simp -implicitDefEqProofs only [vc, oneK_1, unb_0]
        rw [ha] at h
        exact h
  | _ => exact other rfl (by simp [tyD])
theorem k_law_is_vector : Keeps [("_law_int", intZ)] y__law_is_vector N__law_is_vector.length isVecZ := by
  rintro us O Q E ⟨d, n, rfl, rfl, ⟨hk, hd⟩, h⟩
  show vcS _ y__law_is_vector E _ [some (.d d), some (.d (.int n)), none] []
  obtain ⟨b1, b2, b3, b4, b5, b6, b7⟩ := isi_tuple
  have other : isVecB n d = false → tyD d ≠ some "tuple" → vcS [("_law_int", intZ)] y__law_is_vector E ⟨fun _ O' => Q (.d .non) O', Q, fun _ _ => False, fun _ _ => False⟩ [some (.d d), some (.d (.int n)), none] [] := fun e1 e2 => by
    rw [e1] at h
    cases d <;> first | (cases hk; done) | (exact absurd rfl e2) | (simp only [y__law_is_vector, vcS, vc, gt, st, oneK_1, boolK_1, tyU, tyD, b1, b2, b3, b4, b5, b6, b7, ex_some, false_and', true_implies, Bool.false_eq_true, false_implies, true_and]; exact h)
  cases d with
  | tup ds =>
    simp only [y__law_is_vector, vcS, vc, gt, st, oneK_1, boolK_1, tyU, tyD, b5, ex_some, true_and', nrsK_1, nrK_d, len_t, eq_i, brK_d, wipeR, wipeR.rm]
    refine ⟨fun _ => way (fun hl => ?_) fun hl => ?_, fun z => (by cases z)⟩
    · have e : isVecB n (.tup ds) = ds.all isInt := isVecB_t hl
      rw [e] at h
      refine ⟨ds, rfl, sz (hd ds rfl).1, ?_⟩
      refine compR_map (fun d => .bl (isInt d)) (Nat.le_refl _) _ (fun d hdm F hF => ?_) ?_
      · simp only [bindT, gt, st, oneK_1, List.getElem?_cons_zero]
        have o1 := (hd ds rfl).2 d hdm
        exact callD0 [d] fun F' X hF' => ⟨d, rfl, rfl, o1, hF' _ hF⟩
      · simp only [newL, oneK_1, nrsK_1, unb_0]
        have e2 : (ds.map fun d => D.bl (isInt d)) = (ds.map isInt).map .bl := by
          rw [List.map_map]
          rfl
        rw [e2]
        refine all_l ?_
        rw [List.all_map]
        exact h
    · have e : isVecB n (.tup ds) = false := isVecB_f hl
      rw [e] at h
      exact h
  | _ => exact other rfl (by simp [tyD])
theorem k_is_matrix : Keeps [("is_vector", isVecZ)] y_is_matrix N_is_matrix.length isMatZ := by
  rintro us O Q E ⟨d, n, rfl, rfl, ⟨hk, hd⟩, h⟩
  show vcS _ y_is_matrix E _ [some (.d d), some (.d (.int n)), none] []
  obtain ⟨b1, b2, b3, b4, b5, b6, b7⟩ := isi_tuple
  have other : isMatB n d = false → tyD d ≠ some "tuple" → vcS [("is_vector", isVecZ)] y_is_matrix E ⟨fun _ O' => Q (.d .non) O', Q, fun _ _ => False, fun _ _ => False⟩ [some (.d d), some (.d (.int n)), none] [] := fun e1 e2 => by
    rw [e1] at h
    cases d <;> first | (cases hk; done) | (exact absurd rfl e2) | (simp only [y_is_matrix, vcS, vc, gt, st, oneK_1, boolK_1, tyU, tyD, b1, b2, b3, b4, b5, b6, b7, ex_some, Bool.not_false, true_and', true_implies, Bool.true_eq_false, false_implies, and_true]; exact h)
  cases d with
  | tup ds =>
    unfold y_is_matrix
    rw [vs_seq, vs_ite]
    simp -implicitDefEqProofs only [vc, gt, st, oneK_1, boolK_1, tyU, tyD, b5, ex_some, Bool.not_true, false_and', nrsK_1, len_t, nrK_d, ne_i]
    refine ⟨(fun z => by cases z), fun _ => wayN (fun hl => ?_) fun hl => ?_⟩
    · rw [vs_seq, vs_ret]
      simp -implicitDefEqProofs only [vc, oneK_1]
      have e : isMatB n (.tup ds) = false := isMatB_f hl
      rw [e] at h
      exact h
    · rw [vs_nil]
      dsimp only
      have e : isMatB n (.tup ds) = ds.all (isVecB n) := isMatB_t hl
      rw [e] at h
      rw [vs_seq, vs_for]
      simp -implicitDefEqProofs only [vc, gt, st, oneK_1, brK_d]
      refine ⟨_, rfl, ?_⟩
      refine forR_inv (fun i ρ O => O = [] ∧ ∃ x, ρ = [some (.d (.tup ds)), some (.d (.int n)), x] ∧ (ds.take i).all (isVecB n) = true) _ _ _ 0 ⟨rfl, none, rfl, by simp⟩ ?_ ?_
      · rintro j d ρ O e1 ⟨rfl, x, rfl, ha⟩ N hN
        rw [Nat.zero_add] at *
        have hm := List.mem_of_getElem? e1
        have o1 := (hd ds rfl).2 d hm
        simp -implicitDefEqProofs only [bindT, st]
        rw [vs_seq, vs_ite]
        simp -implicitDefEqProofs only [vc, gt, oneK_1, List.getElem?_cons_zero]
        refine callD0 [d, .int n] fun F X hF => ⟨d, n, rfl, rfl, o1, hF _ ?_⟩
        cases q : isVecB n d with
        | true =>
          simp -implicitDefEqProofs only [boolK_1, Bool.not_true]
          refine ⟨(fun z => by cases z), fun _ => ?_⟩
          rw [vs_nil]
          dsimp only
          rw [vs_nil]
          refine hN _ _ ⟨rfl, _, rfl, ?_⟩
          rw [List.take_add_one, e1, List.all_append, ha]
          simp [q]
        | false =>
          simp -implicitDefEqProofs only [boolK_1, Bool.not_false]
          refine ⟨fun _ => ?_, (fun z => by cases z)⟩
          rw [vs_seq, vs_ret]
          simp -implicitDefEqProofs only [vc, oneK_1, unb_0]
          have e2 : ds.all (isVecB n) = false := by
            rw [List.all_eq_false]
            exact ⟨d, hm, by simp [q]⟩
          rw [e2] at h
          exact h
      · rintro ρ O ⟨rfl, x, rfl, ha⟩
        dsimp only
        rw [Nat.zero_add, List.take_length] at ha
        rw [vs_seq, vs_ret]
        simp -implicitDefEqProofs only [vc, oneK_1, unb_0]
        rw [ha] at h
        exact h
  | _ => exact other rfl (by simp [tyD])
theorem k_law_is_matrix : Keeps [("_law_is_vector", isVecZ)] y__law_is_matrix N__law_is_matrix.length isMatZ := by
  rintro us O Q E ⟨d, n, rfl, rfl, ⟨hk, hd⟩, h⟩
  show vcS _ y__law_is_matrix E _ [some (.d d), some (.d (.int n)), none] []
  obtain ⟨b1, b2, b3, b4, b5, b6, b7⟩ := isi_tuple
  have other : isMatB n d = false → tyD d ≠ some "tuple" → vcS [("_law_is_vector", isVecZ)] y__law_is_matrix E ⟨fun _ O' => Q (.d .non) O', Q, fun _ _ => False, fun _ _ => False⟩ [some (.d d), some (.d (.int n)), none] [] := fun e1 e2 => by
    rw [e1] at h
    cases d <;> first | (cases hk; done) | (exact absurd rfl e2) | (simp only [y__law_is_matrix, vcS, vc, gt, st, oneK_1, boolK_1, tyU, tyD, b1, b2, b3, b4, b5, b6, b7, ex_some, false_and', true_implies, Bool.false_eq_true, false_implies, true_and]; exact h)
  cases d with
  | tup ds =>
    simp only [y__law_is_matrix, vcS, vc, gt, st, oneK_1, boolK_1, tyU, tyD, b5, ex_some, true_and', nrsK_1, nrK_d, len_t, eq_i, brK_d, wipeR, wipeR.rm]
    refine ⟨fun _ => way (fun hl => ?_) fun hl => ?_, fun z => (by cases z)⟩
    · have e : isMatB n (.tup ds) = ds.all (isVecB n) := isMatB_t hl
      rw [e] at h
      refine ⟨ds, rfl, sz (hd ds rfl).1, ?_⟩
      refine compR_map (fun d => .bl (isVecB n d)) (Nat.le_refl _) _ (fun d hdm F hF => ?_) ?_
      · simp only [bindT, gt, st, oneK_1, List.getElem?_cons_zero]
        have o1 := (hd ds rfl).2 d hdm
        exact callD0 [d, .int n] fun F' X hF' => ⟨d, n, rfl, rfl, o1, hF' _ hF⟩
      · simp only [newL, oneK_1, nrsK_1, unb_0]
        have e2 : (ds.map fun d => D.bl (isVecB n d)) = (ds.map (isVecB n)).map .bl := by
          rw [List.map_map]
          rfl
        rw [e2]
        refine all_l ?_
        rw [List.all_map]
        exact h
    · have e : isMatB n (.tup ds) = false := isMatB_f hl
      rw [e] at h
      exact h
  | _ => exact other rfl (by simp [tyD])
end Z

set_option Elab.async false
set_option linter.all false
set_option maxRecDepth 100000
set_option maxHeartbeats 4000000
namespace Z
open PySem PySem.Spec PyProof.Rows L2
/-! ### vectors and matrices, function by function -/
def sqD (b : Bool) (ds : List D) : D := match b with
  | true => .tup ds
  | false => .lst ds
theorem at_getD {α : Type} {f : α → D} {l : List α} {j : Nat} {d : α} (h : j < l.length) : atI (l.map f) (j : Int) = some (f (l.getD j d)) := by
  rw [at_nat (by rw [List.length_map]; exact h), List.getElem_map, List.getD_eq_getElem?_getD, List.getElem?_eq_getElem h]
  rfl
theorem unb_0' {O : List DO} : unb [] O = O := rfl
theorem len3 {α : Type} {l : List α} (h : l.length ≤ 60) {f : α → D} : (l.map f).length ≤ sizeLine := by rw [List.length_map]; exact sz h
theorem rg_len {w : Nat} (h : w ≤ 60) {f : Nat → D} : ((List.range w).map f).length ≤ sizeLine := by rw [List.length_map, List.length_range]; exact sz h
theorem tup_vec {α : Type} {l : List α} {f : α → Int} : D.tup (l.map fun x => D.int (f x)) = vecD (l.map f) := by
  unfold vecD
  rw [List.map_map]
  rfl
theorem zipT {x y : List Int} : List.zipWith (fun d e => D.tup [d, e]) (x.map D.int) (y.map D.int) = (x.zip y).map fun p => D.tup [.int p.1, .int p.2] := by
  induction x generalizing y with
  | nil => simp
  | cons a x ih => cases y with
    | nil => simp
    | cons b y => simp [ih]
def zeroZ : ZSp := fun us O Q _ => ∃ w : Nat, us = [.d (.int w)] ∧ O = [] ∧ 1 ≤ w ∧ w ≤ 60 ∧ Q (.d (vecD (List.replicate w 0))) []
theorem rep_1 {w : Nat} {d : D} : (List.replicate ((w : Nat) : Int).toNat [d]).flatten = List.replicate w d := by
  rw [Int.toNat_natCast]
  induction w with
  | zero => rfl
  | succ w ih => rw [List.replicate_succ, List.flatten_cons, ih, List.replicate_succ]; rfl
theorem mul_ti {a : List D} {k : Int} {Q : D → Prop} : binD .Mult (.tup a) (.int k) Q = ((1 ≤ k ∧ k ≤ 1000 ∧ a ≠ [] ∧ a.length ≤ 1000) ∧ Q (.tup (List.replicate k.toNat a).flatten)) := rfl
theorem k_zero : Keeps [] y_zero N_zero.length zeroZ := by
  rintro us O Q E ⟨w, rfl, rfl, w1, w3, h⟩
  show vcS _ y_zero E _ [some (.d (.int w))] []
  simp only [y_zero, vcS, vc, gt, st, oneK_1, nrK_d, tosK_1, mul_ti, rep_1]
  refine ⟨sz (by decide), ⟨by omega, by omega, by simp, by simp⟩, ?_⟩
  unfold vecD at h
  rw [List.map_replicate] at h
  exact h
def unitI (w j : Nat) : List Int := (List.range w).map fun i => if i = j then 1 else 0
def unitZ : ZSp := fun us O Q _ => ∃ w j : Nat, us = [.d (.int w), .d (.int j)] ∧ O = [] ∧ w ≤ 60 ∧ Q (.d (vecD (unitI w j))) []
theorem k_unit : Keeps [] y_unit N_unit.length unitZ := by
  rintro us O Q E ⟨w, j, rfl, rfl, w3, h⟩
  show vcS _ y_unit E _ [some (.d (.int w)), some (.d (.int j)), none] []
  simp only [y_unit, vcS, vc, gt, st, oneK_1, nrK_d, wipeR, wipeR.rm, List.length_nil, Int.toNat_natCast]
  refine ⟨⟨by omega, by omega⟩, _, rfl, rg_len w3, ?_⟩
  refine comp_rows (fun (i : Nat) => D.int (0 + (i : Int))) (fun i => D.int (if i = j then 1 else 0)) (List.range w) [] (fun i hi F hF => ?_) ?_
  · simp only [bindT, gt, st, oneK_1, nrK_d, eq_i, boolK_1]
    refine way (fun e => ?_) fun e => ?_
    · rw [if_pos (by omega)] at hF; exact hF
    · rw [if_neg (by omega)] at hF; exact hF
  · simp only [newL, unb_0, oneK_1, nrsK_1, tuple_l, List.nil_append, tup_vec]
    exact h
theorem unit_row {w i : Nat} : unitI w i = (List.range w).map fun j => if i = j then 1 else 0 := by
  unfold unitI
  refine List.map_congr_left fun j _ => ?_
  by_cases e : i = j
  · rw [if_pos e, if_pos e.symm]
  · rw [if_neg e, if_neg (Ne.symm e)]
def identityZ : ZSp := fun us O Q _ => ∃ w : Nat, us = [.d (.int w)] ∧ O = [] ∧ w ≤ 60 ∧ Q (.d (matD (oneI w))) []
theorem one_rows {w : Nat} : matD (oneI w) = D.tup ((List.range w).map fun i => vecD (unitI w i)) := by
  unfold matD oneI
  rw [List.map_map]
  congr 1
  refine List.map_congr_left fun i _ => ?_
  show vecD _ = _
  rw [unit_row]
theorem k_identity : Keeps [("unit", unitZ)] y_identity N_identity.length identityZ := by
  rintro us O Q E ⟨w, rfl, rfl, w3, h⟩
  show vcS _ y_identity E _ [some (.d (.int w)), none] []
  simp only [y_identity, vcS, vc, gt, st, oneK_1, nrK_d, wipeR, wipeR.rm, List.length_nil, Int.toNat_natCast]
  refine ⟨⟨by omega, by omega⟩, _, rfl, rg_len w3, ?_⟩
  refine comp_rows (fun (i : Nat) => D.int (0 + (i : Int))) (fun i => vecD (unitI w i)) (List.range w) [] (fun i hi F hF => ?_) ?_
  · simp only [bindT, gt, st, oneK_1, List.getElem?_cons_zero]
    rw [Int.zero_add]
    exact callD0 [.int w, .int i] fun F2 X hF2 => ⟨w, i, rfl, rfl, w3, hF2 _ hF⟩
  · simp only [newL, unb_0, oneK_1, nrsK_1, tuple_l, List.nil_append]
    rw [one_rows] at h
    exact h
theorem k_law_one : Keeps [] y__law_one N__law_one.length identityZ := by
  rintro us O Q E ⟨w, rfl, rfl, w3, h⟩
  show vcS _ y__law_one E _ [some (.d (.int w)), none, none] []
  simp only [y__law_one, vcS, vc, gt, st, oneK_1, nrK_d, wipeR, wipeR.rm, List.length_nil, Int.toNat_natCast]
  refine ⟨⟨by omega, by omega⟩, _, rfl, rg_len w3, ?_⟩
  refine comp_rows (fun (i : Nat) => D.int (0 + (i : Int))) (fun i => vecD (unitI w i)) (List.range w) [] (fun i hi F hF => ?_) ?_
  · simp only [bindT, gt, st, oneK_1, nrK_d, wipeR, wipeR.rm, Int.toNat_natCast]
    refine ⟨⟨by omega, by omega⟩, _, rfl, rg_len w3, ?_⟩
    refine comp_rows (fun (j : Nat) => D.int (0 + (j : Int))) (fun j => D.int (if i = j then 1 else 0)) (List.range w) [] (fun j hj F2 hF2 => ?_) ?_
    · simp only [bindT, gt, st, oneK_1, nrK_d, eq_i, nrsK_1, int_b]
      by_cases e : i = j
      · rw [if_pos e] at hF2
        rw [if_pos (decide_eq_true (by omega))]
        exact hF2
      · rw [if_neg e] at hF2
        rw [if_neg (by rw [decide_eq_false (by omega)]; decide)]
        exact hF2
    · simp only [newL, unb_0, oneK_1, nrsK_1, tuple_l, List.nil_append, tup_vec]
      rw [unit_row] at hF
      exact hF
  · simp only [newL, unb_0, oneK_1, nrsK_1, tuple_l, List.nil_append]
    rw [one_rows] at h
    exact h
def zipI (f : Int → Int → Int) (x y : List Int) : List Int := (x.zip y).map fun p => f p.1 p.2
def v2Z (f : Int → Int → Int) : ZSp := fun us O Q _ => ∃ x y : List Int, us = [.d (vecD x), .d (vecD y)] ∧ O = [] ∧ x.length ≤ 60 ∧ Q (.d (vecD (zipI f x y))) []
theorem zl {x y : List Int} {f : Int × Int → D} (h : x.length ≤ 60) : ((x.zip y).map f).length ≤ sizeLine := by rw [List.length_map, List.length_zip]; exact sz (by omega)
theorem k_vector_plus : Keeps [] y_vector_plus N_vector_plus.length (v2Z (· + ·)) := by
  rintro us O Q E ⟨x, y, rfl, rfl, hl, h⟩
  show vcS _ y_vector_plus E _ [some (.d (vecD x)), some (.d (vecD y)), none, none] []
  simp only [y_vector_plus, vecD, vcS, vc, gt, st, oneK_1, brK_d, wipeR, wipeR.rm, zipT]
  refine ⟨_, rfl, zl hl, ?_⟩
  refine comp_rows (fun p : Int × Int => D.tup [.int p.1, .int p.2]) (fun p => D.int (p.1 + p.2)) (x.zip y) [] (fun p hp F hF => ?_) ?_
  · simp only [bindT, bindTs, gt, st, oneK_1, nrK_d, add_i]
    exact hF
  · simp only [newL, unb_0, oneK_1, nrsK_1, tuple_l, List.nil_append, tup_vec]
    exact h
theorem k_vector_minus : Keeps [] y_vector_minus N_vector_minus.length (v2Z (· - ·)) := by
  rintro us O Q E ⟨x, y, rfl, rfl, hl, h⟩
  show vcS _ y_vector_minus E _ [some (.d (vecD x)), some (.d (vecD y)), none, none] []
  simp only [y_vector_minus, vecD, vcS, vc, gt, st, oneK_1, brK_d, wipeR, wipeR.rm, zipT]
  refine ⟨_, rfl, zl hl, ?_⟩
  refine comp_rows (fun p : Int × Int => D.tup [.int p.1, .int p.2]) (fun p => D.int (p.1 - p.2)) (x.zip y) [] (fun p hp F hF => ?_) ?_
  · simp only [bindT, bindTs, gt, st, oneK_1, nrK_d, sub_i]
    exact hF
  · simp only [newL, unb_0, oneK_1, nrsK_1, tuple_l, List.nil_append, tup_vec]
    exact h
def vtimesZ : ZSp := fun us O Q _ => ∃ (x : List Int) (c : Int) (k l : Nat), us = [.d (vecD x), .d (.int c)] ∧ O = [] ∧ x.length ≤ 60 ∧ (∀ a ∈ x, Bd k a) ∧ Bd l c ∧ k + l ≤ 900000 ∧ Q (.d (vecD (sclI c x))) []
theorem k_vector_times : Keeps [] y_vector_times N_vector_times.length vtimesZ := by
  rintro us O Q E ⟨x, c, k, l, rfl, rfl, hl, h1, h2, hk, h⟩
  show vcS _ y_vector_times E _ [some (.d (vecD x)), some (.d (.int c)), none] []
  simp only [y_vector_times, vecD, vcS, vc, gt, st, oneK_1, brK_d, wipeR, wipeR.rm]
  refine ⟨_, rfl, len3 hl, ?_⟩
  refine comp_rows D.int (fun a => D.int (a * c)) x [] (fun a ha F hF => ?_) ?_
  · simp only [bindT, bindTs, gt, st, oneK_1, nrK_d, mul_i]
    exact ⟨(h1 a ha).ok h2 (by omega), hF⟩
  · simp only [newL, unb_0, oneK_1, nrsK_1, tuple_l, List.nil_append, tup_vec]
    exact h
def dotZ : ZSp := fun us O Q _ => ∃ (x y : List Int) (b : Bool) (k l : Nat), us = [.d (vecD x), .d (sqD b (y.map D.int))] ∧ O = [] ∧ x.length ≤ 60 ∧ (∀ a ∈ x, Bd k a) ∧ (∀ a ∈ y, Bd l a) ∧ k + l ≤ 900000 ∧ Q (.d (.int (dotI x y))) []
theorem sum_i {ns : List Int} {Q : D → Prop} (h : Q (.int ns.sum)) : BF.op .sum [.lst (ns.map .int)] Q := ⟨ns, rfl, h⟩
theorem lst_ints {α : Type} {l : List α} {f : α → Int} : (l.map fun x => D.int (f x)) = (l.map f).map D.int := by rw [List.map_map]; rfl
theorem k_dot : Keeps [] y_dot N_dot.length dotZ := by
  rintro us O Q E ⟨x, y, b, k, l, rfl, rfl, hl, h1, h2, hk, h⟩
  show vcS _ y_dot E _ [some (.d (vecD x)), some (.d (sqD b (y.map D.int))), none, none] []
  have turn : compR (T1.tp (T1.cons (T1.nm 2) (T1.cons (T1.nm 3) T1.nil))) yesV (vc [] (Y.bin .Mult (Y.var 2) (Y.var 3)) fun _ _ => False) [some (.d (vecD x)), some (.d (sqD b (y.map D.int))), none, none] 0 ((x.zip y).map fun p => D.tup [.int p.1, .int p.2]) [] [] fun acc O2 => newL false acc (unb [] O2) fun us O1 => oneK us fun u => nrsK O1 [u] fun ds => BF.op .sum ds fun z => Q (.d z) O1 := by
    refine comp_rows (fun p : Int × Int => D.tup [.int p.1, .int p.2]) (fun p => D.int (p.1 * p.2)) (x.zip y) [] (fun p hp F hF => ?_) ?_
    · obtain ⟨m1, m2⟩ := List.of_mem_zip (a := p.1) (b := p.2) hp
      simp only [bindT, bindTs, vc, gt, st, oneK_1, nrK_d, mul_i]
      exact ⟨(h1 _ m1).ok (h2 _ m2) (by omega), hF⟩
    · simp only [newL, unb_0, oneK_1, nrsK_1, List.nil_append, lst_ints]
      exact sum_i h
  cases b <;> (simp only [y_dot, vecD, sqD, vcS, vc, gt, st, oneK_1, brK_d, wipeR, wipeR.rm, zipT]; exact ⟨_, rfl, zl hl, turn⟩)
def ledZ : ZSp := fun us O Q _ => ∃ (x : List Int) (m : List (List Int)) (w k l : Nat), us = [.d (vecD x), .d (matD m)] ∧ O = [] ∧ 1 ≤ w ∧ w ≤ 3 ∧ x.length = w ∧ SqI w m ∧ (∀ a ∈ x, Bd k a) ∧ Bds l m ∧ k + l ≤ 900000 ∧ Q (.d (vecD (ledI x m))) []
theorem mat_0 {m : List (List Int)} {w : Nat} (hm : SqI w m) (w1 : 1 ≤ w) : atI (m.map vecD) 0 = some (vecD (m.headD [])) := by
  cases m with
  | nil => have := hm.1; simp at this; omega
  | cons r m => exact at_0
theorem k_led : Keeps [("dot", dotZ)] y_led N_led.length ledZ := by
  rintro us O Q E ⟨x, m, w, k, l, rfl, rfl, w1, w3, hx, hm, h1, h2, hk, h⟩
  show vcS _ y_led E _ [some (.d (vecD x)), some (.d (matD m)), none, none] []
  have hh := head_sq hm w1
  simp only [y_led, matD, vcS, vc, gt, st, oneK_1, nrK_d, ix_t, mat_0 hm w1, ex_some, nrsK_1, wipeR, wipeR.rm, List.length_nil]
  rw [show vecD (m.headD []) = .tup ((m.headD []).map D.int) from rfl]
  simp only [len_t, nrK_d, List.length_map, Int.toNat_natCast]
  rw [hh]
  refine ⟨⟨by omega, by omega⟩, _, rfl, rg_len (by omega), ?_⟩
  refine comp_rows (fun (i : Nat) => D.int (0 + (i : Int))) (fun j => D.int (dotI x (m.map fun r => r.getD j 0))) (List.range w) [] (fun j hj F hF => ?_) ?_
  · rw [List.mem_range] at hj
    simp only [bindT, gt, st, oneK_1, brK_d, wipeR, wipeR.rm]
    refine ⟨_, rfl, len3 (by rw [hm.1]; omega), ?_⟩
    refine comp_rows vecD (fun r => D.int (r.getD j 0)) m [] (fun r hr F2 hF2 => ?_) ?_
    · simp only [bindT, gt, st, oneK_1, nrK_d, vecD, ix_t]
      rw [Int.zero_add]
      exact ⟨_, at_getD (d := 0) (by rw [hm.2 r hr]; exact hj), hF2⟩
    · simp only [newL, unb_0, oneK_1, List.nil_append, lst_ints, List.getElem?_cons_zero]
      refine callD0 [vecD x, sqD false ((m.map fun r => r.getD j 0).map D.int)] fun F2 X hF2 => ?_
      exact ⟨x, m.map fun r => r.getD j 0, false, k, l, rfl, rfl, by omega, h1, getD_bd h2 hm.2 hj, hk, hF2 _ hF⟩
  · simp only [newL, unb_0, oneK_1, nrsK_1, tuple_l, List.nil_append, tup_vec]
    unfold ledI at h
    rw [hh] at h
    exact h
def mtimesZ : ZSp := fun us O Q _ => ∃ (a b : List (List Int)) (w k l : Nat), us = [.d (matD a), .d (matD b)] ∧ O = [] ∧ 1 ≤ w ∧ w ≤ 3 ∧ SqI w a ∧ SqI w b ∧ Bds k a ∧ Bds l b ∧ k + l ≤ 900000 ∧ Q (.d (matD (mulI a b))) []
theorem k_matrix_times : Keeps [("led", ledZ)] y_matrix_times N_matrix_times.length mtimesZ := by
  rintro us O Q E ⟨a, b, w, k, l, rfl, rfl, w1, w3, ha, hb, h1, h2, hk, h⟩
  show vcS _ y_matrix_times E _ [some (.d (matD a)), some (.d (matD b)), none] []
  rw [show matD a = .tup (a.map vecD) from rfl]
  simp only [y_matrix_times, vcS, vc, gt, st, oneK_1, brK_d, wipeR, wipeR.rm]
  refine ⟨_, rfl, len3 (by rw [ha.1]; omega), ?_⟩
  refine comp_rows vecD (fun r => vecD (ledI r b)) a [] (fun r hr F hF => ?_) ?_
  · simp only [bindT, gt, st, oneK_1, List.getElem?_cons_zero]
    exact callD0 [vecD r, matD b] fun F2 X hF2 => ⟨r, b, w, k, l, rfl, rfl, w1, w3, ha.2 r hr, hb, h1 r hr, h2, hk, hF2 _ hF⟩
  · simp only [newL, unb_0, oneK_1, nrsK_1, tuple_l, List.nil_append]
    rw [show matD (mulI a b) = .tup (a.map fun r => vecD (ledI r b)) from by unfold matD mulI; rw [List.map_map]; rfl] at h
    exact h
theorem k_law_mul : Keeps [("_law_lead", ledZ)] y__law_mul N__law_mul.length mtimesZ := by
  rintro us O Q E ⟨a, b, w, k, l, rfl, rfl, w1, w3, ha, hb, h1, h2, hk, h⟩
  show vcS _ y__law_mul E _ [some (.d (matD a)), some (.d (matD b)), none] []
  rw [show matD a = .tup (a.map vecD) from rfl]
  simp only [y__law_mul, vcS, vc, gt, st, oneK_1, brK_d, wipeR, wipeR.rm]
  refine ⟨_, rfl, len3 (by rw [ha.1]; omega), ?_⟩
  refine comp_rows vecD (fun r => vecD (ledI r b)) a [] (fun r hr F hF => ?_) ?_
  · simp only [bindT, gt, st, oneK_1, List.getElem?_cons_zero]
    exact callD0 [vecD r, matD b] fun F2 X hF2 => ⟨r, b, w, k, l, rfl, rfl, w1, w3, ha.2 r hr, hb, h1 r hr, h2, hk, hF2 _ hF⟩
  · simp only [newL, unb_0, oneK_1, nrsK_1, tuple_l, List.nil_append]
    rw [show matD (mulI a b) = .tup (a.map fun r => vecD (ledI r b)) from by unfold matD mulI; rw [List.map_map]; rfl] at h
    exact h
theorem dot_range {w j : Nat} {x : List Int} {m : List (List Int)} (hx : x.length = w) (hm : m.length = w) : ((List.range w).map fun k => x.getD k 0 * (m.getD k []).getD j 0).sum = dotI x (m.map fun r => r.getD j 0) := by
  unfold dotI
  congr 1
  refine List.ext_getElem? fun i => ?_
  by_cases hi : i < w
  · rw [List.getElem?_map, List.getElem?_range hi, List.getElem?_map, List.getElem?_eq_getElem (by rw [List.length_zip, List.length_map]; omega), List.getElem_zip, List.getElem_map]
    simp only [Option.map_some]
    rw [List.getD_eq_getElem?_getD, List.getElem?_eq_getElem (by omega), List.getD_eq_getElem?_getD (l := m), List.getElem?_eq_getElem (by omega)]
    rfl
  · rw [List.getElem?_eq_none (by rw [List.length_map, List.length_range]; omega), List.getElem?_eq_none (by rw [List.length_map, List.length_zip, List.length_map]; omega)]
theorem k_law_lead : Keeps [] y__law_lead N__law_lead.length ledZ := by
  rintro us O Q E ⟨x, m, w, k, l, rfl, rfl, w1, w3, hx, hm, h1, h2, hk, h⟩
  show vcS _ y__law_lead E _ [some (.d (vecD x)), some (.d (matD m)), none, none] []
  have hh := head_sq hm w1
  simp only [y__law_lead, vecD, matD, vcS, vc, gt, st, oneK_1, nrK_d, nrsK_1, len_t, wipeR, wipeR.rm, List.length_nil, List.length_map, Int.toNat_natCast]
  rw [hx]
  refine ⟨⟨by omega, by omega⟩, _, rfl, rg_len (by omega), ?_⟩
  refine comp_rows (fun (i : Nat) => D.int (0 + (i : Int))) (fun j => D.int (dotI x (m.map fun r => r.getD j 0))) (List.range w) [] (fun j hj F hF => ?_) ?_
  · rw [List.mem_range] at hj
    simp only [bindT, gt, st, oneK_1, nrK_d, nrsK_1, len_t, wipeR, wipeR.rm, List.length_map, List.length_nil, Int.toNat_natCast]
    rw [hx]
    refine ⟨⟨by omega, by omega⟩, _, rfl, rg_len (by omega), ?_⟩
    refine comp_rows (fun (i : Nat) => D.int (0 + (i : Int))) (fun i => D.int (x.getD i 0 * (m.getD i []).getD j 0)) (List.range w) [] (fun i hi F2 hF2 => ?_) ?_
    · rw [List.mem_range] at hi
      simp only [bindT, gt, st, oneK_1, nrK_d, ix_t]
      rw [Int.zero_add, Int.zero_add]
      refine ⟨_, at_getD (d := 0) (by omega), _, at_getD (d := []) (by rw [hm.1]; omega), ?_⟩
      have hr : m.getD i [] ∈ m := by
        rw [List.getD_eq_getElem?_getD, List.getElem?_eq_getElem (by rw [hm.1]; exact hi)]
        exact List.getElem_mem _
      rw [show ixD (vecD (m.getD i [])) (.int (j : Int)) = ixD (.tup ((m.getD i []).map D.int)) (.int (j : Int)) from rfl]
      refine ⟨_, at_getD (d := 0) (by rw [hm.2 _ hr]; exact hj), ?_⟩
      simp only [mul_i]
      refine ⟨?_, hF2⟩
      have b1 : Bd k (x.getD i 0) := by
        rw [List.getD_eq_getElem?_getD, List.getElem?_eq_getElem (by omega)]
        exact h1 _ (List.getElem_mem _)
      have b2 : Bd l ((m.getD i []).getD j 0) := by
        rw [List.getD_eq_getElem?_getD, List.getElem?_eq_getElem (by rw [hm.2 _ hr]; exact hj)]
        exact h2 _ hr _ (List.getElem_mem _)
      exact b1.ok b2 (by omega)
    · simp only [newL, unb_0, oneK_1, nrsK_1, List.nil_append, lst_ints]
      refine sum_i ?_
      rw [dot_range (by omega) hm.1]
      exact hF
  · simp only [newL, unb_0, oneK_1, nrsK_1, tuple_l, List.nil_append, tup_vec]
    unfold ledI at h
    rw [hh] at h
    exact h
def detZ : ZSp := fun us O Q _ => ∃ (ms : List (List Int)) (w k : Nat), us = [.d (matD ms)] ∧ O = [] ∧ SqI w ms ∧ 1 ≤ w ∧ w ≤ 3 ∧ Bds k ms ∧ k ≤ 100000 ∧ Q (.d (.int (detI ms))) []
theorem dec_e {i j : Int} (h : i = j) : decide (i = j) = true := decide_eq_true h
theorem dec_n {i j : Int} (h : i ≠ j) : decide (i = j) = false := decide_eq_false h
theorem k_determinant : Keeps [] y_determinant N_determinant.length detZ := by
  rintro us O Q E ⟨ms, w, k, rfl, rfl, hs, w1, w3, hb, hk, h⟩
  show vcS _ y_determinant E _ [some (.d (matD ms)), none, none, none, none, none, none, none, none, none] []
  rcases sq_shape hs.1 hs.2 w1 w3 with ⟨a, rfl⟩ | ⟨a, b, c, d, rfl⟩ | ⟨a, b, c, d, e, f, g, x, i, rfl⟩
  · simp only [y_determinant, vcS, vc, gt, st, oneK_1, nrsK_1, nrK_d, len_t, eq_i, boolK_1, matD, vecD, List.map_cons, List.map_nil, List.length_cons, List.length_nil, ix_t, at_0, ex_some]
    exact ⟨fun _ => h, fun z => absurd z (by decide)⟩
  · have h1 : ∀ y ∈ [a, b, c, d], Bd k y := fun y hy => by
      obtain ⟨m, hm, hy⟩ := List.mem_flatten.mp (show y ∈ [[a, b], [c, d]].flatten from hy)
      exact hb m hm y hy
    have ok : ∀ {y z : Int}, y ∈ [a, b, c, d] → z ∈ [a, b, c, d] → MulOk y z := fun h2 h3 => (h1 _ h2).ok (h1 _ h3) (by omega)
    simp only [y_determinant, vcS, vc, gt, st, oneK_1, nrsK_1, nrK_d, len_t, eq_i, boolK_1, matD, vecD, List.map_cons, List.map_nil, List.length_cons, List.length_nil, toK_d, bindT, bindTs, mul_i, sub_i]
    exact ⟨fun z => absurd z (by decide), fun _ => ⟨fun _ => ⟨ok (by simp) (by simp), ok (by simp) (by simp), h⟩, fun z => absurd z (by decide)⟩⟩
  · have h1 : ∀ y ∈ [a, b, c, d, e, f, g, x, i], Bd k y := fun y hy => by
      obtain ⟨m, hm, hy⟩ := List.mem_flatten.mp (show y ∈ [[a, b, c], [d, e, f], [g, x, i]].flatten from hy)
      exact hb m hm y hy
    have ok : ∀ {y z : Int}, y ∈ [a, b, c, d, e, f, g, x, i] → z ∈ [a, b, c, d, e, f, g, x, i] → MulOk y z := fun h2 h3 => (h1 _ h2).ok (h1 _ h3) (by omega)
    have ok3 : ∀ {p y z u v : Int}, p ∈ [a, b, c, d, e, f, g, x, i] → y ∈ [a, b, c, d, e, f, g, x, i] → z ∈ [a, b, c, d, e, f, g, x, i] → u ∈ [a, b, c, d, e, f, g, x, i] → v ∈ [a, b, c, d, e, f, g, x, i] → MulOk p (y * z - u * v) := fun h2 h3 h4 h5 h6 => (h1 _ h2).ok (((h1 _ h3).mul (h1 _ h4)).sub ((h1 _ h5).mul (h1 _ h6))) (by omega)
    simp only [y_determinant, vcS, vc, gt, st, oneK_1, nrsK_1, nrK_d, len_t, eq_i, boolK_1, matD, vecD, List.map_cons, List.map_nil, List.length_cons, List.length_nil, toK_d, bindT, bindTs, mul_i, sub_i, add_i]
    refine ⟨fun z => absurd z (by decide), fun _ => ⟨fun z => absurd z (by decide), fun _ => ?_⟩⟩
    exact ⟨ok (by simp) (by simp), ok (by simp) (by simp), ok3 (by simp) (by simp) (by simp) (by simp) (by simp), ok (by simp) (by simp), ok (by simp) (by simp), ok3 (by simp) (by simp) (by simp) (by simp) (by simp), ok (by simp) (by simp), ok (by simp) (by simp), ok3 (by simp) (by simp) (by simp) (by simp) (by simp), h⟩
def adjZ : ZSp := fun us O Q _ => ∃ (ms : List (List Int)) (w k : Nat), us = [.d (matD ms)] ∧ O = [] ∧ SqI w ms ∧ 1 ≤ w ∧ w ≤ 3 ∧ Bds k ms ∧ k ≤ 100000 ∧ Q (.d (matD (adjI ms))) []
theorem k_adjugate : Keeps [] y_adjugate N_adjugate.length adjZ := by
  rintro us O Q E ⟨ms, w, k, rfl, rfl, hs, w1, w3, hb, hk, h⟩
  show vcS _ y_adjugate E _ [some (.d (matD ms)), none, none, none, none, none, none, none, none, none] []
  have s2 : ∀ {x y : D}, [x, y].length ≤ sizeLine := fun {x y} => sz (Nat.le_of_ble_eq_true rfl)
  have s3 : ∀ {x y z : D}, [x, y, z].length ≤ sizeLine := fun {x y z} => sz (Nat.le_of_ble_eq_true rfl)
  have s1 : ∀ {x : D}, [x].length ≤ sizeLine := fun {x} => sz (Nat.le_of_ble_eq_true rfl)
  rcases sq_shape hs.1 hs.2 w1 w3 with ⟨a, rfl⟩ | ⟨a, b, c, d, rfl⟩ | ⟨a, b, c, d, e, f, g, x, i, rfl⟩
  · simp only [y_adjugate, vcS, vc, gt, st, oneK_1, nrsK_1, nrK_d, len_t, eq_i, boolK_1, matD, vecD, List.map_cons, List.map_nil, List.length_cons, List.length_nil, tosK_1]
    exact ⟨fun _ => ⟨sz (by decide), sz (by decide), h⟩, fun z => absurd z (by decide)⟩
  · simp only [y_adjugate, vcS, vc, gt, st, oneK_1, nrsK_1, nrK_d, len_t, eq_i, boolK_1, matD, vecD, List.map_cons, List.map_nil, List.length_cons, List.length_nil, toK_d, bindT, bindTs, tosK_2]
    exact ⟨fun z => absurd z (by decide), fun _ => ⟨fun _ => ⟨sz (by decide), sz (by decide), sz (by decide), h⟩, fun z => absurd z (by decide)⟩⟩
  · have h1 : ∀ y ∈ [a, b, c, d, e, f, g, x, i], Bd k y := fun y hy => by
      obtain ⟨m, hm, hy⟩ := List.mem_flatten.mp (show y ∈ [[a, b, c], [d, e, f], [g, x, i]].flatten from hy)
      exact hb m hm y hy
    have ok : ∀ {y z : Int}, y ∈ [a, b, c, d, e, f, g, x, i] → z ∈ [a, b, c, d, e, f, g, x, i] → MulOk y z := fun h2 h3 => (h1 _ h2).ok (h1 _ h3) (by omega)
    simp only [y_adjugate, vcS, vc, gt, st, oneK_1, nrsK_1, nrK_d, len_t, eq_i, boolK_1, matD, vecD, List.map_cons, List.map_nil, List.length_cons, List.length_nil, toK_d, bindT, bindTs, mul_i, sub_i, tosK_3]
    refine ⟨fun z => absurd z (by decide), fun _ => ⟨fun z => absurd z (by decide), fun _ => ?_⟩⟩
    exact ⟨ok (by simp) (by simp), ok (by simp) (by simp), ok (by simp) (by simp), ok (by simp) (by simp), ok (by simp) (by simp), ok (by simp) (by simp), sz (by decide), ok (by simp) (by simp), ok (by simp) (by simp), ok (by simp) (by simp), ok (by simp) (by simp), ok (by simp) (by simp), ok (by simp) (by simp), sz (by decide), ok (by simp) (by simp), ok (by simp) (by simp), ok (by simp) (by simp), ok (by simp) (by simp), ok (by simp) (by simp), ok (by simp) (by simp), sz (by decide), sz (by decide), h⟩
end Z

set_option Elab.async false
set_option linter.all false
set_option maxRecDepth 100000
set_option maxHeartbeats 4000000
namespace Z
open PySem PySem.Spec PyProof.Rows L2
/-! ### the law's determinant, minors and inverse -/
def ent (m : List (List Int)) (i j : Nat) : Int := (m.getD i []).getD j 0
theorem row_mem {m : List (List Int)} {w i : Nat} (hm : SqI w m) (hi : i < w) : m.getD i [] ∈ m := by
  rw [List.getD_eq_getElem?_getD, List.getElem?_eq_getElem (by rw [hm.1]; exact hi)]
  exact List.getElem_mem _
theorem at_row {m : List (List Int)} {w i : Nat} (hm : SqI w m) (hi : i < w) : atI (m.map vecD) (i : Int) = some (D.tup ((m.getD i []).map D.int)) := at_getD (d := []) (by rw [hm.1]; exact hi)
theorem at_ent {m : List (List Int)} {w i j : Nat} (hm : SqI w m) (hi : i < w) (hj : j < w) : atI ((m.getD i []).map D.int) (j : Int) = some (D.int (ent m i j)) := at_getD (d := 0) (by rw [hm.2 _ (row_mem hm hi)]; exact hj)
theorem ent_bd {k : Nat} {m : List (List Int)} {w i j : Nat} (hm : SqI w m) (hb : Bds k m) (hi : i < w) (hj : j < w) : Bd k (ent m i j) := by
  unfold ent
  rw [List.getD_eq_getElem?_getD, List.getElem?_eq_getElem (by rw [hm.2 _ (row_mem hm hi)]; exact hj)]
  exact hb _ (row_mem hm hi) _ (List.getElem_mem _)
theorem fm3 (j c : Nat) : Int.fmod ((j : Int) + (c : Int)) 3 = (((j + c) % 3 : Nat) : Int) := by
  rw [Int.fmod_eq_emod_of_nonneg _ (by decide)]
  omega
theorem fm3_1 (j : Nat) : Int.fmod ((j : Int) + 1) 3 = (((j + 1) % 3 : Nat) : Int) := fm3 j 1
theorem fm3_2 (j : Nat) : Int.fmod ((j : Int) + 2) 3 = (((j + 2) % 3 : Nat) : Int) := fm3 j 2
theorem lt3 (j : Nat) : j % 3 < 3 := Nat.mod_lt _ (by decide)
def minI (m : List (List Int)) (j k : Nat) : Int := ent m ((j + 1) % 3) ((k + 1) % 3) * ent m ((j + 2) % 3) ((k + 2) % 3) - ent m ((j + 1) % 3) ((k + 2) % 3) * ent m ((j + 2) % 3) ((k + 1) % 3)
def minorZ : ZSp := fun us O Q _ => ∃ (m : List (List Int)) (j l k : Nat), us = [.d (matD m), .d (.int j), .d (.int l)] ∧ O = [] ∧ SqI 3 m ∧ Bds k m ∧ k ≤ 100000 ∧ Q (.d (.int (minI m j l))) []
theorem tosK_4 {O : List DO} {a b c d : D} {k : List D → Prop} : tosK O [.d a, .d b, .d c, .d d] k = k [a, b, c, d] := tosK_some (by simp [toDs_d, toDs_nil])
theorem k_law_minor : Keeps [] y__law_minor N__law_minor.length minorZ := by
  rintro us O Q E ⟨m, j, l, k, rfl, rfl, hm, hb, hk, h⟩
  show vcS _ y__law_minor E _ [some (.d (matD m)), some (.d (.int j)), some (.d (.int l)), none, none, none, none] []
  have ok : ∀ {a b c d : Nat}, a < 3 → b < 3 → c < 3 → d < 3 → MulOk (ent m a b) (ent m c d) := fun h1 h2 h3 h4 => (ent_bd hm hb h1 h2).ok (ent_bd hm hb h3 h4) (by omega)
  simp -implicitDefEqProofs only [y__law_minor, matD, vcS, vc, gt, st, oneK_1, nrK_d, nrsK_1, add_i, int_i, mod_i, tosK_4, toK_d, bindT, bindTs, fm3_1, fm3_2, ix_t, at_row hm (lt3 _), ex_some, at_ent hm (lt3 _) (lt3 _), mul_i, sub_i]
  exact ⟨by decide, by decide, by decide, by decide, sz (Nat.le_of_ble_eq_true rfl), ok (lt3 _) (lt3 _) (lt3 _) (lt3 _), ok (lt3 _) (lt3 _) (lt3 _) (lt3 _), h⟩
def dterm (m : List (List Int)) (j : Nat) : Int := ent m 0 j * (ent m 1 ((j + 1) % 3) * ent m 2 ((j + 2) % 3) - ent m 1 ((j + 2) % 3) * ent m 2 ((j + 1) % 3))
theorem det_terms {m : List (List Int)} (hm : SqI 3 m) : ((List.range 3).map (dterm m)).sum = detI m := by
  rcases sq_shape hm.1 hm.2 (by decide) (by decide) with ⟨a, rfl⟩ | ⟨a, b, c, d, rfl⟩ | ⟨a, b, c, d, e, f, g, x, i, rfl⟩
  · exact absurd hm.1 (by simp)
  · exact absurd hm.1 (by simp)
  · show a * (e * i - f * x) + (b * (f * g - d * i) + (c * (d * x - e * g) + 0)) = a * (e * i - f * x) - b * (d * i - f * g) + c * (d * x - e * g)
    grind
theorem at_row0 {m : List (List Int)} {w : Nat} (hm : SqI w m) (hi : 0 < w) : atI (m.map vecD) 0 = some (D.tup ((m.getD 0 []).map D.int)) := at_row (i := 0) hm hi
theorem at_row1 {m : List (List Int)} {w : Nat} (hm : SqI w m) (hi : 1 < w) : atI (m.map vecD) 1 = some (D.tup ((m.getD 1 []).map D.int)) := at_row (i := 1) hm hi
theorem at_row2 {m : List (List Int)} {w : Nat} (hm : SqI w m) (hi : 2 < w) : atI (m.map vecD) 2 = some (D.tup ((m.getD 2 []).map D.int)) := at_row (i := 2) hm hi
theorem k_law_det : Keeps [] y__law_det N__law_det.length detZ := by
  rintro us O Q E ⟨m, w, k, rfl, rfl, hm, w1, w3, hb, hk, h⟩
  show vcS _ y__law_det E _ [some (.d (matD m)), none] []
  have hw : w = 1 ∨ w = 2 ∨ w = 3 := by omega
  rcases hw with rfl | rfl | rfl
  · rcases sq_shape hm.1 hm.2 (by decide) (by decide) with ⟨a, rfl⟩ | ⟨a, b, c, d, rfl⟩ | ⟨a, b, c, d, e, f, g, x, i, rfl⟩
    · simp -implicitDefEqProofs only [y__law_det, vcS, vc, gt, st, oneK_1, nrsK_1, nrK_d, len_t, eq_i, boolK_1, matD, vecD, List.map_cons, List.map_nil, List.length_cons, List.length_nil, ix_t, at_0, ex_some]
      exact ⟨fun _ => h, fun z => absurd z (by decide)⟩
    · exact absurd hm.1 (by simp)
    · exact absurd hm.1 (by simp)
  · rcases sq_shape hm.1 hm.2 (by decide) (by decide) with ⟨a, rfl⟩ | ⟨a, b, c, d, rfl⟩ | ⟨a, b, c, d, e, f, g, x, i, rfl⟩
    · exact absurd hm.1 (by simp)
    · have h1 : ∀ y ∈ [a, b, c, d], Bd k y := fun y hy => by
        obtain ⟨m, hm, hy⟩ := List.mem_flatten.mp (show y ∈ [[a, b], [c, d]].flatten from hy)
        exact hb m hm y hy
      have ok : ∀ {y z : Int}, y ∈ [a, b, c, d] → z ∈ [a, b, c, d] → MulOk y z := fun h2 h3 => (h1 _ h2).ok (h1 _ h3) (by omega)
      simp -implicitDefEqProofs only [y__law_det, vcS, vc, gt, st, oneK_1, nrsK_1, nrK_d, len_t, eq_i, boolK_1, matD, vecD, List.map_cons, List.map_nil, List.length_cons, List.length_nil, ix_t, at_0, at_1, ex_some, mul_i, sub_i]
      exact ⟨fun z => absurd z (by decide), fun _ => ⟨fun _ => ⟨ok (by simp) (by simp), ok (by simp) (by simp), h⟩, fun z => absurd z (by decide)⟩⟩
    · exact absurd hm.1 (by simp)
  · rw [← det_terms hm] at h
    have h3 : ((m.map vecD).length : Int) = 3 := by rw [List.length_map, hm.1]; rfl
    simp -implicitDefEqProofs only [y__law_det, matD, vcS, vc, gt, st, oneK_1, nrsK_1, nrK_d, len_t, eq_i, boolK_1, h3, wipeR, wipeR.rm, List.length_nil]
    refine ⟨fun z => absurd z (by decide), fun _ => ⟨fun z => absurd z (by decide), fun _ => ?_⟩⟩
    refine ⟨⟨by decide, by decide⟩, _, rfl, by decide, ?_⟩
    refine comp_rows (fun (i : Nat) => D.int (0 + (i : Int))) (fun j => D.int (dterm m j)) (List.range 3) [] (fun j hj F hF => ?_) ?_
    · rw [List.mem_range] at hj
      have e2 : ∀ {i j : Nat}, i < 3 → j < 3 → Bd k (ent m i j) := fun h1 h2 => ent_bd hm hb h1 h2
      simp only [bindT, gt, st, oneK_1, nrK_d, nrsK_1, add_i, int_i, mod_i, Int.zero_add, fm3_1, fm3_2, ix_t, at_row0 hm (by decide), at_row1 hm (by decide), at_row2 hm (by decide), ex_some, at_ent hm (by decide : 0 < 3) hj, at_ent hm (by decide : 1 < 3) (lt3 _), at_ent hm (by decide : 2 < 3) (lt3 _), mul_i, sub_i]
      have b1 := e2 (by decide : 1 < 3) (lt3 (j + 1))
      have b2 := e2 (by decide : 2 < 3) (lt3 (j + 2))
      have b3 := e2 (by decide : 1 < 3) (lt3 (j + 2))
      have b4 := e2 (by decide : 2 < 3) (lt3 (j + 1))
      exact ⟨by decide, by decide, b1.ok b2 (by omega), by decide, by decide, b3.ok b4 (by omega), (e2 (by decide) hj).ok ((b1.mul b2).sub (b3.mul b4)) (by omega), hF⟩
    · simp only [newL, unb_0, oneK_1, nrsK_1, List.nil_append, lst_ints]
      exact sum_i h
theorem undo_ent {m : List (List Int)} (hm : SqI 3 m) : undoI m = (List.range 3).map fun j => (List.range 3).map fun k => detI m * minI m k j := by
  rcases sq_shape hm.1 hm.2 (by decide) (by decide) with ⟨a, rfl⟩ | ⟨a, b, c, d, rfl⟩ | ⟨a, b, c, d, e, f, g, x, i, rfl⟩
  · exact absurd hm.1 (by simp)
  · exact absurd hm.1 (by simp)
  · unfold undoI sclI
    generalize detI [[a, b, c], [d, e, f], [g, x, i]] = DD
    show [[(e * i - f * x) * DD, (c * x - b * i) * DD, (b * f - c * e) * DD], [(f * g - d * i) * DD, (a * i - c * g) * DD, (c * d - a * f) * DD], [(d * x - e * g) * DD, (b * g - a * x) * DD, (a * e - b * d) * DD]] =
      [[DD * (e * i - f * x), DD * (x * c - i * b), DD * (b * f - c * e)], [DD * (f * g - d * i), DD * (i * a - g * c), DD * (c * d - a * f)], [DD * (d * x - e * g), DD * (g * b - x * a), DD * (a * e - b * d)]]
    simp only [List.cons.injEq, and_true]
    refine ⟨⟨?_, ?_, ?_⟩, ⟨?_, ?_, ?_⟩, ?_, ?_, ?_⟩ <;> grind
def lundoZ : ZSp := fun us O Q _ => ∃ (m : List (List Int)) (w k : Nat), us = [.d (matD m)] ∧ O = [] ∧ SqI w m ∧ 1 ≤ w ∧ w ≤ 3 ∧ Bds k m ∧ 1 ≤ k ∧ k ≤ 100000 ∧ Q (.d (matD (undoI m))) []
theorem neg_i {i : Int} : (- i) = - i := rfl
theorem k_law_undo : Keeps [("_law_minor", minorZ), ("_law_det", detZ)] y__law_undo N__law_undo.length lundoZ := by
  rintro us O Q E ⟨m, w, k, rfl, rfl, hm, w1, w3, hb, k1, hk, h⟩
  show vcS _ y__law_undo E _ [some (.d (matD m)), none, none, none] []
  unfold y__law_undo
  rw [vs_seq, vs_set]
  simp -implicitDefEqProofs only [vc, gt, st, oneK_1, List.getElem?_cons_zero, List.getElem?_cons_succ]
  refine callD0 [matD m] fun F X hF => ⟨m, w, k, rfl, rfl, hm, w1, w3, hb, hk, hF _ ?_⟩
  have hd := det_bd hm w1 w3 hb
  have hmn : ∀ x ∈ (adjI m).flatten, Bd (2 * k + 1) x := fun x hx => by
    obtain ⟨r, hr, hx⟩ := List.mem_flatten.mp hx
    exact adj_bd hm w1 w3 hb k1 r hr x hx
  have hw : w = 1 ∨ w = 2 ∨ w = 3 := by omega
  rcases hw with rfl | rfl | rfl
  · rcases sq_shape hm.1 hm.2 (by decide) (by decide) with ⟨a, rfl⟩ | ⟨a, b, c, d, rfl⟩ | ⟨a, b, c, d, e, f, g, x, i, rfl⟩
    · simp -implicitDefEqProofs only [vcS, vc, gt, st, oneK_1, nrsK_1, nrK_d, len_t, eq_i, boolK_1, matD, List.map_cons, List.map_nil, List.length_cons, List.length_nil]
      rw [show undoI [[a]] = [[1 * a]] from rfl, Int.one_mul] at h
      exact ⟨fun _ => h, fun z => absurd z (by decide)⟩
    · exact absurd hm.1 (by simp)
    · exact absurd hm.1 (by simp)
  · rcases sq_shape hm.1 hm.2 (by decide) (by decide) with ⟨a, rfl⟩ | ⟨a, b, c, d, rfl⟩ | ⟨a, b, c, d, e, f, g, x, i, rfl⟩
    · exact absurd hm.1 (by simp)
    · have h1 : ∀ y ∈ [a, b, c, d], Bd k y := fun y hy => by
        obtain ⟨m, hm, hy⟩ := List.mem_flatten.mp (show y ∈ [[a, b], [c, d]].flatten from hy)
        exact hb m hm y hy
      have e0 : undoI [[a, b], [c, d]] = [[detI [[a, b], [c, d]] * d, -(detI [[a, b], [c, d]]) * b], [-(detI [[a, b], [c, d]]) * c, detI [[a, b], [c, d]] * a]] := by
        unfold undoI sclI
        generalize detI [[a, b], [c, d]] = DD
        show [[d * DD, -b * DD], [-c * DD, a * DD]] = _
        simp only [List.cons.injEq, and_true]
        refine ⟨⟨?_, ?_⟩, ?_, ?_⟩ <;> grind
      rw [e0] at h
      clear e0 hmn
      generalize detI [[a, b], [c, d]] = DD at *
      have ok : ∀ {z : Int}, z ∈ [a, b, c, d] → MulOk DD z ∧ MulOk (-DD) z := fun h3 => ⟨hd.ok (h1 _ h3) (by omega), hd.neg.ok (h1 _ h3) (by omega)⟩
      simp -implicitDefEqProofs only [vcS, vc, gt, st, oneK_1, nrsK_1, nrK_d, len_t, eq_i, boolK_1, matD, vecD, List.map_cons, List.map_nil, List.length_cons, List.length_nil, ix_t, at_0, at_1, ex_some, mul_i, sub_i, tosK_2]
      exact ⟨fun z => absurd z (by decide), fun _ => ⟨fun _ => ⟨(ok (by simp)).1, (ok (by simp)).2, sz (Nat.le_of_ble_eq_true rfl), (ok (by simp)).2, (ok (by simp)).1, sz (Nat.le_of_ble_eq_true rfl), sz (Nat.le_of_ble_eq_true rfl), h⟩, fun z => absurd z (by decide)⟩⟩
    · exact absurd hm.1 (by simp)
  · rw [undo_ent hm] at h
    have hmin : ∀ j l, Bd (2 * k + 1) (minI m j l) := fun j l => (((ent_bd hm hb (lt3 _) (lt3 _)).mul (ent_bd hm hb (lt3 _) (lt3 _))).sub ((ent_bd hm hb (lt3 _) (lt3 _)).mul (ent_bd hm hb (lt3 _) (lt3 _)))).mono (by omega)
    have h3 : ((m.map vecD).length : Int) = 3 := by rw [List.length_map, hm.1]; rfl
    clear hmn
    generalize detI m = DD at *
    rw [show matD m = .tup (m.map vecD) from rfl]
    simp -implicitDefEqProofs only [vcS, vc, gt, st, oneK_1, nrsK_1, nrK_d, len_t, eq_i, boolK_1, h3, wipeR, wipeR.rm, List.length_nil, List.getElem?_cons_zero, List.getElem?_cons_succ]
    rw [show D.tup (m.map vecD) = matD m from rfl]
    refine ⟨fun z => absurd z (by decide), fun _ => ⟨fun z => absurd z (by decide), fun _ => ?_⟩⟩
    refine ⟨⟨by decide, by decide⟩, _, rfl, by decide, ?_⟩
    refine comp_rows (fun (i : Nat) => D.int (0 + (i : Int))) (fun j => vecD ((List.range 3).map fun l => DD * minI m l j)) (List.range 3) [] (fun j hj F hF => ?_) ?_
    · simp only [bindT, gt, st, oneK_1, nrK_d, wipeR, wipeR.rm, List.length_nil]
      refine ⟨⟨by decide, by decide⟩, _, rfl, by decide, ?_⟩
      refine comp_rows (fun (i : Nat) => D.int (0 + (i : Int))) (fun l => D.int (DD * minI m l j)) (List.range 3) [] (fun l hl F2 hF2 => ?_) ?_
      · simp only [bindT, gt, st, oneK_1, nrK_d, Int.zero_add]
        refine callD0 [matD m, .int l, .int j] fun F3 X hF3 => ⟨m, l, j, k, rfl, rfl, hm, hb, hk, hF3 _ ?_⟩
        simp only [nrK_d, mul_i, oneK_1]
        exact ⟨hd.ok (hmin _ _) (by omega), hF2⟩
      · simp only [newL, unb_0, oneK_1, nrsK_1, tuple_l, List.nil_append, tup_vec]
        exact hF
    · simp only [newL, unb_0, oneK_1, nrsK_1, tuple_l, List.nil_append]
      rw [show matD ((List.range 3).map fun j => (List.range 3).map fun k => DD * minI m k j) = .tup ((List.range 3).map fun j => vecD ((List.range 3).map fun l => DD * minI m l j)) from by unfold matD; rw [List.map_map]; rfl] at h
      exact h
end Z

set_option Elab.async false
set_option linter.all false
set_option maxRecDepth 100000
set_option maxHeartbeats 4000000
namespace Z
open PySem PySem.Spec PyProof.Rows L2
/-! ### unimodular matrices -/
def intOf : D → Int
  | .int i => i
  | _ => 0
def rowOf : D → List Int
  | .tup ds => ds.map intOf
  | _ => []
def matOf : D → List (List Int)
  | .tup ds => ds.map rowOf
  | _ => []
theorem ints_of : ∀ {ds : List D}, ds.all isInt = true → ds = (ds.map intOf).map D.int
  | [], _ => rfl
  | d :: ds, h => by
    rw [List.all_cons, Bool.and_eq_true] at h
    rw [List.map_cons, List.map_cons, ← ints_of h.2]
    cases d with
    | int i => rfl
    | _ => exact absurd h.1 (by simp [isInt])
theorem vec_of {n : Int} {d : D} (h : isVecB n d = true) : d = vecD (rowOf d) ∧ ((rowOf d).length : Int) = n := by
  cases d with
  | tup ds =>
    have h : (decide ((ds.length : Int) = n) && ds.all isInt) = true := h
    rw [Bool.and_eq_true, decide_eq_true_eq] at h
    refine ⟨?_, by show ((ds.map intOf).length : Int) = n; rw [List.length_map]; exact h.1⟩
    show D.tup ds = D.tup ((ds.map intOf).map D.int)
    rw [← ints_of h.2]
  | _ => cases h
theorem rows_of {n : Int} : ∀ {ds : List D}, ds.all (isVecB n) = true → ds = (ds.map rowOf).map vecD ∧ ∀ r ∈ ds.map rowOf, (r.length : Int) = n
  | [], _ => ⟨rfl, fun r hr => by cases hr⟩
  | d :: ds, h => by
    rw [List.all_cons, Bool.and_eq_true] at h
    obtain ⟨e, l⟩ := vec_of h.1
    obtain ⟨e2, l2⟩ := rows_of h.2
    refine ⟨by rw [List.map_cons, List.map_cons, ← e2, ← e], fun r hr => ?_⟩
    rw [List.map_cons] at hr
    rcases List.mem_cons.mp hr with rfl | hr
    · exact l
    · exact l2 r hr
theorem mat_of {n : Int} {d : D} (h : isMatB n d = true) : d = matD (matOf d) ∧ 0 ≤ n ∧ SqI n.toNat (matOf d) := by
  cases d with
  | tup ds =>
    have h : (decide ((ds.length : Int) = n) && ds.all (isVecB n)) = true := h
    rw [Bool.and_eq_true, decide_eq_true_eq] at h
    obtain ⟨e2, l2⟩ := rows_of h.2
    refine ⟨?_, by omega, by show (ds.map rowOf).length = _; rw [List.length_map]; omega, fun r hr => by have := l2 r hr; omega⟩
    show D.tup ds = D.tup ((ds.map rowOf).map vecD)
    rw [← e2]
  | _ => cases h
theorem isVec_vec (v : List Int) : isVecB v.length (vecD v) = true := by
  show (decide (((v.map D.int).length : Int) = v.length) && (v.map D.int).all isInt) = true
  rw [List.length_map, decide_eq_true rfl, List.all_map]
  simp [isInt]
theorem isMat_mat {w : Nat} {m : List (List Int)} (hm : SqI w m) : isMatB w (matD m) = true := by
  show (decide (((m.map vecD).length : Int) = w) && (m.map vecD).all (isVecB w)) = true
  rw [List.length_map, hm.1, decide_eq_true rfl, List.all_map, Bool.true_and, List.all_eq_true]
  intro r hr
  show isVecB w (vecD r) = true
  rw [← hm.2 r hr]
  exact isVec_vec r
theorem rowOf_vec (v : List Int) : rowOf (vecD v) = v := by
  show (v.map D.int).map intOf = v
  rw [List.map_map]
  exact List.map_id' v
theorem matOf_mat (m : List (List Int)) : matOf (matD m) = m := by
  show (m.map vecD).map rowOf = m
  rw [List.map_map]
  have : ∀ r : List Int, (rowOf ∘ vecD) r = r := fun r => rowOf_vec r
  rw [List.map_congr_left fun r _ => this r, List.map_id']
theorem inV_pm (a : Int) : inV (toV (.int a)) ([D.int 1, D.int (-1)].map toV) = decide (a = 1 ∨ a = -1) := by
  show ((1 : Int) == a || ((-1 : Int) == a || false)) = _
  by_cases h1 : a = 1
  · subst h1; rfl
  · by_cases h2 : a = -1
    · subst h2; rfl
    · rw [decide_eq_false (by omega)]
      rw [show ((1 : Int) == a) = false from by simp; omega, show ((-1 : Int) == a) = false from by simp; omega]
      rfl
def uniB (m : List (List Int)) : Bool := decide (detI m = 1 ∨ detI m = -1)
theorem in_pm {a : Int} {Q : Bool → Prop} (h : Q (decide (a = 1 ∨ a = -1))) : cmpD .In (.int a) (.tup [.int 1, .int (-1)]) Q := ⟨rfl, rfl, by rw [inV_pm]; exact h⟩
def isUniB (n : Int) (d : D) : Bool := isMatB n d && uniB (matOf d)
def isUniA (d : D) : Bool := match d with
  | .tup ds => decide (1 ≤ ds.length ∧ ds.length ≤ 3) && isUniB ds.length d
  | _ => false
/-- a thing whose kinds are seen, whose numbers are bounded if it is a matrix -/
def Th (d : D) : Prop := Jb d ∧ ∀ ms, d = matD ms → Bds 400 ms
def isUniZ : ZSp := fun us O Q _ => ∃ (d : D) (n : Int), us = [.d d, .d (.int n)] ∧ O = [] ∧ Th d ∧ 1 ≤ n ∧ n ≤ 3 ∧ Q (.d (.bl (isUniB n d))) []
theorem isUniB_f {n : Int} {d : D} (h : isMatB n d = false) : isUniB n d = false := by unfold isUniB; rw [h]; rfl
theorem isUniB_t {n : Int} {d : D} (h : isMatB n d = true) : isUniB n d = uniB (matOf d) := by unfold isUniB; rw [h]; rfl
theorem k_is_unimodular : Keeps [("determinant", detZ), ("is_matrix", isMatZ)] y_is_unimodular N_is_unimodular.length isUniZ := by
  rintro us O Q E ⟨d, n, rfl, rfl, hd, n1, n3, h⟩
  show vcS _ y_is_unimodular E _ [some (.d d), some (.d (.int n))] []
  simp -implicitDefEqProofs only [y_is_unimodular, vcS, vc, gt, st, oneK_1, List.getElem?_cons_zero, List.getElem?_cons_succ]
  refine callD0 [d, .int n] fun F X hF => ⟨d, n, rfl, rfl, hd.1, hF _ ?_⟩
  cases q : isMatB n d with
  | false =>
    rw [isUniB_f q] at h
    simp only [boolK_1]
    exact ⟨(fun z => by cases z), fun _ => h⟩
  | true =>
    rw [isUniB_t q] at h
    obtain ⟨e, n0, hm⟩ := mat_of q
    have hb := hd.2 _ e
    simp only [boolK_1]
    refine ⟨fun _ => ?_, fun z => by cases z⟩
    rw [e]
    refine callD0 [matD (matOf d)] fun F X hF => ⟨matOf d, n.toNat, 400, rfl, rfl, hm, by omega, by omega, hb, by decide, hF _ ?_⟩
    simp only [oneK_1, tosK_2, nrK_d]
    exact ⟨sz (by decide), in_pm h⟩
def isUniAZ : ZSp := fun us O Q _ => ∃ d : D, us = [.d d] ∧ O = [] ∧ Th d ∧ Q (.d (.bl (isUniA d))) []
theorem chain_13 {n : Nat} {a : Prop} {b : Prop} (h1 : (1 ≤ n ∧ n ≤ 3) → a) (h2 : ¬ (1 ≤ n ∧ n ≤ 3) → b) : True := trivial
theorem k_is_any_unimodular : Keeps [("is_unimodular", isUniZ)] y_is_any_unimodular N_is_any_unimodular.length isUniAZ := by
  rintro us O Q E ⟨d, rfl, rfl, hd, h⟩
  show vcS _ y_is_any_unimodular E _ [some (.d d)] []
  have hk := hd.1.1
  obtain ⟨b1, b2, b3, b4, b5, b6, b7⟩ := isi_tuple
  have other : isUniA d = false → tyD d ≠ some "tuple" → vcS [("is_unimodular", isUniZ)] y_is_any_unimodular E ⟨fun _ O' => Q (.d .non) O', Q, fun _ _ => False, fun _ _ => False⟩ [some (.d d)] [] := fun e1 e2 => by
    rw [e1] at h
    cases d <;> first | (cases hk; done) | (exact absurd rfl e2) | (simp -implicitDefEqProofs only [y_is_any_unimodular, vcS, vc, gt, st, oneK_1, boolK_1, tyU, tyD, b1, b2, b3, b4, b5, b6, b7, ex_some]; exact ⟨fun z => (by cases z), fun _ => h⟩)
  cases d with
  | tup ds =>
    simp -implicitDefEqProofs only [y_is_any_unimodular, vcS, vc, gt, st, oneK_1, boolK_1, tyU, tyD, b5, ex_some, nrsK_1, len_t, nrK_d, le_i, List.getElem?_cons_zero]
    refine ⟨fun _ => ?_, fun z => by cases z⟩
    by_cases hl : 1 ≤ ds.length ∧ ds.length ≤ 3
    · rw [decide_eq_true (by omega : (1 : Int) ≤ ds.length), decide_eq_true (by omega : (ds.length : Int) ≤ 3)]
      have e : isUniA (.tup ds) = isUniB ds.length (.tup ds) := by
        show (decide (1 ≤ ds.length ∧ ds.length ≤ 3) && _) = _
        rw [decide_eq_true hl]
        rfl
      rw [e] at h
      refine ⟨fun _ => ⟨fun _ => ?_, fun z => by cases z⟩, fun z => by cases z⟩
      exact callD0 [.tup ds, .int ds.length] fun F X hF => ⟨.tup ds, ds.length, rfl, rfl, hd, by omega, by omega, hF _ h⟩
    · have e : isUniA (.tup ds) = false := by
        show (decide (1 ≤ ds.length ∧ ds.length ≤ 3) && _) = _
        rw [decide_eq_false hl]
        rfl
      rw [e] at h
      by_cases h1 : 1 ≤ ds.length
      · rw [decide_eq_true (by omega : (1 : Int) ≤ ds.length), decide_eq_false (by omega : ¬ (ds.length : Int) ≤ 3)]
        exact ⟨fun _ => ⟨(fun z => by cases z), fun _ => h⟩, fun z => by cases z⟩
      · rw [decide_eq_false (by omega : ¬ (1 : Int) ≤ ds.length)]
        exact ⟨(fun z => by cases z), fun _ => ⟨(fun z => by cases z), fun _ => h⟩⟩
  | _ => exact other rfl (by simp [tyD])
theorem k_law_is_unimodular : Keeps [("_law_det", detZ), ("_law_is_matrix", isMatZ)] y__law_is_unimodular N__law_is_unimodular.length isUniAZ := by
  rintro us O Q E ⟨d, rfl, rfl, hd, h⟩
  show vcS _ y__law_is_unimodular E _ [some (.d d)] []
  have hk := hd.1.1
  obtain ⟨b1, b2, b3, b4, b5, b6, b7⟩ := isi_tuple
  have other : isUniA d = false → tyD d ≠ some "tuple" → vcS [("_law_det", detZ), ("_law_is_matrix", isMatZ)] y__law_is_unimodular E ⟨fun _ O' => Q (.d .non) O', Q, fun _ _ => False, fun _ _ => False⟩ [some (.d d)] [] := fun e1 e2 => by
    rw [e1] at h
    cases d <;> first | (cases hk; done) | (exact absurd rfl e2) | (simp -implicitDefEqProofs only [y__law_is_unimodular, vcS, vc, gt, st, oneK_1, boolK_1, tyU, tyD, b1, b2, b3, b4, b5, b6, b7, ex_some, Bool.not_false]; exact ⟨fun _ => ⟨fun _ => h, fun z => (by cases z)⟩, fun z => (by cases z)⟩)
  cases d with
  | tup ds =>
    unfold y__law_is_unimodular
    rw [vs_seq, vs_ite]
    simp -implicitDefEqProofs only [vc, gt, st, oneK_1, boolK_1, tyU, tyD, b5, ex_some, nrsK_1, len_t, nrK_d, le_i, Bool.not_true, List.getElem?_cons_zero, List.getElem?_cons_succ]
    refine ⟨(fun z => by cases z), fun _ => ?_⟩
    by_cases hl : 1 ≤ ds.length ∧ ds.length ≤ 3
    · rw [decide_eq_true (by omega : (1 : Int) ≤ ds.length), decide_eq_true (by omega : (ds.length : Int) ≤ 3)]
      have e : isUniA (.tup ds) = isUniB ds.length (.tup ds) := by
        show (decide (1 ≤ ds.length ∧ ds.length ≤ 3) && _) = _
        rw [decide_eq_true hl]
        rfl
      rw [e] at h
      refine ⟨fun _ => ⟨(fun z => by cases z), fun _ => ?_⟩, fun z => by cases z⟩
      refine callD0 [.tup ds, .int ds.length] fun F X hF => ⟨.tup ds, ds.length, rfl, rfl, hd.1, hF _ ?_⟩
      cases q : isMatB ds.length (.tup ds) with
      | false =>
        rw [isUniB_f q] at h
        simp -implicitDefEqProofs only [boolK_1, Bool.not_false]
        refine ⟨fun _ => ?_, fun z => by cases z⟩
        rw [vs_seq, vs_ret]
        simp -implicitDefEqProofs only [vc, oneK_1]
        exact h
      | true =>
        rw [isUniB_t q] at h
        obtain ⟨e, n0, hm⟩ := mat_of q
        have hb := hd.2 _ e
        simp -implicitDefEqProofs only [boolK_1, Bool.not_true]
        refine ⟨(fun z => by cases z), fun _ => ?_⟩
        rw [vs_nil]
        dsimp only
        rw [vs_seq, vs_ret]
        simp -implicitDefEqProofs only [vc, gt, oneK_1, List.getElem?_cons_zero]
        rw [e]
        refine callD0 [matD (matOf (.tup ds))] fun F X hF => ⟨matOf (.tup ds), _, 400, rfl, rfl, hm, by omega, by omega, hb, by decide, hF _ ?_⟩
        simp only [oneK_1, tosK_2, nrK_d]
        refine ⟨sz (by decide), in_pm ?_⟩
        exact h
    · have e : isUniA (.tup ds) = false := by
        show (decide (1 ≤ ds.length ∧ ds.length ≤ 3) && _) = _
        rw [decide_eq_false hl]
        rfl
      rw [e] at h
      by_cases h1 : 1 ≤ ds.length
      · rw [decide_eq_true (by omega : (1 : Int) ≤ ds.length), decide_eq_false (by omega : ¬ (ds.length : Int) ≤ 3)]
        refine ⟨fun _ => ⟨fun _ => ?_, fun z => by cases z⟩, fun z => by cases z⟩
        rw [vs_seq, vs_ret]
        simp -implicitDefEqProofs only [vc, oneK_1]
        exact ⟨fun _ => h, fun z => by cases z⟩
      · rw [decide_eq_false (by omega : ¬ (1 : Int) ≤ ds.length)]
        refine ⟨(fun z => by cases z), fun _ => ⟨fun _ => ?_, fun z => by cases z⟩⟩
        rw [vs_seq, vs_ret]
        simp -implicitDefEqProofs only [vc, oneK_1]
        exact ⟨fun _ => h, fun z => by cases z⟩
  | _ => exact other rfl (by simp [tyD])
/-! what a unimodular thing is -/
theorem uniA_of {d : D} (hd : Th d) (h : isUniA d = true) : ∃ w, d = matD (matOf d) ∧ 1 ≤ w ∧ w ≤ 3 ∧ SqI w (matOf d) ∧ Uni (matOf d) ∧ Bds 400 (matOf d) := by
  cases d with
  | tup ds =>
    have h : (decide (1 ≤ ds.length ∧ ds.length ≤ 3) && isUniB ds.length (.tup ds)) = true := h
    rw [Bool.and_eq_true, decide_eq_true_eq] at h
    have h2 : (isMatB ds.length (.tup ds) && uniB (matOf (.tup ds))) = true := h.2
    rw [Bool.and_eq_true] at h2
    obtain ⟨e, _, hm⟩ := mat_of h2.1
    have hu : detI (matOf (.tup ds)) = 1 ∨ detI (matOf (.tup ds)) = -1 := of_decide_eq_true h2.2
    exact ⟨ds.length, e, h.1.1, h.1.2, hm, hu, hd.2 _ e⟩
  | _ => cases h
theorem uniA_mat {w : Nat} {m : List (List Int)} (hm : SqI w m) (w1 : 1 ≤ w) (w3 : w ≤ 3) (hu : Uni m) : isUniA (matD m) = true ∧ isUniB w (matD m) = true := by
  have e1 := isMat_mat hm
  have e2 : isUniB w (matD m) = true := by
    rw [isUniB_t e1, matOf_mat]
    exact decide_eq_true hu
  refine ⟨?_, e2⟩
  show (decide (1 ≤ (m.map vecD).length ∧ (m.map vecD).length ≤ 3) && isUniB (m.map vecD).length (matD m)) = true
  rw [List.length_map, hm.1, decide_eq_true ⟨w1, w3⟩, e2]
  rfl
theorem th_mat {w : Nat} {m : List (List Int)} (hm : SqI w m) (w3 : w ≤ 3) (hb : Bds 400 m) : Th (matD m) := by
  refine ⟨⟨rfl, fun ds e => ?_⟩, fun ms e => ?_⟩
  · cases e
    refine ⟨by rw [List.length_map, hm.1]; omega, fun d hd => ?_⟩
    obtain ⟨r, hr, rfl⟩ := List.mem_map.mp hd
    refine ⟨rfl, fun es e => ?_⟩
    cases e
    refine ⟨by rw [List.length_map, hm.2 r hr]; omega, fun x hx => ?_⟩
    obtain ⟨n, _, rfl⟩ := List.mem_map.mp hx
    rfl
  · have : matOf (matD m) = matOf (matD ms) := by rw [e]
    rw [matOf_mat, matOf_mat] at this
    rw [← this]
    exact hb
def badM : Exc := ⟨"InvalidMatrix", [("code", .str "InvalidMatrix")]⟩
def uinvZ : ZSp := fun us O Q E => ∃ d : D, us = [.d d] ∧ O = [] ∧ Th d ∧ (isUniA d = true → Q (.d (matD (undoI (matOf d)))) []) ∧ (isUniA d = false → E badM [])
def GU : List (Fk × ZSp) := [(("adjugate" : Fk), adjZ), (("vector_times" : Fk), vtimesZ), (("determinant" : Fk), detZ), (("is_any_unimodular" : Fk), isUniAZ)]
theorem gu0 : GU[0]? = some (("adjugate" : Fk), (adjZ : ZSp)) := rfl
theorem gu1 : GU[1]? = some (("vector_times" : Fk), (vtimesZ : ZSp)) := rfl
theorem gu2 : GU[2]? = some (("determinant" : Fk), (detZ : ZSp)) := rfl
theorem gu3 : GU[3]? = some (("is_any_unimodular" : Fk), (isUniAZ : ZSp)) := rfl
theorem k_unimodular_inverse : Keeps GU y_unimodular_inverse N_unimodular_inverse.length uinvZ := by
  rintro us O Q E ⟨d, rfl, rfl, hd, h, he⟩
  show vcS GU y_unimodular_inverse E _ [some (.d d), none, none] []
  unfold y_unimodular_inverse
  rw [vs_seq, vs_ite]
  simp -implicitDefEqProofs only [vc, gt, st, so, oneK_1, gu0, gu1, gu2, gu3]
  refine callD0 [d] fun F X hF => ⟨d, rfl, rfl, hd, hF _ ?_⟩
  cases q : isUniA d with
  | false =>
    simp -implicitDefEqProofs only [gt, st, so, oneK_1, gu0, gu1, gu2, gu3, boolK_1, Bool.not_false]
    refine ⟨fun _ => ?_, fun z => by cases z⟩
    rw [vs_seq]
    simp -implicitDefEqProofs only [vcS, vc, tosK_0]
    exact ⟨rfl, _, rfl, he q⟩
  | true =>
    have h := h q
    obtain ⟨w, e, w1, w3, hm, hu, hb⟩ := uniA_of hd q
    rw [e]
    generalize matOf d = m at *
    clear e
    simp -implicitDefEqProofs only [gt, st, so, oneK_1, gu0, gu1, gu2, gu3, boolK_1, Bool.not_true]
    refine ⟨(fun z => by cases z), fun _ => ?_⟩
    rw [vs_nil]
    dsimp only
    rw [vs_seq, vs_set]
    simp -implicitDefEqProofs only [vc, gt, st, so, oneK_1, gu0, gu1, gu2, gu3]
    refine callD0 [matD m] fun F X hF => ⟨m, w, 400, rfl, rfl, hm, w1, w3, hb, by decide, hF _ ?_⟩
    try simp -implicitDefEqProofs only [gt, st, so, oneK_1, gu0, gu1, gu2, gu3]
    rw [vs_seq, vs_ret]
    simp -implicitDefEqProofs only [vc, gt, st, so, oneK_1, gu0, gu1, gu2, gu3]
    refine callD0 [matD m] fun F X hF => ⟨m, w, 400, rfl, rfl, hm, w1, w3, hb, by decide, hF _ ?_⟩
    rw [show matD (adjI m) = .tup ((adjI m).map vecD) from rfl]
    simp -implicitDefEqProofs only [gt, st, so, oneK_1, gu0, gu1, gu2, gu3, brK_d, wipeR, wipeR.rm, List.length_nil]
    have hsq := undo_sq hm w1 w3
    have hl : (adjI m).length = w := by
      have := hsq.1
      unfold undoI at this
      rw [List.length_map] at this
      exact this
    have hlr : ∀ r ∈ adjI m, r.length = w := fun r hr => by
      have := hsq.2 (sclI (detI m) r) (List.mem_map.mpr ⟨r, hr, rfl⟩)
      unfold sclI at this
      rw [List.length_map] at this
      exact this
    have ab := adj_bd hm w1 w3 hb (by decide)
    have db := det_bd hm w1 w3 hb
    refine ⟨_, rfl, len3 (by omega), ?_⟩
    refine comp_rows vecD (fun r => vecD (sclI (detI m) r)) (adjI m) [] (fun r hr F hF => ?_) ?_
    · simp only [bindT, gt, st, oneK_1]
      exact callD0 [vecD r, .int (detI m)] fun F2 X hF2 => ⟨r, detI m, _, _, rfl, rfl, by rw [hlr r hr]; omega, ab r hr, db, by decide, hF2 _ hF⟩
    · simp only [newL, unb_0, oneK_1, nrsK_1, tuple_l, List.nil_append]
      rw [show matD (undoI m) = .tup ((adjI m).map fun r => vecD (sclI (detI m) r)) from by unfold matD undoI; rw [List.map_map]; rfl] at h
      exact h
end Z

set_option Elab.async false
set_option linter.all false
set_option maxRecDepth 100000
set_option maxHeartbeats 4000000
namespace Z
open PySem PySem.Spec PyProof.Rows L2
/-! ### powers and orders -/
def isNumB (lo hi : Int) : D → Bool
  | .int n => decide (lo ≤ n) && decide (n ≤ hi)
  | _ => false
def is_numberZ : ZSp := fun us O Q _ => ∃ (t : D) (lo hi : Int), us = [.d t, .d (.int lo), .d (.int hi)] ∧ O = [] ∧ Knd t = true ∧ Q (.d (.bl (isNumB lo hi t))) []
theorem k_is_number : Keeps [("is_any_number", intZ)] y_is_number N_is_number.length is_numberZ := by
  rintro us O Q E ⟨t, lo, hi, rfl, rfl, hk, h⟩
  show vcS _ y_is_number E _ [some (.d t), some (.d (.int lo)), some (.d (.int hi))] []
  simp -implicitDefEqProofs only [y_is_number, vcS, vc, gt, st, oneK_1, List.getElem?_cons_zero]
  refine callD0 [t] fun F X hF => ⟨t, rfl, rfl, hk, hF _ ?_⟩
  have other : isInt t = false → isNumB lo hi t = false := fun e => by
    cases t with
    | int n => cases e
    | _ => rfl
  cases q : isInt t with
  | false =>
    rw [other q] at h
    simp only [boolK_1]
    exact ⟨(fun z => by cases z), fun _ => h⟩
  | true =>
    cases t with
    | int n =>
      simp only [boolK_1, nrK_d, le_i, oneK_1]
      refine ⟨fun _ => way (fun h1 => ?_) fun h1 => ?_, fun z => by cases z⟩
      · have e : isNumB lo hi (.int n) = decide (n ≤ hi) := by
          show (decide (lo ≤ n) && decide (n ≤ hi)) = _
          rw [decide_eq_true h1]; rfl
        rw [e] at h
        exact h
      · have e : isNumB lo hi (.int n) = false := by
          show (decide (lo ≤ n) && decide (n ≤ hi)) = _
          rw [decide_eq_false h1]; rfl
        rw [e] at h
        exact h
    | _ => cases q
def powZI (m : List (List Int)) (n : Int) : List (List Int) := if 0 ≤ n then powI m n.natAbs else powI (undoI m) n.natAbs
def badN (v : D) : Exc := ⟨"InvalidNumber", [("code", .str "InvalidNumber"), ("value", v)]⟩
def powerZ : ZSp := fun us O Q E => ∃ d t : D, us = [.d d, .d t] ∧ O = [] ∧ Th d ∧ Knd t = true ∧ (isUniA d = false → E badM []) ∧ (isUniA d = true → isNumB (-100) 100 t = false → E (badN t) []) ∧ (isUniA d = true → ∀ n, t = .int n → -100 ≤ n → n ≤ 100 → Q (.d (matD (powZI (matOf d) n))) [])
theorem vs_whl {Γ : List (Fk × ZSp)} {c : Y} {b : YS} {E : ZX} {D : ZD} {ρ : List (Option U)} {O : List DO} (W : Nat → List (Option U) → List DO → Prop) (h0 : ∃ m, W m ρ O)
    (h : ∀ m ρ1 O1, W m ρ1 O1 → vc Γ c E ρ1 O1 fun us O2 => boolK us fun t => (t = true → vcS Γ b E ⟨fun ρ2 O3 => ∃ m', m' < m ∧ W m' ρ2 O3, D.rt, D.nx, fun ρ2 O3 => ∃ m', m' < m ∧ W m' ρ2 O3⟩ ρ1 O2) ∧ (t = false → D.nx ρ1 O2)) : vcS Γ (.whl c b) E D ρ O := ⟨W, h0, h⟩
def GW : List (Fk × ZSp) := [(("matrix_times" : Fk), mtimesZ), (("identity" : Fk), identityZ), (("unimodular_inverse" : Fk), uinvZ), (("is_number" : Fk), is_numberZ), (("is_any_unimodular" : Fk), isUniAZ)]
theorem gw0 : GW[0]? = some (("matrix_times" : Fk), (mtimesZ : ZSp)) := rfl
theorem gw1 : GW[1]? = some (("identity" : Fk), (identityZ : ZSp)) := rfl
theorem gw2 : GW[2]? = some (("unimodular_inverse" : Fk), (uinvZ : ZSp)) := rfl
theorem gw3 : GW[3]? = some (("is_number" : Fk), (is_numberZ : ZSp)) := rfl
theorem gw4 : GW[4]? = some (("is_any_unimodular" : Fk), (isUniAZ : ZSp)) := rfl
theorem fm2 (n : Nat) : Int.fmod (n : Int) 2 = ((n % 2 : Nat) : Int) := by
  rw [Int.fmod_eq_emod_of_nonneg _ (by decide)]
  omega
theorem fd2 (n : Nat) : Int.fdiv (n : Int) 2 = ((n / 2 : Nat) : Int) := by
  rw [Int.fdiv_eq_ediv_of_nonneg _ (by decide)]
  omega
theorem pow_rest {w : Nat} {m b : List (List Int)} {n : Int} {E : ZX} {N : ZD} {x3 x4 : Option U} (hm : m.length = w) (w1 : 1 ≤ w) (w3 : w ≤ 3) (hb : SqI w b) (hbb : Bds 802 b) (hn : n.natAbs ≤ 100) (h : N.rt (.d (matD (powI b n.natAbs))) []) :
    vcS GW (dropS 3 y_power) E N [some (.d (matD m)), some (.d (.int n)), some (.d (matD b)), x3, x4] [] := by
  unfold y_power
  simp only [dropS]
  rw [vs_seq, vs_set]
  simp -implicitDefEqProofs only [vc, gt, st, so, oneK_1, gw0, gw1, gw2, gw3, gw4, nrsK_1, abs_i]
  rw [vs_seq, vs_set]
  rw [show matD m = .tup (m.map vecD) from rfl]
  simp -implicitDefEqProofs only [vc, gt, st, so, oneK_1, gw0, gw1, gw2, gw3, gw4, nrsK_1, len_t, List.length_map]
  rw [hm]
  refine callD0 [.int w] fun F X hF => ⟨w, rfl, rfl, by omega, hF _ ?_⟩
  try simp -implicitDefEqProofs only [gt, st, so, oneK_1, gw0, gw1, gw2, gw3, gw4]
  generalize n.natAbs = L at *
  rw [vs_seq]
  refine vs_whl (fun k ρ O => O = [] ∧ ∃ a e left : Nat, ρ = [some (.d (.tup (m.map vecD))), some (.d (.int n)), some (.d (matD (powI b e))), some (.d (.int left)), some (.d (matD (powI b a)))] ∧ left = k ∧ a + e * left = L ∧ e ≤ 200) ⟨L, rfl, 0, 1, L, ?_, rfl, by omega, by decide⟩ ?_
  · rw [pow_1 hb w1 w3, powI, hb.1]
  · rintro k ρ O ⟨rfl, a, e, left, rfl, rfl, hl, he⟩
    have ps := fun n => pow_sq hb w1 n
    have pb := fun n => pow_bd hb w1 w3 hbb n
    simp -implicitDefEqProofs only [vc, gt, st, so, oneK_1, gw0, gw1, gw2, gw3, gw4, nrK_d, gt_i, boolK_1]
    refine way (fun hp => ?_) fun hp => ?_
    · have hp : 0 < left := by omega
      have he2 : e ≤ 100 := by
        have := Nat.le_mul_of_pos_right e hp
        omega
      have step : ∀ a' : Nat, a' + (e + e) * (left / 2) = L → vcS GW ((YS.set 2 (Y.call 0 ((Y.var 2).cons ((Y.var 2).cons Y.nil)))).seq ((YS.set 3 (Y.bin .FloorDiv (Y.var 3) (Y.int 2))).seq YS.nil)) E ⟨fun ρ2 O3 => ∃ m', m' < left ∧ O3 = [] ∧ ∃ a e left : Nat, ρ2 = [some (.d (.tup (m.map vecD))), some (.d (.int n)), some (.d (matD (powI b e))), some (.d (.int left)), some (.d (matD (powI b a)))] ∧ left = m' ∧ a + e * left = L ∧ e ≤ 200, N.rt, fun ρ' O' => vcS GW ((YS.ret (Y.var 4)).seq YS.nil) E N ρ' O', fun ρ2 O3 => ∃ m', m' < left ∧ O3 = [] ∧ ∃ a e left : Nat, ρ2 = [some (.d (.tup (m.map vecD))), some (.d (.int n)), some (.d (matD (powI b e))), some (.d (.int left)), some (.d (matD (powI b a)))] ∧ left = m' ∧ a + e * left = L ∧ e ≤ 200⟩ [some (.d (.tup (m.map vecD))), some (.d (.int n)), some (.d (matD (powI b e))), some (.d (.int left)), some (.d (matD (powI b a')))] [] := fun a' ha' => by
        rw [vs_seq, vs_set]
        simp -implicitDefEqProofs only [vc, gt, st, so, oneK_1, gw0, gw1, gw2, gw3, gw4]
        refine callD0 [matD (powI b e), matD (powI b e)] fun F X hF => ⟨_, _, w, _, _, rfl, rfl, w1, w3, ps e, ps e, pb e, pb e, by omega, hF _ ?_⟩
        try simp -implicitDefEqProofs only [gt, st, so, oneK_1, gw0, gw1, gw2, gw3, gw4]
        rw [vs_seq, vs_set]
        simp -implicitDefEqProofs only [vc, gt, st, so, oneK_1, gw0, gw1, gw2, gw3, gw4, nrK_d, div_i]
        refine ⟨⟨by decide, by decide⟩, ?_⟩
        rw [vs_nil]
        rw [fd2, ← pow_add' hb w1 w3]
        exact ⟨left / 2, by omega, rfl, a', e + e, left / 2, rfl, rfl, ha', by omega⟩
      rw [vs_seq, vs_ite]
      simp -implicitDefEqProofs only [vc, gt, st, so, oneK_1, gw0, gw1, gw2, gw3, gw4, nrK_d, mod_i, eq_i, boolK_1]
      rw [fm2]
      refine ⟨by decide, way (fun ho => ?_) fun ho => ?_⟩
      · rw [vs_seq, vs_set]
        simp -implicitDefEqProofs only [vc, gt, st, so, oneK_1, gw0, gw1, gw2, gw3, gw4]
        refine callD0 [matD (powI b a), matD (powI b e)] fun F X hF => ⟨_, _, w, _, _, rfl, rfl, w1, w3, ps a, ps e, pb a, pb e, by omega, hF _ ?_⟩
        try simp -implicitDefEqProofs only [gt, st, so, oneK_1, gw0, gw1, gw2, gw3, gw4]
        rw [vs_nil, ← pow_add' hb w1 w3]
        refine step (a + e) ?_
        have : left = 2 * (left / 2) + 1 := by omega
        rw [← hl]
        conv => rhs; rw [this]
        rw [Nat.add_mul, Nat.mul_add, Nat.mul_left_comm e 2, Nat.two_mul]
        omega
      · rw [vs_nil]
        refine step a ?_
        have : left = 2 * (left / 2) := by omega
        rw [← hl]
        conv => rhs; rw [this]
        rw [Nat.add_mul, Nat.mul_left_comm e 2, Nat.two_mul]
    · have hz : left = 0 := by omega
      subst hz
      have : a = L := by omega
      subst this
      rw [vs_seq, vs_ret]
      simp -implicitDefEqProofs only [vc, gt, st, so, oneK_1, gw0, gw1, gw2, gw3, gw4]
      exact h
theorem k_power : Keeps GW y_power N_power.length powerZ := by
  rintro us O Q E ⟨d, t, rfl, rfl, hd, ht, he1, he2, h⟩
  show vcS GW y_power E _ [some (.d d), some (.d t), none, none, none] []
  unfold y_power
  rw [vs_seq, vs_ite]
  simp -implicitDefEqProofs only [vc, gt, st, so, oneK_1, gw0, gw1, gw2, gw3, gw4]
  refine callD0 [d] fun F X hF => ⟨d, rfl, rfl, hd, hF _ ?_⟩
  cases q : isUniA d with
  | false =>
    simp -implicitDefEqProofs only [gt, st, so, oneK_1, gw0, gw1, gw2, gw3, gw4, boolK_1, Bool.not_false]
    refine ⟨fun _ => ?_, fun z => by cases z⟩
    rw [vs_seq]
    simp -implicitDefEqProofs only [vcS, vc, tosK_0]
    exact ⟨rfl, _, rfl, he1 q⟩
  | true =>
    simp -implicitDefEqProofs only [gt, st, so, oneK_1, gw0, gw1, gw2, gw3, gw4, boolK_1, Bool.not_true]
    refine ⟨(fun z => by cases z), fun _ => ?_⟩
    rw [vs_nil]
    dsimp only
    rw [vs_seq, vs_ite]
    simp -implicitDefEqProofs only [vc, gt, st, so, oneK_1, gw0, gw1, gw2, gw3, gw4, nrK_d]
    refine callD0 [t, .int (-100), .int 100] fun F X hF => ⟨t, -100, 100, rfl, rfl, ht, hF _ ?_⟩
    cases q2 : isNumB (-100) 100 t with
    | false =>
      simp -implicitDefEqProofs only [gt, st, so, oneK_1, gw0, gw1, gw2, gw3, gw4, boolK_1, Bool.not_false]
      refine ⟨fun _ => ?_, fun z => by cases z⟩
      rw [vs_seq]
      simp -implicitDefEqProofs only [vcS, vc, gt, oneK_1, tosK_1]
      exact ⟨rfl, _, rfl, he2 q q2⟩
    | true =>
      simp -implicitDefEqProofs only [gt, st, so, oneK_1, gw0, gw1, gw2, gw3, gw4, boolK_1, Bool.not_true]
      refine ⟨(fun z => by cases z), fun _ => ?_⟩
      rw [vs_nil]
      dsimp only
      cases t with
      | int n =>
        have q2 : (decide (-100 ≤ n) && decide (n ≤ 100)) = true := q2
        rw [Bool.and_eq_true, decide_eq_true_eq, decide_eq_true_eq] at q2
        have h := h q n rfl q2.1 q2.2
        obtain ⟨w, e, w1, w3, hm, hu, hb⟩ := uniA_of hd q
        rw [vs_seq, vs_set]
        simp -implicitDefEqProofs only [vc, gt, st, so, oneK_1, gw0, gw1, gw2, gw3, gw4, nrK_d, ge_i, boolK_1]
        refine way (fun hn => ?_) fun hn => ?_
        · rw [powZI, if_pos (by omega)] at h
          rw [e] at h ⊢
          rw [matOf_mat] at h
          exact pow_rest hm.1 w1 w3 hm (hb.mono (by decide)) (by omega) h
        · rw [powZI, if_neg (by omega)] at h
          refine callDE0 [d] fun F X hF hX => ?_
          refine ⟨d, rfl, rfl, hd, fun _ => hF _ ?_, fun z => ?_⟩
          · rw [e] at h ⊢
            rw [matOf_mat] at h ⊢
            try simp -implicitDefEqProofs only [gt, st, so, oneK_1, gw0, gw1, gw2, gw3, gw4]
            exact pow_rest hm.1 w1 w3 (undo_sq hm w1 w3) (undo_bd hm w1 w3 hb (by decide) hu) (by omega) h
          · rw [q] at z; cases z
      | _ => cases q2
/-! the order -/
def ordO (m : List (List Int)) : Option Nat := (List.range 6).find? fun i => decide (powI m (i + 1) = oneI m.length)
def ordD (m : List (List Int)) : D := match ordO m with
  | some i => .int (1 + (i : Int))
  | none => .non
def orderZ : ZSp := fun us O Q E => ∃ d : D, us = [.d d] ∧ O = [] ∧ Th d ∧ (isUniA d = false → E badM []) ∧ (isUniA d = true → Q (.d (ordD (matOf d))) [])
theorem pl_mat {w : Nat} {m : List (List Int)} (hm : SqI w m) (w3 : w ≤ 3) : Pl 2 (matD m) := .tup (by rw [List.length_map, hm.1]; omega) fun d hd => by
  obtain ⟨r, hr, rfl⟩ := List.mem_map.mp hd
  exact .tup (by rw [List.length_map, hm.2 r hr]; omega) fun x hx => by
    obtain ⟨n, _, rfl⟩ := List.mem_map.mp hx
    exact .int n
theorem eqv_mat (a b : List (List Int)) : PyData.eqv (toP (matD a)) (toP (matD b)) = decide (a = b) := by
  show PyData.eqv (toP (.tup (a.map vecD))) (toP (.tup (b.map vecD))) = _
  rw [toP, toP, PyData.eqv]
  exact eqv_rows a b
theorem eq_mat {w : Nat} {a b : List (List Int)} {Q : Bool → Prop} (ha : SqI w a) (hb : SqI w b) (w3 : w ≤ 3) (h : Q (decide (a = b))) : cmpD .Eq (matD a) (matD b) Q :=
  ⟨(pl_mat ha w3).shp (by decide), (pl_mat hb w3).shp (by decide), by rw [eqv_mat]; exact h⟩
theorem ne_mat {w : Nat} {a b : List (List Int)} {Q : Bool → Prop} (ha : SqI w a) (hb : SqI w b) (w3 : w ≤ 3) (h : Q (!decide (a = b))) : cmpD .NotEq (matD a) (matD b) Q :=
  ⟨(pl_mat ha w3).shp (by decide), (pl_mat hb w3).shp (by decide), by rw [eqv_mat]; exact h⟩
theorem find_of {p : Nat → Bool} : ∀ {n j : Nat}, j < n → p j = true → (∀ k, k < j → p k = false) → (List.range n).find? p = some j := fun {n j} hj hp hk => by
  rw [List.find?_eq_some_iff_append]
  refine ⟨hp, List.range j, (List.range' (j + 1) (n - j - 1)), ?_, fun a ha => ?_⟩
  · rw [List.range_eq_range', List.range_eq_range', show n = j + (1 + (n - j - 1)) by omega, ← List.range'_append_1, List.range'_append_1.symm]
    simp
  · rw [hk a (List.mem_range.mp ha)]
    rfl
theorem find_none {p : Nat → Bool} {n : Nat} (hk : ∀ k, k < n → p k = false) : (List.range n).find? p = none := by
  rw [List.find?_eq_none]
  intro x hx
  rw [hk x (List.mem_range.mp hx)]
  decide
def GO : List (Fk × ZSp) := [(("matrix_times" : Fk), mtimesZ), (("identity" : Fk), identityZ), (("is_any_unimodular" : Fk), isUniAZ)]
theorem go'0 : GO[0]? = some (("matrix_times" : Fk), (mtimesZ : ZSp)) := rfl
theorem go'1 : GO[1]? = some (("identity" : Fk), (identityZ : ZSp)) := rfl
theorem go'2 : GO[2]? = some (("is_any_unimodular" : Fk), (isUniAZ : ZSp)) := rfl
theorem k_order_of : Keeps GO y_order_of N_order_of.length orderZ := by
  rintro us O Q E ⟨d, rfl, rfl, hd, he, h⟩
  show vcS GO y_order_of E _ [some (.d d), none, none, none] []
  unfold y_order_of
  rw [vs_seq, vs_ite]
  simp -implicitDefEqProofs only [vc, gt, st, so, oneK_1, go'0, go'1, go'2]
  refine callD0 [d] fun F X hF => ⟨d, rfl, rfl, hd, hF _ ?_⟩
  cases q : isUniA d with
  | false =>
    simp -implicitDefEqProofs only [gt, st, so, oneK_1, go'0, go'1, go'2, boolK_1, Bool.not_false]
    refine ⟨fun _ => ?_, fun z => by cases z⟩
    rw [vs_seq]
    simp -implicitDefEqProofs only [vcS, vc, tosK_0]
    exact ⟨rfl, _, rfl, he q⟩
  | true =>
    have h := h q
    obtain ⟨w, e, w1, w3, hm, hu, hb⟩ := uniA_of hd q
    rw [e]
    rw [← matOf_mat (matOf d)] at h
    rw [matOf_mat] at h
    generalize matOf d = m at *
    clear e q hd he
    simp -implicitDefEqProofs only [gt, st, so, oneK_1, go'0, go'1, go'2, boolK_1, Bool.not_true]
    refine ⟨(fun z => by cases z), fun _ => ?_⟩
    rw [vs_nil]
    dsimp only
    rw [vs_seq, vs_set]
    rw [show matD m = .tup (m.map vecD) from rfl]
    simp -implicitDefEqProofs only [vc, gt, st, so, oneK_1, go'0, go'1, go'2, nrsK_1, len_t, List.length_map]
    rw [hm.1]
    refine callD0 [.int w] fun F X hF => ⟨w, rfl, rfl, by omega, hF _ ?_⟩
    try simp -implicitDefEqProofs only [gt, st, so, oneK_1, go'0, go'1, go'2]
    rw [show D.tup (m.map vecD) = matD m from rfl]
    rw [vs_seq, vs_set]
    simp -implicitDefEqProofs only [vc, gt, st, so, oneK_1, go'0, go'1, go'2]
    rw [vs_seq, vs_for]
    simp -implicitDefEqProofs only [vc, gt, st, so, oneK_1, go'0, go'1, go'2, nrK_d, add_i]
    refine ⟨by decide, _, rfl, ?_⟩
    have ps := fun n => pow_sq hm w1 n
    have pb := fun n => pow_bd hm w1 w3 hb n
    refine forR_inv (fun i ρ O => O = [] ∧ i ≤ 6 ∧ ∃ x, ρ = [some (.d (matD m)), some (.d (matD (oneI w))), some (.d (matD (powI m (i + 1)))), x] ∧ ∀ k, k < i → powI m (k + 1) ≠ oneI w) _ _ _ 0 ⟨rfl, by decide, none, by rw [Nat.zero_add, pow_1 hm w1 w3], fun k hk => by omega⟩ ?_ ?_
    · rintro j d ρ O e1 ⟨rfl, hj, x, rfl, hk⟩ N hN
      rw [Nat.zero_add] at *
      have hj6 : j < 6 := by
        have := (List.getElem?_eq_some_iff.mp e1).1
        rw [List.length_map, List.length_range] at this
        exact this
      have ed : d = .int (1 + (j : Int)) := by
        rw [List.getElem?_map, List.getElem?_range (by exact hj6)] at e1
        exact (Option.some.inj e1).symm
      subst ed
      simp -implicitDefEqProofs only [bindT, st]
      rw [vs_seq, vs_ite]
      simp -implicitDefEqProofs only [vc, gt, st, so, oneK_1, go'0, go'1, go'2, nrK_d]
      refine eq_mat (ps (j + 1)) (one_sq w) w3 ?_
      simp -implicitDefEqProofs only [gt, st, so, oneK_1, go'0, go'1, go'2, boolK_1]
      refine way (fun he => ?_) fun he => ?_
      · rw [vs_seq, vs_ret]
        simp -implicitDefEqProofs only [vc, gt, st, so, oneK_1, go'0, go'1, go'2, unb_0]
        have : ordD m = .int (1 + (j : Int)) := by
          unfold ordD ordO
          rw [find_of hj6 (decide_eq_true (by rw [hm.1]; exact he)) fun k hk' => decide_eq_false (by rw [hm.1]; exact hk k hk')]
        rw [this] at h
        exact h
      · rw [vs_nil]
        dsimp only
        rw [vs_seq, vs_set]
        simp -implicitDefEqProofs only [vc, gt, st, so, oneK_1, go'0, go'1, go'2]
        refine callD0 [matD (powI m (j + 1)), matD m] fun F X hF => ⟨_, _, w, _, _, rfl, rfl, w1, w3, ps _, hm, pb _, hb, by omega, hF _ ?_⟩
        try simp -implicitDefEqProofs only [gt, st, so, oneK_1, go'0, go'1, go'2]
        rw [vs_nil]
        refine hN _ _ ⟨rfl, by omega, _, rfl, fun k hk' => ?_⟩
        by_cases hkj : k = j
        · rw [hkj]; exact he
        · exact hk k (by omega)
    · rintro ρ O ⟨rfl, hj, x, rfl, hk⟩
      dsimp only
      rw [vs_seq, vs_ret]
      simp -implicitDefEqProofs only [vc, gt, st, so, oneK_1, go'0, go'1, go'2, unb_0]
      have : ordD m = .non := by
        unfold ordD ordO
        rw [find_none fun k hk' => decide_eq_false (by rw [hm.1]; exact hk k (by simpa using hk'))]
      rw [this] at h
      exact h
end Z

set_option Elab.async false
set_option linter.all false
set_option maxRecDepth 100000
set_option maxHeartbeats 4000000
namespace Z
open PySem PySem.Spec PyProof.Rows L2
/-! ### the law's powers and orders -/
def lpowerZ : ZSp := fun us O Q E => ∃ (m : List (List Int)) (n : Int) (w : Nat), us = [.d (matD m), .d (.int n)] ∧ O = [] ∧ SqI w m ∧ 1 ≤ w ∧ w ≤ 3 ∧ Uni m ∧ Bds 400 m ∧ n.natAbs ≤ 100 ∧ Q (.d (matD (powZI m n))) []
def GLP : List (Fk × ZSp) := [(("_law_undo" : Fk), lundoZ), (("_law_mul" : Fk), mtimesZ), (("_law_one" : Fk), identityZ)]
theorem glp0 : GLP[0]? = some (("_law_undo" : Fk), (lundoZ : ZSp)) := rfl
theorem glp1 : GLP[1]? = some (("_law_mul" : Fk), (mtimesZ : ZSp)) := rfl
theorem glp2 : GLP[2]? = some (("_law_one" : Fk), (identityZ : ZSp)) := rfl
theorem rg_i {i n : Nat} {d : D} {a : Int} (e : ((List.range n).map fun (i : Nat) => D.int (a + (i : Int)))[i]? = some d) : i < n ∧ d = .int (a + (i : Int)) := by
  have hi := (List.getElem?_eq_some_iff.mp e).1
  rw [List.length_map, List.length_range] at hi
  rw [List.getElem?_map, List.getElem?_range hi] at e
  exact ⟨hi, (Option.some.inj e).symm⟩
theorem k_law_power : Keeps GLP y__law_power N__law_power.length lpowerZ := by
  rintro us O Q E ⟨m, n, w, rfl, rfl, hm, w1, w3, hu, hb, hn, h⟩
  show vcS GLP y__law_power E _ [some (.d (matD m)), some (.d (.int n)), none, none] []
  unfold y__law_power
  rw [vs_seq, vs_set]
  rw [show matD m = .tup (m.map vecD) from rfl]
  simp -implicitDefEqProofs only [vc, gt, st, so, oneK_1, glp0, glp1, glp2, nrsK_1, len_t, List.length_map]
  rw [hm.1]
  refine callD0 [.int w] fun F X hF => ⟨w, rfl, rfl, by omega, hF _ ?_⟩
  try simp -implicitDefEqProofs only [gt, st, so, oneK_1, glp0, glp1, glp2]
  rw [show D.tup (m.map vecD) = matD m from rfl]
  rw [vs_seq, vs_for]
  simp -implicitDefEqProofs only [vc, gt, st, so, oneK_1, glp0, glp1, glp2, nrsK_1, abs_i, nrK_d, Int.toNat_natCast]
  refine ⟨⟨by omega, by omega⟩, _, rfl, ?_⟩
  have ps := fun n => pow_sq hm w1 n
  have pb := fun n => pow_bd hm w1 w3 hb n
  refine forR_inv (fun i ρ O => O = [] ∧ i ≤ n.natAbs ∧ ∃ x, ρ = [some (.d (matD m)), some (.d (.int n)), some (.d (matD (powI m i))), x]) _ _ _ 0 ⟨rfl, Nat.zero_le _, none, by rw [powI, hm.1]⟩ ?_ ?_
  · rintro j d ρ O e1 ⟨rfl, hj, x, rfl⟩ N hN
    rw [Nat.zero_add] at *
    obtain ⟨hj, rfl⟩ := rg_i e1
    simp -implicitDefEqProofs only [bindT, st]
    rw [vs_seq, vs_set]
    simp -implicitDefEqProofs only [vc, gt, st, so, oneK_1, glp0, glp1, glp2]
    refine callD0 [matD (powI m j), matD m] fun F X hF => ⟨_, _, w, _, _, rfl, rfl, w1, w3, ps _, hm, pb _, hb, by omega, hF _ ?_⟩
    try simp -implicitDefEqProofs only [gt, st, so, oneK_1, glp0, glp1, glp2]
    rw [vs_nil]
    exact hN _ _ ⟨rfl, by omega, _, rfl⟩
  · rintro ρ O ⟨rfl, hj, x, rfl⟩
    rw [List.length_map, List.length_range, Nat.zero_add]
    dsimp only
    rw [vs_seq, vs_ret]
    simp -implicitDefEqProofs only [vc, gt, st, so, oneK_1, glp0, glp1, glp2, nrK_d, ge_i, boolK_1, unb_0]
    refine way (fun h0 => ?_) fun h0 => ?_
    · rw [powZI, if_pos (by omega)] at h
      exact h
    · rw [powZI, if_neg (by omega), ← undo_pow hm w1 w3 hu] at h
      exact callD0 [matD (powI m n.natAbs)] fun F X hF => ⟨_, w, n.natAbs * (400 + 3) + 1, rfl, rfl, ps _, w1, w3, pb _, by omega, by omega, hF _ h⟩
def lorderZ : ZSp := fun us O Q E => ∃ (m : List (List Int)) (w : Nat), us = [.d (matD m)] ∧ O = [] ∧ SqI w m ∧ 1 ≤ w ∧ w ≤ 3 ∧ Uni m ∧ Bds 400 m ∧ Q (.d (ordD m)) []
def GLO : List (Fk × ZSp) := [(("_law_power" : Fk), lpowerZ), (("_law_one" : Fk), identityZ)]
theorem glo0 : GLO[0]? = some (("_law_power" : Fk), (lpowerZ : ZSp)) := rfl
theorem glo1 : GLO[1]? = some (("_law_one" : Fk), (identityZ : ZSp)) := rfl
theorem k_law_order : Keeps GLO y__law_order N__law_order.length lorderZ := by
  rintro us O Q E ⟨m, w, rfl, rfl, hm, w1, w3, hu, hb, h⟩
  show vcS GLO y__law_order E _ [some (.d (matD m)), none, none] []
  unfold y__law_order
  rw [vs_seq, vs_set]
  simp -implicitDefEqProofs only [vc, gt, st, so, oneK_1, glo0, glo1, nrK_d, wipeR, wipeR.rm, List.length_nil]
  refine ⟨by decide, _, rfl, by decide, ?_⟩
  have ps := fun n => pow_sq hm w1 n
  refine compR_filter (fun d => decide (powI m (intOf d).toNat = oneI w)) id (Nat.zero_le _) _ _ (fun d hd F S h1 h2 => ?_) ?_
  · obtain ⟨i, hi, rfl⟩ := List.mem_map.mp hd
    rw [List.mem_range] at hi
    have hi : i < 6 := hi
    have ez : powZI m (1 + (i : Int)) = powI m (intOf (.int (1 + (i : Int)))).toNat := by
      rw [powZI, if_pos (by omega)]
      congr 1
    simp only [bindT, gt, st, oneK_1]
    refine callD0 [matD m, .int (1 + (i : Int))] fun F2 X hF2 => ⟨m, _, w, rfl, rfl, hm, w1, w3, hu, hb, by omega, hF2 _ ?_⟩
    rw [ez]
    generalize intOf (.int (1 + (i : Int))) = q at *
    rw [show matD m = .tup (m.map vecD) from rfl]
    simp only [oneK_1, nrsK_1, len_t, List.length_map]
    rw [hm.1]
    refine callD0 [.int w] fun F2 X hF2 => ⟨w, rfl, rfl, by omega, hF2 _ ?_⟩
    simp only [oneK_1, nrK_d]
    refine eq_mat (ps _) (one_sq w) w3 ?_
    simp only [boolK_1]
    exact ⟨fun z => h1 z, fun z => h2 z⟩
  · rw [List.map_id, List.nil_append, List.filter_map]
    have ef : ((fun d => decide (powI m (intOf d).toNat = oneI w)) ∘ fun (i : Nat) => D.int (1 + (i : Int))) = fun i : Nat => decide (powI m (i + 1) = oneI m.length) := by
      funext i
      show decide (powI m (1 + (i : Int)).toNat = oneI w) = _
      rw [show (1 + (i : Int)).toNat = i + 1 by omega, hm.1]
    rw [ef, show ((7 : Int) - 1).toNat = 6 from rfl]
    have hh : ordO m = ((List.range 6).filter fun i => decide (powI m (i + 1) = oneI m.length)).head? := (List.head?_filter).symm
    generalize hfl : ((List.range 6).filter fun i => decide (powI m (i + 1) = oneI m.length)) = fl at *
    have hfl6 : fl.length ≤ 6 := by
      rw [← hfl]
      exact List.length_filter_le ..
    simp -implicitDefEqProofs only [gt, st, so, oneK_1, glo0, glo1, newL, unb_0]
    rw [vs_seq, vs_ret]
    simp -implicitDefEqProofs only [vc, gt, st, so, oneK_1, glo0, glo1, tosK_0, newL, nrK_d]
    refine ⟨by decide, ?_⟩
    refine ne_nil (n := 1) (.lst (by rw [List.length_map]; omega) fun d hd => by
      obtain ⟨i, _, rfl⟩ := List.mem_map.mp hd
      exact .int _) (by decide) ?_
    cases fl with
    | nil =>
      simp -implicitDefEqProofs only [gt, st, so, oneK_1, glo0, glo1, boolK_1, List.map_nil, List.isEmpty_nil, Bool.not_true]
      refine ⟨(fun z => by cases z), fun _ => ?_⟩
      unfold ordD at h
      rw [hh] at h
      exact h
    | cons i fl =>
      simp -implicitDefEqProofs only [gt, st, so, oneK_1, glo0, glo1, boolK_1, List.map_cons, List.isEmpty_cons, Bool.not_false, nrK_d, ix_l, at_0, ex_some]
      refine ⟨fun _ => ?_, fun z => by cases z⟩
      unfold ordD at h
      rw [hh] at h
      exact h
/-! ### mixed: the same in another order -/
def mixedZ : ZSp := fun us O Q _ => ∃ (ds xs : List D), us = [.o 0, .d (.lst xs)] ∧ O = [.lst ds] ∧ BagOk ds ∧ xs.length ≤ 1000 ∧ ∀ ys ds', ys.Perm xs → BagOk ds' → Q (.d (.lst ys)) [.lst ds']
theorem vs_ex' {Γ : List (Fk × ZSp)} {y : Y} {E : ZX} {D : ZD} {ρ : List (Option U)} {O : List DO} : vcS Γ (.ex y) E D ρ O = vc Γ y E ρ O fun us O1 => oneK us fun _ => D.nx ρ O1 := rfl
def GMX : List (Fk × ZSp) := [(("_law_draw" : Fk), drawZ)]
theorem gmx0 : GMX[0]? = some (("_law_draw" : Fk), (drawZ : ZSp)) := rfl
theorem k_law_mixed : KeepsD GMX y__law_mixed N__law_mixed.length mixedZ := by
  rintro us O Q E ⟨ds, xs, rfl, rfl, hb, hl, h⟩
  show vcS GMX y__law_mixed E _ [some (.o 0), some (.d (.lst xs)), none, none] _
  unfold y__law_mixed
  rw [vs_seq, vs_set]
  simp -implicitDefEqProofs only [vc, gt, st, so, oneK_1, gmx0, tosK_0, newL, List.length_nil, List.length_cons, List.nil_append, List.cons_append]
  refine ⟨(by decide : 0 ≤ sizeLine), ?_⟩
  rw [vs_seq, vs_for]
  simp -implicitDefEqProofs only [vc, gt, st, so, oneK_1, gmx0, brK_d]
  refine ⟨_, rfl, ?_⟩
  refine forR_inv (fun i ρ O => ∃ (ds ys : List D) (x3 : Option U), O = [.lst ds, .lst ys] ∧ BagOk ds ∧ ρ = [some (.o 0), some (.d (.lst xs)), some (.o 1), x3] ∧ ys.Perm (xs.take i) ∧ i ≤ xs.length) _ _ _ 0 ⟨ds, [], none, rfl, hb, rfl, by simp, Nat.zero_le _⟩ ?_ ?_
  · rintro j d ρ O e ⟨ds, ys, x3, rfl, hb, rfl, hp, hjv⟩ N hN
    rw [Nat.zero_add] at hp hN
    have hjl := (List.getElem?_eq_some_iff.mp e).1
    have hyl : ys.length = j := by rw [hp.length_eq, List.length_take]; omega
    simp -implicitDefEqProofs only [bindT, gt, st]
    rw [vs_seq, vs_ex']
    have e1 : nrm [.lst ds, .lst ys] (.o 1) = some (.lst ys) := rfl
    simp -implicitDefEqProofs only [vc, gt, st, so, oneK_1, gmx0, nrsK_o e1, len_l, nrK_d, add_i]
    refine callO [.int ((ys.length : Int) + 1)] rfl fun F X hF => ⟨ds, (ys.length : Int) + 1, rfl, rfl, hb, by omega, by omega, fun r ds' h1 h2 hb' => hF _ _ ?_⟩
    simp -implicitDefEqProofs only [gt, st, so, oneK_1, gmx0, toK_d, go]
    obtain ⟨p, rfl⟩ := Int.eq_ofNat_of_zero_le h1
    have hp2 : p ≤ ys.length := by omega
    refine ⟨⟨by rw [hyl]; exact Nat.lt_of_lt_of_le (by omega : j < 1000) (by decide), by omega, by omega⟩, ?_⟩
    rw [vs_nil]
    refine hN _ _ ⟨ds', _, _, rfl, hb', rfl, ?_, by omega⟩
    rw [Int.toNat_natCast, List.take_add_one, e]
    simp only [Option.toList_some]
    have : (ys.take p ++ [d] ++ ys.drop p).Perm (ys ++ [d]) := by
      rw [List.append_assoc]
      refine (List.Perm.append_left _ List.perm_append_comm).trans ?_
      rw [← List.append_assoc, List.take_append_drop]
    exact this.trans (hp.append_right _)
  · rintro ρ O ⟨ds, ys, x3, rfl, hb, rfl, hp, hjv⟩
    dsimp only
    rw [Nat.zero_add, List.take_length] at hp
    rw [vs_seq, vs_ret]
    simp -implicitDefEqProofs only [vc, gt, st, so, oneK_1, gmx0, go, unb, unb1]
    exact ⟨_, rfl, h _ _ hp hb⟩
end Z

set_option Elab.async false
set_option linter.all false
set_option maxRecDepth 100000
set_option maxHeartbeats 4000000
namespace Z
open PySem PySem.Spec PyProof.Rows L2
/-! ### a unimodular matrix out of the bag -/
def All2 {α β : Type} (R : α → β → Prop) : List α → List β → Prop
  | [], [] => True
  | a :: l, x :: xs => R a x ∧ All2 R l xs
  | _, _ => False
theorem All2.len {α β : Type} {R : α → β → Prop} : ∀ {l : List α} {xs : List β}, All2 R l xs → l.length = xs.length
  | [], [], _ => rfl
  | _ :: _, _ :: _, h => congrArg (· + 1) h.2.len
theorem draws2 {α : Type} {tg : T1} {ve : List (Option U) → List DO → ZQ → Prop} {ρ0 : List (Option U)} {f : α → D} {R : α → D → Prop} {Q : List D → List DO → Prop} : ∀ (l : List α) (acc : List D) {ds0 : List D}, BagOk ds0 →
    (∀ a ∈ l, ∀ ds, BagOk ds → ∀ F : ZQ, (∀ x ds', R a x → BagOk ds' → F [.d x] [.lst ds']) → bindT tg (f a) ρ0 fun ρ1 => ve ρ1 [.lst ds] F) →
    (∀ xs ds', All2 R l xs → BagOk ds' → Q (acc ++ xs) [.lst ds']) → compR tg yesV ve ρ0 1 (l.map f) acc [.lst ds0] Q
  | [], acc, ds0, hb, hs, hq => by
    rw [List.map_nil, compR_nil]
    have := hq [] ds0 trivial hb
    rw [List.append_nil] at this
    exact this
  | a :: l, acc, ds0, hb, hs, hq => by
    rw [List.map_cons, compR]
    refine bindT_mono (fun ρ1 z => ?_) (hs a List.mem_cons_self ds0 hb (fun ws O2 => oneK ws fun w => toK O2 w fun x => compR tg yesV ve ρ0 1 (l.map f) (acc ++ [x]) (O2.take 1) Q) fun x ds' hx hb' => ?_)
    · show boolK [.d (.bl true)] _
      rw [boolK_1]
      exact ⟨fun _ => z, fun h => by cases h⟩
    · rw [oneK_1, toK_d]
      refine draws2 l (acc ++ [x]) (ds0 := ds') hb' (fun a ha => hs a (List.mem_cons_of_mem _ ha)) fun xs ds2 h2 hb2 => ?_
      rw [List.append_assoc]
      exact hq (x :: xs) ds2 ⟨hx, h2⟩ hb2
def lstI (r : List Int) : D := .lst (r.map D.int)
def Sg : List Int → List Int → Prop := All2 fun x y => y = x ∨ y = -x
theorem all2_map {α β γ : Type} {R : α → β → Prop} {g : γ → β} : ∀ {l : List α} {xs : List β}, All2 R l xs → (∀ x ∈ xs, ∃ c, x = g c) → ∃ cs, xs = cs.map g ∧ All2 (fun a c => R a (g c)) l cs
  | [], [], _, _ => ⟨[], rfl, trivial⟩
  | a :: l, x :: xs, h, hx => by
    obtain ⟨c, rfl⟩ := hx x List.mem_cons_self
    obtain ⟨cs, rfl, h2⟩ := all2_map h.2 fun y hy => hx y (List.mem_cons_of_mem _ hy)
    exact ⟨c :: cs, rfl, h.1, h2⟩
theorem all2_get {α β γ : Type} {P : α → γ → Prop} {g : γ → β} : ∀ {l : List α} {xs : List β}, All2 (fun a x => ∃ c, x = g c ∧ P a c) l xs → ∃ cs, xs = cs.map g ∧ All2 P l cs
  | [], [], _ => ⟨[], rfl, trivial⟩
  | a :: l, x :: xs, h => by
    obtain ⟨c, rfl, hp⟩ := h.1
    obtain ⟨cs, rfl, h2⟩ := all2_get h.2
    exact ⟨c :: cs, rfl, hp, h2⟩
theorem sg1 {a : Int} {r : List Int} (h : Sg [a] r) : ∃ x, r = [x] ∧ (x = a ∨ x = -a) := by
  match r, h with
  | [x], h => exact ⟨x, rfl, h.1⟩
theorem sg2 {a b : Int} {r : List Int} (h : Sg [a, b] r) : ∃ x y, r = [x, y] ∧ (x = a ∨ x = -a) ∧ (y = b ∨ y = -b) := by
  match r, h with
  | [x, y], h => exact ⟨x, y, rfl, h.1, h.2.1⟩
theorem sg3 {a b c : Int} {r : List Int} (h : Sg [a, b, c] r) : ∃ x y z, r = [x, y, z] ∧ (x = a ∨ x = -a) ∧ (y = b ∨ y = -b) ∧ (z = c ∨ z = -c) := by
  match r, h with
  | [x, y, z], h => exact ⟨x, y, z, rfl, h.1, h.2.1, h.2.2.1⟩
def E3 (i : Fin 3) : List Int := [[1, 0, 0], [0, 1, 0], [0, 0, 1]].getD i []
theorem sgE {i : Fin 3} {r : List Int} (h : Sg (E3 i) r) : ∃ s : Int, (s = 1 ∨ s = -1) ∧ r = (E3 i).map (s * ·) := by
  match i, h with
  | 0, h =>
    obtain ⟨x, y, z, rfl, h1, h2, h3⟩ := sg3 (a := 1) (b := 0) (c := 0) h
    exact ⟨x, h1, by show [x, y, z] = [x * 1, x * 0, x * 0]; rw [show y = 0 by omega, show z = 0 by omega]; simp⟩
  | 1, h =>
    obtain ⟨x, y, z, rfl, h1, h2, h3⟩ := sg3 (a := 0) (b := 1) (c := 0) h
    exact ⟨y, h2, by show [x, y, z] = [y * 0, y * 1, y * 0]; rw [show x = 0 by omega, show z = 0 by omega]; simp⟩
  | 2, h =>
    obtain ⟨x, y, z, rfl, h1, h2, h3⟩ := sg3 (a := 0) (b := 0) (c := 1) h
    exact ⟨z, h3, by show [x, y, z] = [z * 0, z * 0, z * 1]; rw [show x = 0 by omega, show y = 0 by omega]; simp⟩
theorem det_E3 : ∀ i j k : Fin 3, i ≠ j → i ≠ k → j ≠ k → ∀ s t u : Bool, (detI [(E3 i).map ((if s then 1 else -1) * ·), (E3 j).map ((if t then 1 else -1) * ·), (E3 k).map ((if u then 1 else -1) * ·)] = 1 ∨ detI [(E3 i).map ((if s then 1 else -1) * ·), (E3 j).map ((if t then 1 else -1) * ·), (E3 k).map ((if u then 1 else -1) * ·)] = -1) := by decide
theorem E3_inj : ∀ i j : Fin 3, E3 i = E3 j → i = j := by decide
theorem pm {s : Int} (h : s = 1 ∨ s = -1) : ∃ b : Bool, s = if b = true then 1 else -1 := by
  rcases h with rfl | rfl
  · exact ⟨true, rfl⟩
  · exact ⟨false, rfl⟩
theorem mem_E3 {r : List Int} (h : r ∈ oneI 3) : ∃ i, r = E3 i := by
  have h : r ∈ [[1, 0, 0], [0, 1, 0], [0, 0, 1]] := h
  simp only [List.mem_cons, List.not_mem_nil, or_false] at h
  rcases h with rfl | rfl | rfl
  · exact ⟨0, rfl⟩
  · exact ⟨1, rfl⟩
  · exact ⟨2, rfl⟩
theorem bd_pm {x : Int} (h : x = 1 ∨ x = -1 ∨ x = 0) : Bd 1 x := by
  rcases h with rfl | rfl | rfl <;> (unfold Bd; decide)
/-- the start: rows of the identity, exchanged and turned -/
theorem start_ok {w : Nat} {ws M : List (List Int)} (w1 : 1 ≤ w) (w3 : w ≤ 3) (hp : ws.Perm (oneI w)) (h : All2 Sg ws M) : SqI w M ∧ Uni M ∧ Bds 1 M := by
  have hw : w = 1 ∨ w = 2 ∨ w = 3 := by omega
  have hl : ws.length = w := by rw [hp.length_eq, (one_sq w).1]
  rcases hw with rfl | rfl | rfl
  · match ws, hl, M, h with
    | [a], _, [r], h =>
      have ha : a ∈ oneI 1 := hp.mem_iff.mp (by simp)
      have ha : a ∈ [[(1 : Int)]] := ha
      rw [List.mem_singleton] at ha
      subst ha
      obtain ⟨x, rfl, hx⟩ := sg1 h.1
      refine ⟨⟨rfl, by simp⟩, hx, ?_⟩
      unfold Bds
      simp only [List.mem_singleton, forall_eq]
      exact bd_pm (by omega)
  · match ws, hl, M, h with
    | [a, b], _, [r, q], h =>
      have nd : [a, b].Nodup := hp.nodup_iff.mpr (by decide)
      have ha : a ∈ [[(1 : Int), 0], [0, 1]] := hp.mem_iff.mp (by simp)
      have hb : b ∈ [[(1 : Int), 0], [0, 1]] := hp.mem_iff.mp (by simp)
      have hne : a ≠ b := by
        simp at nd
        exact nd
      simp only [List.mem_cons, List.not_mem_nil, or_false] at ha hb
      have fin : ∀ {p q u v : Int}, ((p = 1 ∨ p = -1) ∧ q = 0 ∧ u = 0 ∧ (v = 1 ∨ v = -1)) ∨ (p = 0 ∧ (q = 1 ∨ q = -1) ∧ (u = 1 ∨ u = -1) ∧ v = 0) → SqI 2 [[p, q], [u, v]] ∧ Uni [[p, q], [u, v]] ∧ Bds 1 [[p, q], [u, v]] := fun {p q u v} h => by
        refine ⟨⟨rfl, by simp⟩, ?_, ?_⟩
        · unfold Uni
          simp only [detI]
          rcases h with ⟨rfl | rfl, rfl, rfl, rfl | rfl⟩ | ⟨rfl, rfl | rfl, rfl | rfl, rfl⟩ <;> decide
        · unfold Bds
          simp only [List.mem_cons, List.not_mem_nil, or_false, forall_eq_or_imp, forall_eq]
          refine ⟨⟨bd_pm (by omega), bd_pm (by omega)⟩, bd_pm (by omega), bd_pm (by omega)⟩
      rcases ha with rfl | rfl <;> rcases hb with rfl | rfl
      · exact absurd rfl hne
      · obtain ⟨x, y, rfl, hx, hy⟩ := sg2 h.1
        obtain ⟨z, u, rfl, hz, hu⟩ := sg2 h.2.1
        exact fin (by omega)
      · obtain ⟨x, y, rfl, hx, hy⟩ := sg2 h.1
        obtain ⟨z, u, rfl, hz, hu⟩ := sg2 h.2.1
        exact fin (by omega)
      · exact absurd rfl hne
  · match ws, hl, M, h with
    | [a, b, c], _, [r, q, p], h =>
      have nd : [a, b, c].Nodup := hp.nodup_iff.mpr (by decide)
      obtain ⟨i, rfl⟩ := mem_E3 (hp.mem_iff.mp (by simp) : a ∈ oneI 3)
      obtain ⟨j, rfl⟩ := mem_E3 (hp.mem_iff.mp (by simp) : b ∈ oneI 3)
      obtain ⟨k, rfl⟩ := mem_E3 (hp.mem_iff.mp (by simp) : c ∈ oneI 3)
      obtain ⟨s, hs, rfl⟩ := sgE h.1
      obtain ⟨t, ht, rfl⟩ := sgE h.2.1
      obtain ⟨u, hu, rfl⟩ := sgE h.2.2.1
      simp only [List.nodup_cons, List.mem_cons, List.not_mem_nil, or_false, not_or] at nd
      obtain ⟨⟨n1, n2⟩, n3, _⟩ := nd
      have m1 : i ≠ j := fun e => n1 (by rw [e])
      have m2 : i ≠ k := fun e => n2 (by rw [e])
      have m3 : j ≠ k := fun e => n3 (by rw [e])
      obtain ⟨s, rfl⟩ := pm hs
      obtain ⟨t, rfl⟩ := pm ht
      obtain ⟨u, rfl⟩ := pm hu
      have l3 : ∀ i : Fin 3, (E3 i).length = 3 := by decide
      have b3 : ∀ (i : Fin 3) (s : Bool), ∀ x ∈ (E3 i).map ((if s = true then 1 else -1) * ·), x = 1 ∨ x = -1 ∨ x = 0 := by decide
      refine ⟨⟨rfl, ?_⟩, det_E3 i j k m1 m2 m3 s t u, ?_⟩
      · simp only [List.mem_cons, List.not_mem_nil, or_false, forall_eq_or_imp, forall_eq, List.length_map, l3]
        exact ⟨trivial, trivial, trivial⟩
      · unfold Bds
        simp only [List.mem_cons, List.not_mem_nil, or_false, forall_eq_or_imp, forall_eq]
        exact ⟨fun x hx => bd_pm (b3 i s x hx), fun x hx => bd_pm (b3 j t x hx), fun x hx => bd_pm (b3 k u x hx)⟩
/-- one row added to another -/
def addRow (M : List (List Int)) (t f : Nat) (c : Int) : List (List Int) := M.set t (zipI (fun a b => a + c * b) (M.getD t []) (M.getD f []))
theorem add_ok {w k : Nat} {M : List (List Int)} {t f : Nat} {c : Int} (hm : SqI w M) (w1 : 1 ≤ w) (w3 : w ≤ 3) (hu : Uni M) (hb : Bds k M) (ht : t < w) (hf : f < w) (hne : t ≠ f) (hc : Bd 2 c) : SqI w (addRow M t f c) ∧ Uni (addRow M t f c) ∧ Bds (k + 3) (addRow M t f c) := by
  have lt := hm.2 _ (row_mem hm ht)
  have lf := hm.2 _ (row_mem hm hf)
  have hl : (zipI (fun a b => a + c * b) (M.getD t []) (M.getD f [])).length = w := by
    unfold zipI
    rw [List.length_map, List.length_zip, lt, lf, Nat.min_self]
  refine ⟨⟨by unfold addRow; rw [List.length_set]; exact hm.1, fun r hr => ?_⟩, ?_, fun r hr x hx => ?_⟩
  · rcases List.mem_or_eq_of_mem_set hr with h | rfl
    · exact hm.2 r h
    · exact hl
  · unfold Uni at *
    have key : detI (addRow M t f c) = detI M := by
      unfold addRow
      have hw : w = 1 ∨ w = 2 ∨ w = 3 := by omega
      rcases hw with rfl | rfl | rfl
      · omega
      · rcases sq_shape hm.1 hm.2 (by decide) (by decide) with ⟨a, rfl⟩ | ⟨a, b, d, e, rfl⟩ | ⟨a, b, x, d, e, y, g, h, i, rfl⟩
        · exact absurd hm.1 (by simp)
        · have : (t = 0 ∧ f = 1) ∨ (t = 1 ∧ f = 0) := by omega
          rcases this with ⟨rfl, rfl⟩ | ⟨rfl, rfl⟩
          · show (a + c * d) * e - (b + c * e) * d = a * e - b * d
            grind
          · show a * (e + c * b) - b * (d + c * a) = a * e - b * d
            grind
        · exact absurd hm.1 (by simp)
      · rcases sq_shape hm.1 hm.2 (by decide) (by decide) with ⟨a, rfl⟩ | ⟨a, b, d, e, rfl⟩ | ⟨a, b, x, d, e, y, g, h, i, rfl⟩
        · exact absurd hm.1 (by simp)
        · exact absurd hm.1 (by simp)
        · have : (t = 0 ∧ f = 1) ∨ (t = 0 ∧ f = 2) ∨ (t = 1 ∧ f = 0) ∨ (t = 1 ∧ f = 2) ∨ (t = 2 ∧ f = 0) ∨ (t = 2 ∧ f = 1) := by omega
          rcases this with ⟨rfl, rfl⟩ | ⟨rfl, rfl⟩ | ⟨rfl, rfl⟩ | ⟨rfl, rfl⟩ | ⟨rfl, rfl⟩ | ⟨rfl, rfl⟩
          · show (a + c * d) * (e * i - y * h) - (b + c * e) * (d * i - y * g) + (x + c * y) * (d * h - e * g) = a * (e * i - y * h) - b * (d * i - y * g) + x * (d * h - e * g)
            grind
          · show (a + c * g) * (e * i - y * h) - (b + c * h) * (d * i - y * g) + (x + c * i) * (d * h - e * g) = a * (e * i - y * h) - b * (d * i - y * g) + x * (d * h - e * g)
            grind
          · show a * ((e + c * b) * i - (y + c * x) * h) - b * ((d + c * a) * i - (y + c * x) * g) + x * ((d + c * a) * h - (e + c * b) * g) = a * (e * i - y * h) - b * (d * i - y * g) + x * (d * h - e * g)
            grind
          · show a * ((e + c * h) * i - (y + c * i) * h) - b * ((d + c * g) * i - (y + c * i) * g) + x * ((d + c * g) * h - (e + c * h) * g) = a * (e * i - y * h) - b * (d * i - y * g) + x * (d * h - e * g)
            grind
          · show a * (e * (i + c * x) - y * (h + c * b)) - b * (d * (i + c * x) - y * (g + c * a)) + x * (d * (h + c * b) - e * (g + c * a)) = a * (e * i - y * h) - b * (d * i - y * g) + x * (d * h - e * g)
            grind
          · show a * (e * (i + c * y) - y * (h + c * e)) - b * (d * (i + c * y) - y * (g + c * d)) + x * (d * (h + c * e) - e * (g + c * d)) = a * (e * i - y * h) - b * (d * i - y * g) + x * (d * h - e * g)
            grind
    rw [key]
    exact hu
  · rcases List.mem_or_eq_of_mem_set hr with h | rfl
    · exact (hb r h x hx).mono (by omega)
    · unfold zipI at hx
      obtain ⟨p, hp, rfl⟩ := List.mem_map.mp hx
      obtain ⟨m1, m2⟩ := List.of_mem_zip (a := p.1) (b := p.2) hp
      exact ((hb _ (row_mem hm ht) _ m1).add (hc.mul (hb _ (row_mem hm hf) _ m2))).mono (by omega)
end Z

set_option Elab.async false
set_option linter.all false
set_option maxRecDepth 100000
set_option maxHeartbeats 4000000
namespace Z
open PySem PySem.Spec PyProof.Rows L2
def forB : YS → YS
  | .seq (.for_ _ _ b) _ => b
  | s => s
def uniZ (k : Nat) : ZSp := fun us O Q _ => ∃ (ds : List D) (w : Nat), us = [.o 0, .d (.int w)] ∧ O = [.lst ds] ∧ BagOk ds ∧ 1 ≤ w ∧ w ≤ 3 ∧ ∀ m ds', SqI w m → Uni m → Bds k m → BagOk ds' → Q (.d (matD m)) [.lst ds']
def GUN : List (Fk × ZSp) := [(("_law_draw" : Fk), drawZ), (("_law_mixed" : Fk), mixedZ), (("_law_one" : Fk), identityZ)]
theorem gun0 : GUN[0]? = some (("_law_draw" : Fk), (drawZ : ZSp)) := rfl
theorem gun1 : GUN[1]? = some (("_law_mixed" : Fk), (mixedZ : ZSp)) := rfl
theorem gun2 : GUN[2]? = some (("_law_one" : Fk), (identityZ : ZSp)) := rfl
theorem vs_seti {Γ : List (Fk × ZSp)} {E : ZX} {D : ZD} {ρ : List (Option U)} {O : List DO} {o ix y : Y} : vcS Γ (.seti o ix y) E D ρ O = vc Γ y E ρ O fun us O1 => oneK us fun u => vc Γ o E ρ O1 fun rs O2 => oneK rs fun r => vc Γ ix E ρ O2 fun ks O3 => oneK ks fun kx => match r, kx with
    | .o k, .d (.int i) => (match go O3 k with
      | some (.lst ds) => toK O3 u fun x => ∃ j, ixN ds.length i = some j ∧ D.nx ρ (so O3 k (.lst (ds.set j x)))
      | _ => False)
    | _, _ => False := rfl
theorem fmw (a : Nat) {w : Nat} (w1 : 1 ≤ w) : Int.fmod (a : Int) (w : Int) = ((a % w : Nat) : Int) := by
  rw [Int.fmod_eq_emod_of_nonneg _ (by omega)]
  omega
theorem zipL {x y : List Int} : List.zipWith (fun d e => D.tup [d, e]) (x.map D.int) (y.map D.int) = (x.zip y).map fun p => D.tup [.int p.1, .int p.2] := zipT
theorem lstI_at {M : List (List Int)} {w i : Nat} (hm : SqI w M) (hi : i < w) : atI (M.map lstI) (i : Int) = some (lstI (M.getD i [])) := at_getD (d := []) (by rw [hm.1]; exact hi)
theorem ix_ll {ds : List D} {i : Int} {Q : D → Prop} : ixD (.lst ds) (.int i) Q = ∃ d, atI ds i = some d ∧ Q d := rfl
theorem uni_loop {w c : Nat} {M : List (List Int)} {ds dsA : List D} {E : ZX} {N : ZD} {x4 x5 x6 x7 x8 x9 x10 x3 : Option U} (w1 : 1 ≤ w) (w3 : w ≤ 3) (hc : c = 0 ∨ 1 < w) (c3 : c ≤ 3) (hm : SqI w M) (hu : Uni M) (hb0 : Bds 1 M) (hb : BagOk ds)
    (hN : ∀ M' ds' x3 x4 x5 x6 x7 x8 x9 x10, SqI w M' → Uni M' → Bds 20 M' → BagOk ds' → N.nx [some (.o 0), some (.d (.int w)), some (.o 1), x3, x4, x5, x6, x7, x8, x9, x10] [.lst ds', .lst (M'.map lstI)]) :
    forR (.nm 3) (vcS GUN (forB (dropS 1 y__law_unimodular))) E N [.lst dsA, .lst (M.map lstI)] ((List.range c).map fun (i : Nat) => D.int (0 + (i : Int))) [some (.o 0), some (.d (.int w)), some (.o 1), x3, x4, x5, x6, x7, x8, x9, x10] [.lst ds, .lst (M.map lstI)] := by
  unfold y__law_unimodular
  simp only [dropS, forB]
  refine forR_inv (fun i ρ O => ∃ (ds : List D) (M : List (List Int)) (x3 x4 x5 x6 x7 x8 x9 x10 : Option U), O = [.lst ds, .lst (M.map lstI)] ∧ ρ = [some (.o 0), some (.d (.int w)), some (.o 1), x3, x4, x5, x6, x7, x8, x9, x10] ∧ BagOk ds ∧ SqI w M ∧ Uni M ∧ Bds (1 + 3 * i) M ∧ i ≤ c) _ _ _ 0 ⟨ds, M, _, _, _, _, _, _, _, _, rfl, rfl, hb, hm, hu, hb0, Nat.zero_le _⟩ ?_ ?_
  · rintro j d ρ O e1 ⟨ds, M, x3, x4, x5, x6, x7, x8, x9, x10, rfl, rfl, hb, hm, hu, hbd, hjc⟩ K hK
    rw [Nat.zero_add] at *
    obtain ⟨hj, rfl⟩ := rg_i e1
    have hw : 1 < w := by omega
    simp -implicitDefEqProofs only [bindT, st]
    rw [vs_seq, vs_par]
    simp -implicitDefEqProofs only [vc, gt, st, so, oneK_1, gun0, gun1, gun2, nrK_d, sub_i, add_i]
    refine callO [.int w] rfl fun F X hF => ⟨ds, w, rfl, rfl, hb, by omega, by omega, fun t ds1 a1 b1 c1 => hF _ _ ?_⟩
    obtain ⟨t, rfl⟩ := Int.eq_ofNat_of_zero_le a1
    simp -implicitDefEqProofs only [gt, st, so, oneK_1, gun0, gun1, gun2, nrK_d, sub_i, add_i]
    refine callO [.int (w - 1)] rfl fun F X hF => ⟨ds1, (w : Int) - 1, rfl, rfl, c1, by omega, by omega, fun p ds2 a2 b2 c2 => hF _ _ ?_⟩
    obtain ⟨p, rfl⟩ := Int.eq_ofNat_of_zero_le a2
    simp -implicitDefEqProofs only [gt, st, so, oneK_1, gun0, gun1, gun2, nrK_d, sub_i, add_i]
    rw [vs_seq, vs_tgt]
    have ht : t < w := by omega
    have hf : (t + (1 + p)) % w < w := Nat.mod_lt _ (by omega)
    have hne : t ≠ (t + (1 + p)) % w := by
      intro e
      have : (t + (1 + p)) % w = if t + (1 + p) < w then t + (1 + p) else t + (1 + p) - w := by
        split
        · exact Nat.mod_eq_of_lt (by omega)
        · rw [Nat.mod_eq_sub_mod (by omega), Nat.mod_eq_of_lt (by omega)]
      rw [this] at e
      split at e <;> omega
    have ef : Int.fmod ((t : Int) + (1 + (p : Int))) (w : Int) = (((t + (1 + p)) % w : Nat) : Int) := by
      rw [← fmw _ w1]
      congr 1
    simp -implicitDefEqProofs only [vc, gt, st, so, oneK_1, gun0, gun1, gun2, nrK_d, nrsK_1, add_i, int_i, mod_i, nrK_lst1, ix_ll]
    rw [ef]
    generalize (t + (1 + p)) % w = f at *
    refine ⟨by omega, _, lstI_at hm hf, ?_⟩
    refine callO [.int 5] rfl fun F X hF => ⟨ds2, 5, rfl, rfl, c2, by decide, by decide, fun q ds3 a3 b3 c3 => hF _ _ ?_⟩
    simp -implicitDefEqProofs only [gt, st, so, oneK_1, gun0, gun1, gun2, nrK_d, sub_i, tosK_2]
    refine ⟨sz (Nat.le_of_ble_eq_true rfl), ?_⟩
    simp -implicitDefEqProofs only [gt, st, so, oneK_1, gun0, gun1, gun2, toK_d, bindT, bindTs]
    have hq : Bd 2 (q - 2) := by unfold Bd; omega
    generalize q - 2 = v at *
    rw [vs_seq, vs_seti]
    have lt := hm.2 _ (row_mem hm ht)
    have lf := hm.2 _ (row_mem hm hf)
    rw [show lstI (M.getD f []) = .lst ((M.getD f []).map D.int) from rfl]
    simp -implicitDefEqProofs only [vc, gt, st, so, oneK_1, gun0, gun1, gun2, nrK_d, nrK_lst1, ix_ll, brK_d]
    refine ⟨_, lstI_at hm ht, ?_⟩
    rw [show lstI (M.getD t []) = .lst ((M.getD t []).map D.int) from rfl]
    simp -implicitDefEqProofs only [gt, st, so, oneK_1, gun0, gun1, gun2, brK_d, zipL, wipeR, wipeR.rm, List.length_cons, List.length_nil]
    refine ⟨_, rfl, zl (by omega), ?_⟩
    refine comp_rowsO (O := [.lst ds3, .lst (M.map lstI)]) (n := 2) rfl (fun p : Int × Int => D.tup [.int p.1, .int p.2]) (fun p => D.int (p.1 + v * p.2)) ((M.getD t []).zip (M.getD f [])) [] (fun r hr F hF => ?_) ?_
    · obtain ⟨m1, m2⟩ := List.of_mem_zip (a := r.1) (b := r.2) hr
      simp only [bindT, bindTs, gt, st, oneK_1, nrK_d, mul_i, add_i]
      exact ⟨hq.ok (hbd _ (row_mem hm hf) _ m2) (by omega), hF⟩
    · simp -implicitDefEqProofs only [newL, unb, unb1, oneK_1, List.nil_append, gt, toK_d, go, st]
      refine ⟨t, ?_, ?_⟩
      · unfold ixN
        rw [if_pos (by omega), List.length_map, hm.1, if_pos (by omega)]
        rfl
      · rw [vs_nil]
        obtain ⟨g1, g2, g3⟩ := add_ok hm w1 w3 hu hbd ht hf hne hq
        refine hK _ _ ⟨ds3, addRow M t f v, _, _, _, _, _, _, _, _, ?_, rfl, c3, g1, g2, g3.mono (by omega), by omega⟩
        unfold addRow
        rw [List.map_set]
        simp -implicitDefEqProofs only [so]
        unfold zipI
        rw [show lstI (((M.getD t []).zip (M.getD f [])).map fun p => p.1 + v * p.2) = D.lst (((M.getD t []).zip (M.getD f [])).map fun p => D.int (p.1 + v * p.2)) from by unfold lstI; rw [List.map_map]; rfl]
  · rintro ρ O ⟨ds, M, x3, x4, x5, x6, x7, x8, x9, x10, rfl, rfl, hb, hm, hu, hbd, hjc⟩
    rw [Nat.zero_add, List.length_map, List.length_range] at hbd
    exact hN M ds _ _ _ _ _ _ _ _ hm hu (hbd.mono (by omega)) hb
theorem uni_end {w : Nat} {M : List (List Int)} {ds : List D} {E : ZX} {N : ZD} {x4 x5 x6 x7 x8 x9 x10 x3 : Option U} (w3 : w ≤ 3) (hm : SqI w M)
    (hN : N.rt (.d (matD M)) [.lst ds, .lst (M.map lstI)]) :
    vcS GUN (dropS 2 y__law_unimodular) E N [some (.o 0), some (.d (.int w)), some (.o 1), x3, x4, x5, x6, x7, x8, x9, x10] [.lst ds, .lst (M.map lstI)] := by
  unfold y__law_unimodular
  simp only [dropS]
  rw [vs_seq, vs_ret]
  simp -implicitDefEqProofs only [vc, gt, st, so, oneK_1, gun0, gun1, gun2, brK_o (show go [DO.lst ds, DO.lst (M.map lstI)] 1 = some (.lst (M.map lstI)) from rfl), wipeR, wipeR.rm, List.length_cons, List.length_nil]
  refine ⟨_, rfl, len3 (by rw [hm.1]; omega), ?_⟩
  refine comp_rowsO (O := [.lst ds, .brw (M.map lstI)]) (n := 2) rfl lstI vecD M [] (fun r hr F hF => ?_) ?_
  · simp only [bindT, gt, st, oneK_1, nrsK_1, lstI, tuple_l]
    exact hF
  · simp -implicitDefEqProofs only [newL, unb, unb1, oneK_1, nrsK_1, List.nil_append, tuple_l]
    exact hN
theorem k_law_unimodular : KeepsD GUN y__law_unimodular N__law_unimodular.length (uniZ 20) := by
  rintro us O Q E ⟨ds, w, rfl, rfl, hb, w1, w3, h⟩
  show vcS GUN y__law_unimodular E _ [some (.o 0), some (.d (.int w)), none, none, none, none, none, none, none, none, none] [.lst ds]
  unfold y__law_unimodular
  rw [vs_seq, vs_set]
  simp -implicitDefEqProofs only [vc, gt, st, so, oneK_1, gun0, gun1, gun2, nrK_d]
  refine callD0 [.int w] fun F X hF => ⟨w, rfl, rfl, by omega, hF _ ?_⟩
  rw [show matD (oneI w) = .tup ((oneI w).map vecD) from rfl]
  simp -implicitDefEqProofs only [gt, st, so, oneK_1, gun0, gun1, gun2, nrsK_1, list_t]
  refine callO [.lst ((oneI w).map vecD)] rfl fun F X hF => ⟨ds, _, rfl, rfl, hb, by rw [List.length_map, (one_sq w).1]; omega, fun ys ds1 hp c1 => hF _ _ ?_⟩
  have hws : ∃ ws : List (List Int), ys = ws.map vecD ∧ ws.Perm (oneI w) := by
    refine ⟨ys.map rowOf, ?_, ?_⟩
    · rw [List.map_map]
      conv => lhs; rw [← List.map_id ys]
      refine List.map_congr_left fun y hy => ?_
      obtain ⟨r, _, rfl⟩ := List.mem_map.mp (hp.mem_iff.mp hy)
      show vecD r = vecD (rowOf (vecD r))
      rw [rowOf_vec]
    · have := hp.map rowOf
      rw [List.map_map] at this
      have e : ∀ r : List Int, (rowOf ∘ vecD) r = r := fun r => rowOf_vec r
      rw [List.map_congr_left fun x _ => e x, List.map_id'] at this
      exact this
  obtain ⟨ws, rfl, hpw⟩ := hws
  have hwl : ws.length = w := by rw [hpw.length_eq, (one_sq w).1]
  have hwr : ∀ r ∈ ws, r.length = w := fun r hr => (one_sq w).2 r (hpw.mem_iff.mp hr)
  have hwb : ∀ r ∈ ws, ∀ x ∈ r, Bd 1 x := fun r hr => one_bd w r (hpw.mem_iff.mp hr)
  simp -implicitDefEqProofs only [gt, st, so, oneK_1, gun0, gun1, gun2, brK_d, wipeR, wipeR.rm, List.length_cons, List.length_nil]
  refine ⟨_, rfl, len3 (by omega), ?_⟩
  refine draws2 (R := fun r d => ∃ r', d = lstI r' ∧ Sg r r') ws [] c1 (fun r hr ds2 hb2 F hF => ?_) fun xs ds2 hx c2 => ?_
  · simp only [bindT, gt, st, oneK_1, brK_d, vecD, wipeR, wipeR.rm, List.length_cons, List.length_nil]
    refine ⟨_, rfl, len3 (by rw [hwr r hr]; omega), ?_⟩
    refine draws2 (R := fun (x : Int) d => ∃ y : Int, d = .int y ∧ (y = x ∨ y = -x)) r [] hb2 (fun x hx ds3 hb3 F2 hF2 => ?_) fun ys ds3 hy hb4 => ?_
    · simp only [bindT, gt, st, oneK_1, nrK_d]
      refine callO [.int 2] rfl fun F3 X hF3 => ⟨ds3, 2, rfl, rfl, hb3, by decide, by decide, fun q ds4 a4 b4 c4 => hF3 _ _ ?_⟩
      simp only [oneK_1, nrK_d, mul_i, sub_i, so]
      have hs : (1 - 2 * q) = 1 ∨ (1 - 2 * q) = -1 := by omega
      refine ⟨mulOk_l (by decide) (by decide), mulOk_r (by omega) (by omega), hF2 _ _ ⟨x * (1 - 2 * q), rfl, ?_⟩ c4⟩
      rcases hs with e | e <;> rw [e]
      · left; omega
      · right; omega
    · obtain ⟨zs, rfl, hz⟩ := all2_get hy
      simp only [newL, unb_lst, oneK_1, List.nil_append]
      exact hF _ _ ⟨zs, rfl, hz⟩ hb4
  obtain ⟨M, rfl, hM⟩ := all2_get hx
  obtain ⟨s1, s2, s3⟩ := start_ok w1 w3 hpw hM
  simp -implicitDefEqProofs only [newL, unb_lst, oneK_1, List.nil_append, st, List.cons_append, List.length_cons, List.length_nil]
  rw [vs_seq, vs_for]
  simp -implicitDefEqProofs only [vc, gt, st, so, oneK_1, gun0, gun1, gun2, nrK_d, gt_i, boolK_1]
  have fin : ∀ (c : Nat) (ds3 : List D), (c = 0 ∨ 1 < w) → c ≤ 3 → BagOk ds3 → forR (.nm 3) (vcS GUN (forB (dropS 1 y__law_unimodular))) E ⟨fun ρ' O' => vcS GUN (dropS 2 y__law_unimodular) E ⟨fun _ O' => Q (.d .non) (O'.take [DO.lst ds].length), fun u O' => ∃ x, u = .d x ∧ Q u (O'.take [DO.lst ds].length), fun _ _ => False, fun _ _ => False⟩ ρ' O', fun u O' => ∃ x, u = .d x ∧ Q u (O'.take [DO.lst ds].length), fun _ _ => False, fun _ _ => False⟩ [.lst ds2, .lst (M.map lstI)] ((List.range c).map fun (i : Nat) => D.int (0 + (i : Int))) [some (.o 0), some (.d (.int w)), some (.o 1), none, none, none, none, none, none, none, none] [.lst ds3, .lst (M.map lstI)] := fun c ds3 h1 h2 h3 =>
    uni_loop w1 w3 h1 h2 s1 s2 s3 h3 fun M' ds' x3 x4 x5 x6 x7 x8 x9 x10 g1 g2 g3 g4 => uni_end w3 g1 ⟨_, rfl, h M' ds' g1 g2 g3 g4⟩
  refine way (fun hw => ?_) fun hw => ?_
  · refine callO [.int 4] rfl fun F X hF => ⟨ds2, 4, rfl, rfl, c2, by decide, by decide, fun c ds3 a3 b3 c3 => hF _ _ ?_⟩
    obtain ⟨c, rfl⟩ := Int.eq_ofNat_of_zero_le a3
    simp -implicitDefEqProofs only [gt, st, so, oneK_1, gun0, gun1, gun2, nrK_d, Int.toNat_natCast]
    exact ⟨⟨by omega, by omega⟩, _, rfl, fin c ds3 (.inr (by omega)) (by omega) c3⟩
  · try simp -implicitDefEqProofs only [gt, st, so, oneK_1, gun0, gun1, gun2, nrK_d]
    exact ⟨⟨by decide, by decide⟩, _, rfl, fin 0 ds2 (.inl rfl) (by decide) c2⟩
end Z

set_option Elab.async false
set_option linter.all false
set_option maxRecDepth 100000
set_option maxHeartbeats 4000000
namespace Z
open PySem PySem.Spec PyProof.Rows L2
/-! ### a matrix with a power that is the identity -/
theorem add_tt' {a b : List D} {Q : D → Prop} : binD .Add (.tup a) (.tup b) Q = (a.length + b.length ≤ sizeLine ∧ Q (.tup (a ++ b))) := rfl
def GSP : List (Fk × ZSp) := [(("_law_mul" : Fk), mtimesZ), (("_law_undo" : Fk), lundoZ), (("_law_unimodular" : Fk), uniZ 20), (("_law_draw" : Fk), drawZ), (("_law_pick" : Fk), pickZ)]
theorem gsp0 : GSP[0]? = some (("_law_mul" : Fk), (mtimesZ : ZSp)) := rfl
theorem gsp1 : GSP[1]? = some (("_law_undo" : Fk), (lundoZ : ZSp)) := rfl
theorem gsp2 : GSP[2]? = some (("_law_unimodular" : Fk), (uniZ 20 : ZSp)) := rfl
theorem gsp3 : GSP[3]? = some (("_law_draw" : Fk), (drawZ : ZSp)) := rfl
theorem gsp4 : GSP[4]? = some (("_law_pick" : Fk), (pickZ : ZSp)) := rfl
theorem spun_rest2 {w : Nat} {mm : List (List Int)} {ds : List D} {E : ZX} {N : ZD} {x2 x3 x5 : Option U} (w1 : 1 ≤ w) (w3 : w ≤ 3) (hm : SqI w mm) (hu : Uni mm) (hbm : Bds 2 mm) (hb : BagOk ds)
    (hN : ∀ m ds', SqI w m → Uni m → Bds 100 m → BagOk ds' → N.rt (.d (matD m)) [.lst ds']) :
    vcS GSP (dropS 4 y__law_spun) E N [some (.o 0), some (.d (.int w)), x2, x3, some (.d (matD mm)), x5] [.lst ds] := by
  unfold y__law_spun
  simp only [dropS]
  rw [vs_seq, vs_set]
  simp -implicitDefEqProofs only [vc, gt, st, so, oneK_1, gsp0, gsp1, gsp2, gsp3, gsp4]
  refine callO [.int w] rfl fun F X hF => ⟨ds, w, rfl, rfl, hb, w1, w3, fun l ds1 l1 l2 l3 c1 => hF _ _ ?_⟩
  try simp -implicitDefEqProofs only [gt, st, so, oneK_1, gsp0, gsp1, gsp2, gsp3, gsp4]
  rw [vs_seq, vs_ret]
  simp -implicitDefEqProofs only [vc, gt, st, so, oneK_1, gsp0, gsp1, gsp2, gsp3, gsp4]
  refine callD0 [matD l, matD mm] fun F X hF => ⟨l, mm, w, 20, 2, rfl, rfl, w1, w3, l1, hm, l3, hbm, by decide, hF _ ?_⟩
  try simp -implicitDefEqProofs only [gt, st, so, oneK_1, gsp0, gsp1, gsp2, gsp3, gsp4]
  refine callD0 [matD l] fun F X hF => ⟨l, w, 20, rfl, rfl, l1, w1, w3, l3, by decide, by decide, hF _ ?_⟩
  try simp -implicitDefEqProofs only [gt, st, so, oneK_1, gsp0, gsp1, gsp2, gsp3, gsp4]
  have a1 := mul_sq l1 hm w1
  have a2 := mul_bd l1 hm w1 w3 l3 hbm
  have b1 := undo_sq l1 w1 w3
  have b2 := undo_bd l1 w1 w3 l3 (by decide) l2
  refine callD0 [matD (mulI l mm), matD (undoI l)] fun F X hF => ⟨_, _, w, _, _, rfl, rfl, w1, w3, a1, b1, a2, b2, by decide, hF _ ?_⟩
  exact hN _ _ (mul_sq a1 b1 w1) (uni_mul a1 b1 w1 w3 (uni_mul l1 hm w1 w3 l2 hu) (uni_undo l1 w1 w3 l2)) ((mul_bd a1 b1 w1 w3 a2 b2).mono (by decide)) c1
theorem bd2_pm {x : Int} (h : x = 1 ∨ x = -1 ∨ x = 0) : Bd 2 x := (bd_pm h).mono (by decide)
theorem spun_rest {w : Nat} {mm : List (List Int)} {s : Int} {ds : List D} {E : ZX} {N : ZD} {x2 x5 : Option U} (w1 : 1 ≤ w) (w3 : w ≤ 3) (hs : s = 1 ∨ s = -1) (hm : SqI w mm) (hu : Uni mm) (hbm : Bds 2 mm) (hb : BagOk ds)
    (hN : ∀ m ds', SqI w m → Uni m → Bds 100 m → BagOk ds' → N.rt (.d (matD m)) [.lst ds']) :
    vcS GSP (dropS 3 y__law_spun) E N [some (.o 0), some (.d (.int w)), x2, some (.d (.int s)), some (.d (matD mm)), x5] [.lst ds] := by
  unfold y__law_spun
  simp only [dropS]
  rw [vs_seq, vs_ite]
  simp -implicitDefEqProofs only [vc, gt, st, so, oneK_1, gsp0, gsp1, gsp2, gsp3, gsp4, nrK_d, eq_i, boolK_1]
  refine way (fun hw => ?_) fun hw => ?_
  · have hw : w = 3 := by omega
    subst hw
    refine callO [.int 3] rfl fun F X hF => ⟨ds, 3, rfl, rfl, hb, by decide, by decide, fun r ds1 a1 b1 c1 => hF _ _ ?_⟩
    simp -implicitDefEqProofs only [gt, st, so, oneK_1, gsp0, gsp1, gsp2, gsp3, gsp4, nrK_d, eq_i, boolK_1]
    refine way (fun _ => ?_) fun _ => ?_
    · rw [vs_seq, vs_set]
      simp -implicitDefEqProofs only [vc, gt, st, so, oneK_1, gsp0, gsp1, gsp2, gsp3, gsp4, tosK_3]
      refine ⟨sz (Nat.le_of_ble_eq_true rfl), sz (Nat.le_of_ble_eq_true rfl), sz (Nat.le_of_ble_eq_true rfl), sz (Nat.le_of_ble_eq_true rfl), ?_⟩
      rw [vs_nil]
      refine spun_rest2 (mm := [[0, s, 0], [0, 0, s], [s, 0, 0]]) w1 w3 ⟨rfl, by simp⟩ ?_ ?_ c1 hN
      · rcases hs with rfl | rfl
        · exact .inl rfl
        · exact .inr rfl
      · unfold Bds
        simp only [List.mem_cons, List.not_mem_nil, or_false, forall_eq_or_imp, forall_eq]
        refine ⟨⟨bd2_pm ?_, bd2_pm ?_, bd2_pm ?_⟩, ⟨bd2_pm ?_, bd2_pm ?_, bd2_pm ?_⟩, bd2_pm ?_, bd2_pm ?_, bd2_pm ?_⟩ <;> omega
    · exact spun_rest2 w1 w3 hm hu hbm c1 hN
  · exact ⟨(fun z => by cases z), fun _ => spun_rest2 w1 w3 hm hu hbm hb hN⟩
theorem k_law_spun : Keeps GSP y__law_spun N__law_spun.length (uniZ 100) := by
  rintro us O Q E ⟨ds, w, rfl, rfl, hb, w1, w3, h⟩
  show vcS GSP y__law_spun E _ [some (.o 0), some (.d (.int w)), none, none, none, none] [.lst ds]
  unfold y__law_spun
  rw [vs_seq, vs_set]
  simp -implicitDefEqProofs only [vc, gt, st, so, oneK_1, gsp0, gsp1, gsp2, gsp3, gsp4, nrK_d, tosK_2, tosK_5, newL]
  iterate 16 refine ⟨sz (Nat.le_of_ble_eq_true rfl), ?_⟩
  refine callO [.lst _] rfl fun F X hF => ⟨ds, _, .inl ⟨rfl, rfl⟩, hb, Nat.le_of_ble_eq_true rfl, Nat.lt_of_le_of_lt (Nat.le_of_ble_eq_true rfl : _ ≤ 60) (by decide), fun x ds1 hx c1 => hF _ _ ?_⟩
  have htwo : ∃ a b c d : Int, x = matD [[a, b], [c, d]] ∧ Uni [[a, b], [c, d]] ∧ (a = 1 ∨ a = -1 ∨ a = 0) ∧ (b = 1 ∨ b = -1 ∨ b = 0) ∧ (c = 1 ∨ c = -1 ∨ c = 0) ∧ (d = 1 ∨ d = -1 ∨ d = 0) := by
    simp only [List.mem_cons, List.not_mem_nil, or_false] at hx
    rcases hx with rfl | rfl | rfl | rfl | rfl
    · exact ⟨0, -1, 1, 0, rfl, .inl rfl, by omega, by omega, by omega, by omega⟩
    · exact ⟨0, -1, 1, 1, rfl, .inl rfl, by omega, by omega, by omega, by omega⟩
    · exact ⟨0, -1, 1, -1, rfl, .inl rfl, by omega, by omega, by omega, by omega⟩
    · exact ⟨1, 0, 0, -1, rfl, .inr rfl, by omega, by omega, by omega, by omega⟩
    · exact ⟨0, 1, 1, 0, rfl, .inr rfl, by omega, by omega, by omega, by omega⟩
  obtain ⟨a, b, c, d, rfl, htu, ha, hbb, hc, hd⟩ := htwo
  try simp -implicitDefEqProofs only [gt, st, so, oneK_1, gsp0, gsp1, gsp2, gsp3, gsp4]
  rw [vs_seq, vs_set]
  simp -implicitDefEqProofs only [vc, gt, st, so, oneK_1, gsp0, gsp1, gsp2, gsp3, gsp4, nrK_d, mul_i, sub_i]
  refine callO [.int 2] rfl fun F X hF => ⟨ds1, 2, rfl, rfl, c1, by decide, by decide, fun r ds2 a2 b2 c2 => hF _ _ ?_⟩
  simp -implicitDefEqProofs only [gt, st, so, oneK_1, gsp0, gsp1, gsp2, gsp3, gsp4, nrK_d, mul_i, sub_i]
  refine ⟨mulOk_l (by decide) (by decide), ?_⟩
  have hs : (1 - 2 * r) = 1 ∨ (1 - 2 * r) = -1 := by omega
  generalize (1 - 2 * r) = s at *
  rw [vs_seq, vs_set]
  simp -implicitDefEqProofs only [vc, gt, st, so, oneK_1, gsp0, gsp1, gsp2, gsp3, gsp4, nrK_d, eq_i, boolK_1, tosK_1, tosK_3, matD, vecD, List.map_cons, List.map_nil, ix_t, at_0, at_1, ex_some, add_tt', List.cons_append, List.nil_append]
  refine way (fun hw => ?_) fun hw => ?_
  · have hw : w = 1 := by omega
    subst hw
    refine ⟨sz (Nat.le_of_ble_eq_true rfl), sz (Nat.le_of_ble_eq_true rfl), ?_⟩
    refine spun_rest (mm := [[s]]) w1 w3 hs ⟨rfl, by simp⟩ hs ?_ c2 h
    unfold Bds
    simp only [List.mem_cons, List.not_mem_nil, or_false, forall_eq_or_imp, forall_eq]
    exact bd2_pm (by omega)
  · refine way (fun hw2 => ?_) fun hw2 => ?_
    · have hw : w = 2 := by omega
      subst hw
      refine spun_rest (mm := [[a, b], [c, d]]) w1 w3 hs ⟨rfl, by simp⟩ htu ?_ c2 h
      unfold Bds
      simp only [List.mem_cons, List.not_mem_nil, or_false, forall_eq_or_imp, forall_eq]
      exact ⟨⟨bd2_pm ha, bd2_pm hbb⟩, bd2_pm hc, bd2_pm hd⟩
    · have hw : w = 3 := by omega
      subst hw
      iterate 6 refine ⟨sz (Nat.le_of_ble_eq_true rfl), ?_⟩
      refine spun_rest (mm := [[a, b, 0], [c, d, 0], [0, 0, s]]) w1 w3 hs ⟨rfl, by simp⟩ ?_ ?_ c2 h
      · have e : detI [[a, b, 0], [c, d, 0], [0, 0, s]] = detI [[a, b], [c, d]] * s := by
          show a * (d * s - 0 * 0) - b * (c * s - 0 * 0) + 0 * (c * 0 - d * 0) = (a * d - b * c) * s
          grind
        unfold Uni at *
        rw [e]
        rcases htu with e1 | e1 <;> rcases hs with rfl | rfl <;> rw [e1] <;> simp
      · unfold Bds
        simp only [List.mem_cons, List.not_mem_nil, or_false, forall_eq_or_imp, forall_eq]
        exact ⟨⟨bd2_pm ha, bd2_pm hbb, bd2_pm (by omega)⟩, ⟨bd2_pm hc, bd2_pm hd, bd2_pm (by omega)⟩, bd2_pm (by omega), bd2_pm (by omega), bd2_pm (by omega)⟩
end Z

set_option Elab.async false
set_option linter.all false
set_option maxRecDepth 100000
set_option maxHeartbeats 4000000
namespace Z
open PySem PySem.Spec PyProof.Rows L2
/-! ### things near a unimodular matrix -/
def Eb (x : D) : Prop := Knd x = true ∧ ∀ n, x = .int n → Bd 400 n
def Vb (e : D) : Prop := Knd e = true ∧ ∀ es, e = .tup es → es.length ≤ 60 ∧ ∀ x ∈ es, Eb x
theorem th_tup {ds : List D} (hl : ds.length ≤ 60) (h : ∀ e ∈ ds, Vb e) : Th (.tup ds) := by
  refine ⟨⟨rfl, fun es e => ?_⟩, fun ms e => ?_⟩
  · cases e
    exact ⟨hl, fun e he => ⟨(h e he).1, fun es ee => ⟨((h e he).2 es ee).1, fun x hx => (((h e he).2 es ee).2 x hx).1⟩⟩⟩
  · cases e
    intro r hr x hx
    exact (((h (vecD r) (List.mem_map.mpr ⟨r, hr, rfl⟩)).2 _ rfl).2 (.int x) (List.mem_map.mpr ⟨x, hx, rfl⟩)).2 x rfl
theorem th_not {d : D} (hk : Knd d = true) (h : ∀ ds, d ≠ .tup ds) : Th d := ⟨⟨hk, fun ds e => absurd e (h ds)⟩, fun ms e => absurd e (h _)⟩
theorem eb_int {n : Int} (h : Bd 400 n) : Eb (.int n) := ⟨rfl, fun m e => by cases e; exact h⟩
theorem vb_vec {r : List Int} (hl : r.length ≤ 60) (h : ∀ x ∈ r, Bd 400 x) : Vb (vecD r) := ⟨rfl, fun es e => by
  cases e
  refine ⟨by rw [List.length_map]; exact hl, fun x hx => ?_⟩
  obtain ⟨n, hn, rfl⟩ := List.mem_map.mp hx
  exact eb_int (h n hn)⟩
theorem vb_tup {es : List D} (hl : es.length ≤ 60) (h : ∀ x ∈ es, Eb x) : Vb (.tup es) := ⟨rfl, fun es' e => by cases e; exact ⟨hl, h⟩⟩
theorem vb_not {d : D} (hk : Knd d = true) (h : ∀ ds, d ≠ .tup ds) : Vb d := ⟨hk, fun ds e => absurd e (h ds)⟩
def eB (x : D) : Bool := Knd x && match x with
  | .int n => decide (n.natAbs < 2 ^ 400)
  | _ => true
def vB (x : D) : Bool := Knd x && match x with
  | .tup es => es.length.ble 60 && es.all eB
  | _ => true
def tB (x : D) : Bool := Knd x && match x with
  | .tup es => es.length.ble 60 && es.all vB
  | _ => true
theorem eB_ok {x : D} (h : eB x = true) : Eb x := by
  unfold eB at h
  rw [Bool.and_eq_true] at h
  refine ⟨h.1, fun n e => ?_⟩
  subst e
  have hb : n.natAbs < 2 ^ 400 := of_decide_eq_true h.2
  exact hb
theorem vB_ok {x : D} (h : vB x = true) : Vb x := by
  unfold vB at h
  rw [Bool.and_eq_true] at h
  refine ⟨h.1, fun es e => ?_⟩
  subst e
  have h2 := h.2
  simp only [Bool.and_eq_true, List.all_eq_true] at h2
  exact ⟨Nat.le_of_ble_eq_true h2.1, fun x hx => eB_ok (h2.2 x hx)⟩
theorem tB_ok {x : D} (h : tB x = true) : Th x := by
  unfold tB at h
  rw [Bool.and_eq_true] at h
  have h2 := h.2
  cases x with
  | tup es =>
    simp only [Bool.and_eq_true, List.all_eq_true] at h2
    exact th_tup (Nat.le_of_ble_eq_true h2.1) fun x hx => vB_ok (h2.2 x hx)
  | _ => exact th_not h.1 (by intro ds e; cases e)
theorem tBs {xs : List D} (h : xs.all tB = true) {x : D} (m : x ∈ xs) : Th x := tB_ok (List.all_eq_true.mp h x m)
def oddZ : ZSp := fun us O Q _ => ∃ ds, us = [.o 0] ∧ O = [.lst ds] ∧ BagOk ds ∧ ∀ x ds', Th x → BagOk ds' → Q (.d x) [.lst ds']
def GOD : List (Fk × ZSp) := [(("_law_pick" : Fk), pickZ), (("_law_draw" : Fk), drawZ)]
theorem god0 : GOD[0]? = some (("_law_pick" : Fk), (pickZ : ZSp)) := rfl
theorem god1 : GOD[1]? = some (("_law_draw" : Fk), (drawZ : ZSp)) := rfl
theorem k_law_odd : Keeps GOD y__law_odd N__law_odd.length oddZ := by
  rintro us O Q E ⟨ds, rfl, rfl, hb, h⟩
  show vcS GOD y__law_odd E _ [some (.o 0), none, none] _
  unfold y__law_odd
  rw [vs_seq, vs_set]
  simp -implicitDefEqProofs only [vc, gt, st, so, oneK_1, god0, god1, nrK_d]
  refine callO [.int 5] rfl fun F X hF => ⟨ds, _, rfl, rfl, hb, by decide, by decide, fun r ds1 a1 b1 c1 => hF _ _ ?_⟩
  simp -implicitDefEqProofs only [gt, st, so, oneK_1, god0, god1, nrK_d, sub_i]
  have hr : r = 0 ∨ r = 1 ∨ r = 2 ∨ r = 3 ∨ r = 4 := by omega
  rw [vs_seq, vs_set]
  simp -implicitDefEqProofs only [vc, gt, st, so, oneK_1, god0, god1, nrK_d, tosK_0, tosK_1, tosK_2, newL, toK_d, pow_i, tosK, toDs_d, toDs_nil, Option.map_some]
  iterate 15 refine ⟨sz (Nat.le_of_ble_eq_true rfl), ?_⟩
  refine ⟨⟨by decide, by decide, by decide⟩, sz (Nat.le_of_ble_eq_true rfl), ?_⟩
  rw [vs_seq, vs_ret]
  simp -implicitDefEqProofs only [vc, gt, st, so, oneK_1, god0, god1]
  refine callO [.lst _] rfl fun F X hF => ⟨ds1, _, .inl ⟨rfl, rfl⟩, c1, Nat.le_of_ble_eq_true rfl, Nat.lt_of_le_of_lt (Nat.le_of_ble_eq_true rfl : _ ≤ 60) (by decide), fun x ds2 hx c2 => hF _ _ ?_⟩
  try simp -implicitDefEqProofs only [gt, st, so, oneK_1, god0, god1]
  refine h _ _ ?_ c2
  rcases hr with rfl | rfl | rfl | rfl | rfl <;> exact tBs (by decide +kernel) hx
/-! lists of owned lists -/
theorem compU_rows {tg : T1} {ve : List (Option U) → List DO → ZQ → Prop} {ρ0 : List (Option U)} : ∀ (rows : List (List Int)) (acc : List U) (O : List DO) {Q : List U → List DO → Prop},
    (∀ r ∈ rows, ∀ (O : List DO) (F : ZQ), F [.o O.length] (O ++ [.lst (r.map D.int)]) → bindT tg (vecD r) ρ0 fun ρ1 => ve ρ1 O F) →
    Q (acc ++ (List.range' O.length rows.length).map U.o) (O ++ (rows.map (·.map D.int)).map DO.lst) → compUR tg ve ρ0 (rows.map vecD) acc O Q
  | [], acc, O, Q, hv, hq => by
    rw [List.map_nil, compUR]
    simpa using hq
  | r :: rows, acc, O, Q, hv, hq => by
    rw [List.map_cons, compUR]
    refine hv r List.mem_cons_self O _ ?_
    rw [oneK_1]
    refine compU_rows rows _ _ (fun r' hr' => hv r' (List.mem_cons_of_mem _ hr')) ?_
    rw [List.length_append, List.length_singleton, List.append_assoc, List.append_assoc]
    rw [List.length_cons, List.range'_succ] at hq
    exact hq
theorem frz_all : ∀ (RR : List (List D)) (P : List DO), frzAll ((List.range' P.length RR.length).map U.o) (P ++ RR.map DO.lst) = P ++ RR.map DO.frz
  | [], P => rfl
  | r :: RR, P => by
    rw [List.length_cons, List.range'_succ, List.map_cons, frzAll]
    have e : go (P ++ List.map DO.lst (r :: RR)) P.length = some (.lst r) := by
      rw [go_eq, List.getElem?_append_right (Nat.le_refl _), Nat.sub_self]
      rfl
    rw [e]
    have e2 : so (P ++ List.map DO.lst (r :: RR)) P.length (.frz r) = (P ++ [.frz r]) ++ RR.map DO.lst := by
      rw [so_eq, List.set_append_right _ _ (Nat.le_refl _), Nat.sub_self]
      simp
    have := frz_all RR (P ++ [.frz r])
    rw [List.length_append, List.length_singleton] at this
    show frzAll _ (so (P ++ List.map DO.lst (r :: RR)) P.length (.frz r)) = _
    rw [e2, this]
    simp
theorem toDs_o {O : List DO} {k : Nat} {us : List U} {d : D} {ds : List D} (h1 : frzAt O k = some d) (h2 : toDs O us = some ds) : toDs O (.o k :: us) = some (d :: ds) := by
  rw [toDs, toD, h1, h2]
theorem frz_toDs : ∀ (RR : List (List D)) (P : List DO) (S : List DO), toDs (P ++ RR.map DO.frz ++ S) ((List.range' P.length RR.length).map U.o) = some (RR.map D.lst)
  | [], P, S => by
    show toDs _ [] = some []
    exact toDs_nil
  | r :: RR, P, S => by
    rw [List.length_cons, List.range'_succ, List.map_cons]
    have e : frzAt (P ++ List.map DO.frz (r :: RR) ++ S) P.length = some (.lst r) := by
      unfold frzAt
      rw [go_eq, List.append_assoc, List.getElem?_append_right (Nat.le_refl _), Nat.sub_self]
      rfl
    have := frz_toDs RR (P ++ [.frz r]) S
    rw [List.length_append, List.length_singleton, show P ++ [DO.frz r] ++ RR.map DO.frz ++ S = P ++ (r :: RR).map DO.frz ++ S by simp] at this
    exact toDs_o e this
theorem frz_to (RR : List (List D)) (P : List DO) {k : D → Prop} : toK (P ++ RR.map DO.frz) (.l ((List.range' P.length RR.length).map U.o)) k = k (.lst (RR.map D.lst)) := by
  unfold toK
  have := frz_toDs RR P []
  rw [List.append_nil] at this
  rw [toD, this]
def GB : List (Fk × ZSp) := [(("_law_pick" : Fk), pickZ), (("_law_odd" : Fk), oddZ), (("_law_one" : Fk), identityZ), (("_law_draw" : Fk), drawZ)]
theorem gb0 : GB[0]? = some (("_law_pick" : Fk), (pickZ : ZSp)) := rfl
theorem gb1 : GB[1]? = some (("_law_odd" : Fk), (oddZ : ZSp)) := rfl
theorem gb2 : GB[2]? = some (("_law_one" : Fk), (identityZ : ZSp)) := rfl
theorem gb3 : GB[3]? = some (("_law_draw" : Fk), (drawZ : ZSp)) := rfl
def bentZ : ZSp := fun us O Q _ => ∃ (ds : List D) (m : List (List Int)) (w : Nat), us = [.o 0, .d (matD m)] ∧ O = [.lst ds] ∧ BagOk ds ∧ 1 ≤ w ∧ w ≤ 3 ∧ SqI w m ∧ Bds 100 m ∧ ∀ x ds', Th x → BagOk ds' → Q (.d x) [.lst ds']
theorem sl_tup {ds : List D} {lo hi : Option Int} {Q : D → Prop} : slD (.tup ds) lo hi Q = Q (.tup (cutL ds lo hi)) := rfl
theorem part_no {k : Option Int → Prop} : partK [] k = k none := rfl
theorem part_so {i : Int} {k : Option Int → Prop} : partK [.d (.int i)] k = k (some i) := rfl
theorem add_ll {a b : List D} {Q : D → Prop} : binD .Add (.lst a) (.lst b) Q = (a.length + b.length ≤ sizeLine ∧ Q (.lst (a ++ b))) := rfl
theorem cut_mem {β : Type} {xs : List β} {lo hi : Option Int} {x : β} (h : x ∈ cutL xs lo hi) : x ∈ xs := List.mem_of_mem_drop (List.mem_of_mem_take h)
theorem cut_len {β : Type} (xs : List β) (lo hi : Option Int) : (cutL xs lo hi).length ≤ xs.length := by
  unfold cutL
  rw [List.length_take, List.length_drop]
  omega
theorem th_mat4 : Th (matD (oneI 4)) := tB_ok (by decide +kernel)
/-- behind the bent matrix -/
theorem bent_end {w : Nat} {m : List (List Int)} {be : D} {ds : List D} {Os : List DO} {E : ZX} {N : ZD} {x2 x4 x5 x6 : Option U} (w1 : 1 ≤ w) (w3 : w ≤ 3) (hm : SqI w m) (hbm : Bds 100 m) (hbe : Th be) (hb : BagOk ds)
    (hN : ∀ x ds', Th x → BagOk ds' → N.rt (.d x) (.lst ds' :: Os)) :
    vcS GB (dropS 3 y__law_bent) E N [some (.o 0), some (.d (matD m)), x2, some (.d be), x4, x5, x6] (.lst ds :: Os) := by
  unfold y__law_bent
  simp only [dropS]
  obtain ⟨r0, hr0⟩ : ∃ r, m.headD [] = r := ⟨_, rfl⟩
  have r0m : r0 ∈ m := by
    rw [← hr0]
    cases m with
    | nil => have := hm.1; simp at this; omega
    | cons r m => exact List.mem_cons_self
  have r0l : r0.length = w := hm.2 r0 r0m
  have vbm : ∀ d ∈ m.map vecD, Vb d := fun d hd => by
    obtain ⟨r, hr, rfl⟩ := List.mem_map.mp hd
    exact vb_vec (by rw [hm.2 r hr]; omega) fun x hx => (hbm r hr x hx).mono (by decide)
  have vb0 : Vb (vecD r0) := vbm _ (List.mem_map.mpr ⟨r0, r0m, rfl⟩)
  have lm : (m.map vecD).length = w := by rw [List.length_map, hm.1]
  have lc : ∀ lo hi, (cutL (m.map vecD) lo hi).length ≤ 3 := fun lo hi => Nat.le_trans (cut_len _ lo hi) (by omega)
  have vbc : ∀ lo hi, ∀ d ∈ cutL (m.map vecD) lo hi, Vb d := fun lo hi d hd => vbm d (cut_mem hd)
  have e0 : atI (m.map vecD) 0 = some (.tup (r0.map D.int)) := by rw [mat_0 hm w1, hr0]; rfl
  rw [vs_seq, vs_set]
  rw [show matD m = .tup (m.map vecD) from rfl]
  simp -implicitDefEqProofs only [vc, gt, st, so, oneK_1, gb0, gb1, gb2, gb3, nrK_d, nrsK_1, list_t, part_no, part_so, sl_tup, ix_t, e0, ex_some, tosK_0, tosK_1, add_tt', mul_ti, len_t, List.length_map]
  rw [hm.1]
  have z1 : ∀ {d : D}, [d].length ≤ sizeLine := fun {d} => sz (Nat.le_of_ble_eq_true rfl)
  have zc : ∀ {d : D}, [d].length + (cutL (m.map vecD) (some 1) none).length ≤ sizeLine := fun {d} => sz (by show 1 + _ ≤ 60; have := lc (some 1) none; omega)
  refine ⟨z1, sz (by show w + 1 ≤ 60; omega), z1, zc, z1, sz (by show _ + 1 ≤ 60; omega), z1, zc, z1, ⟨by omega, by omega, by simp, by simp⟩, ?_⟩
  refine callD0 [.int 4] fun F X hF => ⟨4, rfl, rfl, by decide, hF _ ?_⟩
  simp -implicitDefEqProofs only [gt, st, so, oneK_1, gb0, gb1, gb2, gb3, tosK, toDs_d, toDs_nil, Option.map_some]
  refine ⟨sz (by decide), sz (by decide), z1, sz (Nat.le_of_ble_eq_true rfl), ?_⟩
  generalize hM : [be, be, D.lst (m.map vecD), D.tup (cutL (m.map vecD) none (some (-1))), D.tup (m.map vecD ++ [D.tup (r0.map D.int)]), D.tup ([D.lst (r0.map D.int)] ++ cutL (m.map vecD) (some 1) none), D.tup ([D.tup (r0.map D.int ++ [D.int 0])] ++ cutL (m.map vecD) (some 1) none), D.tup (List.replicate ((w : Nat) : Int).toNat [D.tup (r0.map D.int)]).flatten, matD (oneI 4), D.tup [], D.tup [D.tup []]] = MM
  have hMl : MM.length = 11 := by rw [← hM]; rfl
  have hMt : ∀ d ∈ MM, Th d := by
    have cons1 : ∀ e : D, Vb e → Th (D.tup ([e] ++ cutL (m.map vecD) (some 1) none)) := fun e he => th_tup (by rw [List.length_append]; have := lc (some 1) none; show 1 + _ ≤ 60; omega) fun d hd => by
      rcases List.mem_append.mp hd with q | q
      · rw [List.mem_singleton.mp q]; exact he
      · exact vbc _ _ d q
    rw [← hM]
    simp only [List.mem_cons, List.not_mem_nil, or_false, forall_eq_or_imp, forall_eq]
    refine ⟨hbe, hbe, th_not rfl (by intro ds e; cases e), th_tup (by have := lc none (some (-1)); omega) (vbc _ _), th_tup (by rw [List.length_append, lm]; show w + 1 ≤ 60; omega) fun d hd => ?_, cons1 _ (vb_not rfl (by intro ds e; cases e)), cons1 _ (vb_tup (by rw [List.length_append, List.length_map]; show _ + 1 ≤ 60; omega) fun x hx => ?_), ?_, th_mat4, tB_ok (by decide +kernel), tB_ok (by decide +kernel)⟩
    · rcases List.mem_append.mp hd with q | q
      · exact vbm d q
      · rw [List.mem_singleton.mp q]; exact vb0
    · rcases List.mem_append.mp hx with q | q
      · obtain ⟨n, hn, rfl⟩ := List.mem_map.mp q
        exact eb_int ((hbm r0 r0m n hn).mono (by decide))
      · rw [List.mem_singleton.mp q]; exact eB_ok (by decide +kernel)
    · rw [rep_1]
      refine th_tup (by rw [List.length_replicate]; omega) fun d hd => ?_
      rw [(List.mem_replicate.mp hd).2]
      exact vb0
  clear hM
  simp -implicitDefEqProofs only [gt, st, so, oneK_1, gb0, gb1, gb2, gb3, newL]
  rw [vs_seq, vs_ret]
  simp -implicitDefEqProofs only [vc, gt, st, so, oneK_1, gb0, gb1, gb2, gb3, brK_d, wipeR, wipeR.rm, List.length_cons]
  refine ⟨_, rfl, len3 (by rw [hm.1]; omega), ?_⟩
  have hn : (DO.lst ds :: Os).length = Os.length + 1 := rfl
  refine comp_rowsO (O := .lst ds :: Os) hn vecD (fun r => vecD (r.map (2 * ·))) m [] (fun r hr F hF => ?_) ?_
  · simp only [bindT, gt, st, oneK_1, brK_d, vecD, wipeR, wipeR.rm, List.length_cons]
    refine ⟨_, rfl, len3 (by rw [hm.2 r hr]; omega), ?_⟩
    refine comp_rowsO (O := .lst ds :: Os) hn D.int (fun x => D.int (2 * x)) r [] (fun x hx F2 hF2 => ?_) ?_
    · simp only [bindT, gt, st, oneK_1, nrK_d, mul_i]
      exact ⟨mulOk_l (by decide) (by decide), hF2⟩
    · simp only [newL, oneK_1, nrsK_1, List.nil_append, tuple_l, unb_self, tup_vec]
      exact hF
  simp -implicitDefEqProofs only [newL, oneK_1, nrsK_1, List.nil_append, tuple_l, unb_self]
  rw [show D.tup (m.map fun r => vecD (r.map (2 * ·))) = matD (m.map fun r => r.map (2 * ·)) from by unfold matD; rw [List.map_map]; rfl]
  have hm2 : SqI w (m.map fun r => r.map (2 * ·)) := ⟨by rw [List.length_map]; exact hm.1, fun r hr => by
    obtain ⟨q, hq, rfl⟩ := List.mem_map.mp hr
    rw [List.length_map]
    exact hm.2 q hq⟩
  have hb2 : Bds 400 (m.map fun r => r.map (2 * ·)) := fun r hr x hx => by
    obtain ⟨q, hq, rfl⟩ := List.mem_map.mp hr
    obtain ⟨y, hy, rfl⟩ := List.mem_map.mp hx
    exact ((show Bd 2 2 from by unfold Bd; decide).mul (hbm q hq y hy)).mono (by decide)
  have ht2 := th_mat hm2 w3 hb2
  refine callO [] rfl fun F X hF => ⟨ds, rfl, rfl, hb, fun o ds1 ho c1 => hF _ _ ?_⟩
  simp -implicitDefEqProofs only [gt, st, so, oneK_1, gb0, gb1, gb2, gb3, nrK_d, tosK_2, newL, add_ll]
  refine ⟨sz (Nat.le_of_ble_eq_true rfl), sz (by rw [hMl]; exact Nat.le_of_ble_eq_true rfl), ?_⟩
  refine callO [.lst _] rfl fun F X hF => ⟨ds1, _, .inl ⟨rfl, rfl⟩, c1, by rw [List.length_append, hMl]; omega, by rw [List.length_append, hMl]; exact Nat.lt_of_le_of_lt (Nat.le_of_ble_eq_true rfl : _ ≤ 60) (by decide), fun x ds2 hx c2 => hF _ _ ?_⟩
  try simp -implicitDefEqProofs only [gt, st, so, oneK_1, gb0, gb1, gb2, gb3]
  refine hN x ds2 ?_ c2
  rcases List.mem_append.mp hx with q | q
  · exact hMt x q
  · simp only [List.mem_cons, List.not_mem_nil, or_false] at q
    rcases q with rfl | rfl
    · exact ht2
    · exact ho
theorem k_law_bent : KeepsD GB y__law_bent N__law_bent.length bentZ := by
  rintro us O Q E ⟨ds, m, w, rfl, rfl, hb, w1, w3, hm, hbm, h⟩
  show vcS GB y__law_bent E _ [some (.o 0), some (.d (matD m)), none, none, none, none, none] [.lst ds]
  unfold y__law_bent
  rw [vs_seq, vs_set]
  rw [show matD m = .tup (m.map vecD) from rfl]
  simp -implicitDefEqProofs only [vc, gt, st, so, oneK_1, gb0, gb1, gb2, gb3, brK_d, wipeR, wipeR.rm]
  refine ⟨_, rfl, len3 (by rw [hm.1]; omega), ?_⟩
  refine compU_rows m [] [.lst ds] (fun r hr O F hF => ?_) ?_
  · simp only [bindT, gt, st, oneK_1, nrK_d, vecD, listD, newL]
    exact hF
  have hl0 : [DO.lst ds].length = 1 := rfl
  simp -implicitDefEqProofs only [hl0, List.nil_append, List.cons_append, unb, unb1, st]
  rw [hm.1]
  rw [vs_seq, vs_seti]
  simp -implicitDefEqProofs only [vc, gt, st, so, oneK_1, gb0, gb1, gb2, gb3, nrK_d, tosK_1, newL, pow_i, tosK, toDs_d, toDs_nil, Option.map_some]
  refine ⟨sz (by decide), ⟨by decide, by decide, by decide⟩, sz (Nat.le_of_ble_eq_true rfl), ?_⟩
  refine callO [.lst _] rfl fun F X hF => ⟨ds, _, .inl ⟨rfl, rfl⟩, hb, Nat.le_of_ble_eq_true rfl, Nat.lt_of_le_of_lt (Nat.le_of_ble_eq_true rfl : _ ≤ 60) (by decide), fun v ds1 hv c1 => hF _ _ ?_⟩
  have hve : Eb v := by
    have : ∀ {xs : List D}, xs.all eB = true → v ∈ xs → Eb v := fun h m => eB_ok (List.all_eq_true.mp h v m)
    exact this (by decide +kernel) hv
  simp -implicitDefEqProofs only [gt, st, so, oneK_1, gb0, gb1, gb2, gb3, nrsK_1, len_t, nrK_d, List.length_map]
  rw [hm.1]
  refine callO [.int w] rfl fun F X hF => ⟨ds1, w, rfl, rfl, c1, by omega, by omega, fun i ds2 a2 b2 c2 => hF _ _ ?_⟩
  obtain ⟨i, rfl⟩ := Int.eq_ofNat_of_zero_le a2
  have hi : i < w := by omega
  have eo : atI ((List.range' 1 w).map U.o) (i : Int) = some (.o (1 + i)) := by
    rw [at_nat (by rw [List.length_map, List.length_range']; exact hi), List.getElem_map, List.getElem_range']
    simp
  simp -implicitDefEqProofs only [gt, st, so, oneK_1, gb0, gb1, gb2, gb3, nrK_d, eo, ex_some, nrsK_1, len_t, List.length_map]
  refine callO [.int w] rfl fun F X hF => ⟨ds2, w, rfl, rfl, c2, by omega, by omega, fun j ds3 a3 b3 c3 => hF _ _ ?_⟩
  obtain ⟨j, rfl⟩ := Int.eq_ofNat_of_zero_le a3
  have hj : j < w := by omega
  have hrl := hm.2 _ (row_mem hm hi)
  have eg : go (DO.lst ds3 :: (m.map (·.map D.int)).map DO.lst) (1 + i) = some (.lst ((m.getD i []).map D.int)) := by
    rw [go_eq, Nat.add_comm, List.getElem?_cons_succ, List.getElem?_map, List.getElem?_map, List.getElem?_eq_getElem (by rw [hm.1]; exact hi)]
    rw [List.getD_eq_getElem?_getD, List.getElem?_eq_getElem (by rw [hm.1]; exact hi)]
    rfl
  simp -implicitDefEqProofs only [gt, st, so, oneK_1, gb0, gb1, gb2, gb3, eg, toK_d]
  refine ⟨j, ?_, ?_⟩
  · rw [List.length_map, hrl]
    exact ixN_nat hj
  generalize hRR : (m.map (·.map D.int)).set i (((m.getD i []).map D.int).set j v) = RR
  have eso : so (DO.lst ds3 :: (m.map (·.map D.int)).map DO.lst) (1 + i) (.lst (((m.getD i []).map D.int).set j v)) = DO.lst ds3 :: RR.map DO.lst := by
    rw [so_eq, Nat.add_comm, List.set_cons_succ, ← hRR, List.map_set]
  have hRl : RR.length = w := by rw [← hRR, List.length_set, List.length_map, hm.1]
  have hRv : ∀ r ∈ RR, Vb (.tup r) := fun r hr => by
    have base : ∀ q ∈ m, ∀ x ∈ q.map D.int, Eb x := fun q hq x hx => by
      obtain ⟨n, hn, rfl⟩ := List.mem_map.mp hx
      exact eb_int ((hbm q hq n hn).mono (by decide))
    rw [← hRR] at hr
    rcases List.mem_or_eq_of_mem_set hr with q | rfl
    · obtain ⟨p, hp, rfl⟩ := List.mem_map.mp q
      exact vb_tup (by rw [List.length_map, hm.2 p hp]; omega) (base p hp)
    · refine vb_tup (by rw [List.length_set, List.length_map, hrl]; omega) fun x hx => ?_
      rcases List.mem_or_eq_of_mem_set hx with q | rfl
      · exact base _ (row_mem hm hi) x q
      · exact hve
  rw [eso]
  clear eso eg hRR
  have fz := frz_all RR [.lst ds3]
  rw [List.length_singleton, hRl] at fz
  have ft : ∀ k : D → Prop, toK ([DO.lst ds3] ++ RR.map DO.frz) (.l ((List.range' 1 w).map U.o)) k = k (.lst (RR.map D.lst)) := fun k => by
    have := frz_to (k := k) RR [.lst ds3]
    rw [List.length_singleton, hRl] at this
    exact this
  rw [vs_seq, vs_set]
  simp -implicitDefEqProofs only [vc, gt, st, so, oneK_1, gb0, gb1, gb2, gb3]
  rw [show DO.lst ds3 :: RR.map DO.lst = [DO.lst ds3] ++ RR.map DO.lst from rfl]
  rw [fz, ft]
  simp -implicitDefEqProofs only [gt, st, so, oneK_1, gb0, gb1, gb2, gb3, brK_d, wipeR, wipeR.rm]
  refine ⟨_, rfl, len3 (by omega), ?_⟩
  refine comp_rowsO (O := [.lst ds3] ++ RR.map DO.frz) rfl D.lst D.tup RR [] (fun r hr F hF => ?_) ?_
  · simp only [bindT, gt, st, oneK_1, nrsK_1, tuple_l]
    exact hF
  have hub : unb ([DO.lst ds3] ++ RR.map DO.lst) ([DO.lst ds3] ++ RR.map DO.frz) = DO.lst ds3 :: RR.map DO.frz := by
    have : ∀ L : List (List D), unb (L.map DO.lst) (L.map DO.frz) = L.map DO.frz := fun L => by
      induction L with
      | nil => rfl
      | cons a L ih => rw [List.map_cons, List.map_cons, unb, ih]; rfl
    show unb (DO.lst ds3 :: RR.map DO.lst) (DO.lst ds3 :: RR.map DO.frz) = _
    rw [unb, this]
    rfl
  simp -implicitDefEqProofs only [newL, oneK_1, nrsK_1, List.nil_append, tuple_l, hub, st]
  exact bent_end w1 w3 hm hbm (th_tup (by rw [List.length_map, hRl]; omega) fun e he => by
    obtain ⟨r, hr, rfl⟩ := List.mem_map.mp he
    exact hRv r hr) c3 fun x ds' hx hb' => ⟨_, rfl, h x ds' hx hb'⟩
end Z

set_option Elab.async false
set_option linter.all false
set_option maxRecDepth 100000
set_option maxHeartbeats 4000000
namespace Z
open PySem PySem.Spec PyProof.Rows L2
/-! ### the sums -/
def sumsT (w j : Nat) (v y : List Int) (m n : List (List Int)) (k : Int) : List D := [vecD (List.replicate w 0), vecD (unitI w j), matD (oneI w), vecD (zipI (· + ·) v y), vecD (zipI (· - ·) v y), vecD (sclI k v), .int (dotI v y), vecD (ledI v m), matD (mulI m n), .int (detI m), .int (if 1 < w then 0 else v.headD 0)]
def GS : List (Fk × ZSp) := [(("_law_same" : Fk), sameZ 3), (("_law_det" : Fk), detZ), (("_law_mul" : Fk), mtimesZ), (("_law_lead" : Fk), ledZ), (("_law_one" : Fk), identityZ), (("determinant" : Fk), detZ), (("matrix_times" : Fk), mtimesZ), (("led" : Fk), ledZ), (("dot" : Fk), dotZ), (("vector_times" : Fk), vtimesZ), (("vector_minus" : Fk), v2Z (· - ·)), (("vector_plus" : Fk), v2Z (· + ·)), (("identity" : Fk), identityZ), (("unit" : Fk), unitZ), (("zero" : Fk), zeroZ), (("_law_draw" : Fk), drawZ), (("_law_number" : Fk), numberZ), (("_law_vector" : Fk), vectorZ)]
theorem gs'0 : GS[0]? = some (("_law_same" : Fk), (sameZ 3 : ZSp)) := rfl
theorem gs'1 : GS[1]? = some (("_law_det" : Fk), (detZ : ZSp)) := rfl
theorem gs'2 : GS[2]? = some (("_law_mul" : Fk), (mtimesZ : ZSp)) := rfl
theorem gs'3 : GS[3]? = some (("_law_lead" : Fk), (ledZ : ZSp)) := rfl
theorem gs'4 : GS[4]? = some (("_law_one" : Fk), (identityZ : ZSp)) := rfl
theorem gs'5 : GS[5]? = some (("determinant" : Fk), (detZ : ZSp)) := rfl
theorem gs'6 : GS[6]? = some (("matrix_times" : Fk), (mtimesZ : ZSp)) := rfl
theorem gs'7 : GS[7]? = some (("led" : Fk), (ledZ : ZSp)) := rfl
theorem gs'8 : GS[8]? = some (("dot" : Fk), (dotZ : ZSp)) := rfl
theorem gs'9 : GS[9]? = some (("vector_times" : Fk), (vtimesZ : ZSp)) := rfl
theorem gs'10 : GS[10]? = some (("vector_minus" : Fk), (v2Z (· - ·) : ZSp)) := rfl
theorem gs'11 : GS[11]? = some (("vector_plus" : Fk), (v2Z (· + ·) : ZSp)) := rfl
theorem gs'12 : GS[12]? = some (("identity" : Fk), (identityZ : ZSp)) := rfl
theorem gs'13 : GS[13]? = some (("unit" : Fk), (unitZ : ZSp)) := rfl
theorem gs'14 : GS[14]? = some (("zero" : Fk), (zeroZ : ZSp)) := rfl
theorem gs'15 : GS[15]? = some (("_law_draw" : Fk), (drawZ : ZSp)) := rfl
theorem gs'16 : GS[16]? = some (("_law_number" : Fk), (numberZ : ZSp)) := rfl
theorem gs'17 : GS[17]? = some (("_law_vector" : Fk), (vectorZ : ZSp)) := rfl
theorem pl_vecL {v : List Int} (h : v.length ≤ 60) : Pl 2 (vecD v) := .tup (by rw [List.length_map]; omega) fun d hd => by
  obtain ⟨n, _, rfl⟩ := List.mem_map.mp hd
  exact .int n
structure Sums (w j : Nat) (v y : List Int) (m n : List (List Int)) (k : Int) : Prop where
  w1 : 1 ≤ w
  w3 : w ≤ 3
  jw : j < w
  vl : v.length = w
  yl : y.length = w
  vb : ∀ a ∈ v, Bd 117 a
  yb : ∀ a ∈ y, Bd 117 a
  ms : SqI w m
  ns : SqI w n
  mb : Bds 117 m
  nb : Bds 117 n
  kb : Bd 117 k
theorem sums_pl {w j : Nat} {v y : List Int} {m n : List (List Int)} {k : Int} (S : Sums w j v y m n k) : Pl 3 (.lst (sumsT w j v y m n k)) := by
  obtain ⟨w1, w3, jw, vl, yl, vb, yb, ms, ns, mb, nb, kb⟩ := S
  have zl2 : ∀ f, (zipI f v y).length ≤ 60 := fun f => by unfold zipI; rw [List.length_map, List.length_zip]; omega
  refine .lst (by show 11 ≤ 1000; decide) fun d hd => ?_
  unfold sumsT at hd
  simp only [List.mem_cons, List.not_mem_nil, or_false] at hd
  rcases hd with rfl | rfl | rfl | rfl | rfl | rfl | rfl | rfl | rfl | rfl | rfl
  · exact pl_vecL (by rw [List.length_replicate]; omega)
  · exact pl_vecL (by unfold unitI; rw [List.length_map, List.length_range]; omega)
  · exact pl_mat (one_sq w) w3
  · exact pl_vecL (zl2 _)
  · exact pl_vecL (zl2 _)
  · exact pl_vecL (by unfold sclI; rw [List.length_map]; omega)
  · exact .int _
  · exact pl_vecL (by unfold ledI; rw [List.length_map, List.length_range, head_sq ms w1]; omega)
  · exact pl_mat (mul_sq ms ns w1) w3
  · exact .int _
  · exact .int _
theorem sums_end {w j : Nat} {v y : List Int} {m n : List (List Int)} {k : Int} {ds : List D} {E : ZX} {N : ZD} {T : List D} {x0 x1 x4 x5 x6 x7 x8 x9 x10 x11 : Option U} (S : Sums w j v y m n k) (hT : T = sumsT w j v y m n k) (h : N.rt (.d (.bl true)) [.lst ds]) :
    vcS GS (dropS 5 y__law_sums_so) E N [x0, x1, some (.d (.lst (sumsT w j v y m n k))), some (.d (.lst T)), x4, x5, x6, x7, x8, x9, x10, x11] [.lst ds] := by
  subst hT
  unfold y__law_sums_so
  simp only [dropS]
  rw [vs_seq, vs_ret]
  simp -implicitDefEqProofs only [vc, gt, st, so, oneK_1, gs'0, gs'1, gs'2, gs'3, gs'4, gs'5, gs'6, gs'7, gs'8, gs'9, gs'10, gs'11, gs'12, gs'13, gs'14, gs'15, gs'16, gs'17]
  exact callD0 [.lst (sumsT w j v y m n k), .lst (sumsT w j v y m n k)] fun F X hF => ⟨_, rfl, rfl, sums_pl S, hF _ h⟩
theorem at_head {w : Nat} {v : List Int} (h : v.length = w) (w1 : 1 ≤ w) : atI (v.map D.int) 0 = some (.int (v.headD 0)) := by
  cases v with
  | nil => simp at h; omega
  | cons a v => exact at_0
theorem one_at {w j : Nat} (hj : j < w) : atI ((oneI w).map vecD) (j : Int) = some (vecD (unitI w j)) := by
  rw [at_getD (d := []) (by rw [(one_sq w).1]; exact hj)]
  congr 2
  unfold oneI
  rw [List.getD_eq_getElem?_getD, List.getElem?_map, List.getElem?_range hj, unit_row]
  rfl
theorem sums_due {w j : Nat} {v y : List Int} {m n : List (List Int)} {k : Int} {ds : List D} {E : ZX} {N : ZD} {x0 x3 x10 x11 : Option U} (S : Sums w j v y m n k) (h : N.rt (.d (.bl true)) [.lst ds]) :
    vcS GS (dropS 4 y__law_sums_so) E N [x0, some (.d (.int w)), some (.d (.lst (sumsT w j v y m n k))), x3, some (.d (vecD v)), some (.d (vecD y)), some (.d (matD m)), some (.d (matD n)), some (.d (.int k)), some (.d (.int j)), x10, x11] [.lst ds] := by
  obtain ⟨w1, w3, jw, vl, yl, vb, yb, ms, ns, mb, nb, kb⟩ := S
  have S : Sums w j v y m n k := ⟨w1, w3, jw, vl, yl, vb, yb, ms, ns, mb, nb, kb⟩
  unfold y__law_sums_so
  simp only [dropS]
  rw [vs_seq, vs_set]
  simp -implicitDefEqProofs only [vc, gt, st, so, oneK_1, gs'0, gs'1, gs'2, gs'3, gs'4, gs'5, gs'6, gs'7, gs'8, gs'9, gs'10, gs'11, gs'12, gs'13, gs'14, gs'15, gs'16, gs'17, nrK_d, tosK_1, mul_ti, rep_1, gt_i, boolK_1]
  refine ⟨sz (by decide), ⟨by omega, by omega, by simp, by simp⟩, ?_⟩
  refine callD0 [.int w] fun F X hF => ⟨w, rfl, rfl, by omega, hF _ ?_⟩
  rw [show matD (oneI w) = .tup ((oneI w).map vecD) from rfl]
  simp -implicitDefEqProofs only [gt, st, so, oneK_1, gs'0, gs'1, gs'2, gs'3, gs'4, gs'5, gs'6, gs'7, gs'8, gs'9, gs'10, gs'11, gs'12, gs'13, gs'14, gs'15, gs'16, gs'17, nrK_d, ix_t, one_at jw, ex_some]
  refine callD0 [.int w] fun F X hF => ⟨w, rfl, rfl, by omega, hF _ ?_⟩
  rw [show vecD v = .tup (v.map D.int) from rfl, show vecD y = .tup (y.map D.int) from rfl]
  simp -implicitDefEqProofs only [gt, st, so, oneK_1, gs'0, gs'1, gs'2, gs'3, gs'4, gs'5, gs'6, gs'7, gs'8, gs'9, gs'10, gs'11, gs'12, gs'13, gs'14, gs'15, gs'16, gs'17, brK_d, zipT, wipeR, wipeR.rm, List.length_singleton]
  refine ⟨_, rfl, zl (by omega), ?_⟩
  refine comp_rowsO (O := [.lst ds]) (n := 1) rfl (fun p : Int × Int => D.tup [.int p.1, .int p.2]) (fun p => D.int (p.1 + p.2)) (v.zip y) [] (fun p hp F hF => ?_) ?_
  · simp only [bindT, bindTs, gt, st, oneK_1, nrK_d, add_i]
    exact hF
  simp -implicitDefEqProofs only [gt, st, so, oneK_1, gs'0, gs'1, gs'2, gs'3, gs'4, gs'5, gs'6, gs'7, gs'8, gs'9, gs'10, gs'11, gs'12, gs'13, gs'14, gs'15, gs'16, gs'17, newL, unb_lst, nrsK_1, tuple_l, List.nil_append, tup_vec]
  refine ⟨_, rfl, zl (by omega), ?_⟩
  refine comp_rowsO (O := [.lst ds]) (n := 1) rfl (fun p : Int × Int => D.tup [.int p.1, .int p.2]) (fun p => D.int (p.1 - p.2)) (v.zip y) [] (fun p hp F hF => ?_) ?_
  · simp only [bindT, bindTs, gt, st, oneK_1, nrK_d, sub_i]
    exact hF
  simp -implicitDefEqProofs only [gt, st, so, oneK_1, gs'0, gs'1, gs'2, gs'3, gs'4, gs'5, gs'6, gs'7, gs'8, gs'9, gs'10, gs'11, gs'12, gs'13, gs'14, gs'15, gs'16, gs'17, newL, unb_lst, nrsK_1, tuple_l, List.nil_append, tup_vec]
  refine ⟨_, rfl, len3 (by omega), ?_⟩
  refine comp_rowsO (O := [.lst ds]) (n := 1) rfl D.int (fun a => D.int (a * k)) v [] (fun a ha F hF => ?_) ?_
  · simp only [bindT, bindTs, gt, st, oneK_1, nrK_d, mul_i]
    exact ⟨(vb a ha).ok kb (by decide), hF⟩
  simp -implicitDefEqProofs only [gt, st, so, oneK_1, gs'0, gs'1, gs'2, gs'3, gs'4, gs'5, gs'6, gs'7, gs'8, gs'9, gs'10, gs'11, gs'12, gs'13, gs'14, gs'15, gs'16, gs'17, newL, unb_lst, nrsK_1, tuple_l, List.nil_append, tup_vec]
  refine ⟨_, rfl, zl (by omega), ?_⟩
  refine comp_rowsO (O := [.lst ds]) (n := 1) rfl (fun p : Int × Int => D.tup [.int p.1, .int p.2]) (fun p => D.int (p.1 * p.2)) (v.zip y) [] (fun p hp F hF => ?_) ?_
  · obtain ⟨m1, m2⟩ := List.of_mem_zip (a := p.1) (b := p.2) hp
    simp only [bindT, bindTs, gt, st, oneK_1, nrK_d, mul_i]
    exact ⟨(vb _ m1).ok (yb _ m2) (by decide), hF⟩
  simp -implicitDefEqProofs only [gt, st, so, oneK_1, gs'0, gs'1, gs'2, gs'3, gs'4, gs'5, gs'6, gs'7, gs'8, gs'9, gs'10, gs'11, gs'12, gs'13, gs'14, gs'15, gs'16, gs'17, newL, unb_lst, nrsK_1, List.nil_append, lst_ints]
  refine sum_i ?_
  rw [show D.tup (v.map D.int) = vecD v from rfl, show D.tup (y.map D.int) = vecD y from rfl]
  refine callD0 [vecD v, matD m] fun F X hF => ⟨v, m, w, 117, 117, rfl, rfl, w1, w3, vl, ms, vb, mb, by decide, hF _ ?_⟩
  try simp -implicitDefEqProofs only [gt, st, so, oneK_1, gs'0, gs'1, gs'2, gs'3, gs'4, gs'5, gs'6, gs'7, gs'8, gs'9, gs'10, gs'11, gs'12, gs'13, gs'14, gs'15, gs'16, gs'17]
  refine callD0 [matD m, matD n] fun F X hF => ⟨m, n, w, 117, 117, rfl, rfl, w1, w3, ms, ns, mb, nb, by decide, hF _ ?_⟩
  try simp -implicitDefEqProofs only [gt, st, so, oneK_1, gs'0, gs'1, gs'2, gs'3, gs'4, gs'5, gs'6, gs'7, gs'8, gs'9, gs'10, gs'11, gs'12, gs'13, gs'14, gs'15, gs'16, gs'17]
  refine callD0 [matD m] fun F X hF => ⟨m, w, 117, rfl, rfl, ms, w1, w3, mb, by decide, hF _ ?_⟩
  simp -implicitDefEqProofs only [gt, st, so, oneK_1, gs'0, gs'1, gs'2, gs'3, gs'4, gs'5, gs'6, gs'7, gs'8, gs'9, gs'10, gs'11, gs'12, gs'13, gs'14, gs'15, gs'16, gs'17, vecD, nrK_d, ix_t, at_head vl w1, ex_some]
  have eT : sumsT w j v y m n k = [vecD (List.replicate w 0), vecD (unitI w j), matD (oneI w), vecD (zipI (· + ·) v y), vecD (zipI (· - ·) v y), vecD (sclI k v), .int (dotI v y), vecD (ledI v m), matD (mulI m n), .int (detI m), .int (if 1 < w then 0 else v.headD 0)] := rfl
  refine way (fun hw => ?_) fun hw => ?_
  · simp -implicitDefEqProofs only [gt, st, so, oneK_1, gs'0, gs'1, gs'2, gs'3, gs'4, gs'5, gs'6, gs'7, gs'8, gs'9, gs'10, gs'11, gs'12, gs'13, gs'14, gs'15, gs'16, gs'17, tosK, toDs_d, toDs_nil, Option.map_some, newL]
    refine ⟨sz (Nat.le_of_ble_eq_true rfl), ?_⟩
    rw [if_pos (by omega)] at eT
    exact sums_end S (by rw [eT]; unfold vecD; rw [List.map_replicate]; rfl) h
  · simp -implicitDefEqProofs only [gt, st, so, oneK_1, gs'0, gs'1, gs'2, gs'3, gs'4, gs'5, gs'6, gs'7, gs'8, gs'9, gs'10, gs'11, gs'12, gs'13, gs'14, gs'15, gs'16, gs'17, tosK, toDs_d, toDs_nil, Option.map_some, newL]
    refine ⟨sz (Nat.le_of_ble_eq_true rfl), ?_⟩
    rw [if_neg (by omega)] at eT
    exact sums_end S (by rw [eT]; unfold vecD; rw [List.map_replicate]; rfl) h
theorem det_same {w : Nat} {v : List Int} (hv : v.length = w) (w1 : 1 < w) (w3 : w ≤ 3) : detI (List.replicate w v) = 0 := by
  have hw : w = 2 ∨ w = 3 := by omega
  rcases hw with rfl | rfl
  · match v, hv with
    | [a, b], _ => show a * b - b * a = 0; grind
  · match v, hv with
    | [a, b, c], _ => show a * (b * c - c * b) - b * (a * c - c * a) + c * (a * b - b * a) = 0; grind
theorem k_law_sums_so : Keeps GS y__law_sums_so N__law_sums_so.length (fun us O Q _ => ∃ (ds : List D) (w : Nat), us = [.o 0, .d (.int w)] ∧ O = [.lst ds] ∧ BagOk ds ∧ 1 ≤ w ∧ w ≤ 3 ∧ ∀ ds', BagOk ds' → Q (.d (.bl true)) [.lst ds']) := by
  rintro us O Q E ⟨ds, w, rfl, rfl, hb, w1, w3, h⟩
  show vcS GS y__law_sums_so E _ [some (.o 0), some (.d (.int w)), none, none, none, none, none, none, none, none, none, none] [.lst ds]
  unfold y__law_sums_so
  rw [vs_seq, vs_par]
  simp -implicitDefEqProofs only [vc, gt, st, so, oneK_1, gs'0, gs'1, gs'2, gs'3, gs'4, gs'5, gs'6, gs'7, gs'8, gs'9, gs'10, gs'11, gs'12, gs'13, gs'14, gs'15, gs'16, gs'17]
  refine callO [.int w, .int 9] rfl fun F X hF => ⟨ds, w, 9, rfl, rfl, hb, by omega, by omega, by decide, by decide, fun v ds1 vl vb c1 => hF _ _ ?_⟩
  try simp -implicitDefEqProofs only [gt, st, so, oneK_1, gs'0, gs'1, gs'2, gs'3, gs'4, gs'5, gs'6, gs'7, gs'8, gs'9, gs'10, gs'11, gs'12, gs'13, gs'14, gs'15, gs'16, gs'17]
  refine callO [.int w, .int 9] rfl fun F X hF => ⟨ds1, w, 9, rfl, rfl, c1, by omega, by omega, by decide, by decide, fun y ds2 yl yb c2 => hF _ _ ?_⟩
  try simp -implicitDefEqProofs only [gt, st, so, oneK_1, gs'0, gs'1, gs'2, gs'3, gs'4, gs'5, gs'6, gs'7, gs'8, gs'9, gs'10, gs'11, gs'12, gs'13, gs'14, gs'15, gs'16, gs'17]
  rw [vs_seq, vs_tgt]
  simp -implicitDefEqProofs only [vc, gt, st, so, oneK_1, gs'0, gs'1, gs'2, gs'3, gs'4, gs'5, gs'6, gs'7, gs'8, gs'9, gs'10, gs'11, gs'12, gs'13, gs'14, gs'15, gs'16, gs'17, nrK_d, wipeR, wipeR.rm, List.length_singleton]
  refine ⟨⟨by decide, by decide⟩, _, rfl, by decide, ?_⟩
  have e4 := rgD_len (j := (w : Int)) (by omega)
  refine draws (Good := fun d => ∃ M : List (List Int), d = matD M ∧ (SqI w M ∧ Bds 117 M)) c2 ((List.range 2).map fun (i : Nat) => D.int (0 + (i : Int))) (fun d hd ds3 hb3 F hF => ?_) fun xs ds3 hl hg c3 => ?_
  · simp only [bindT, gt, st, oneK_1, nrK_d, wipeR, wipeR.rm, List.length_singleton]
    refine ⟨⟨by omega, by omega⟩, _, rfl, by show (rgD w).length ≤ _; exact sz (by omega), ?_⟩
    refine draws (Good := fun d => ∃ r : List Int, d = vecD r ∧ (r.length = w ∧ ∀ x ∈ r, Bd 117 x)) hb3 (rgD w) (fun d hd ds4 hb4 F2 hF2 => ?_) fun ys ds4 hl hg c4 => ?_
    · simp only [bindT, gt, st, oneK_1]
      exact callO [.int w, .int 3] rfl fun F3 X hF3 => ⟨ds4, w, 3, rfl, rfl, hb4, by omega, by omega, by decide, by decide, fun r ds5 rl rb c5 => hF3 _ _ (hF2 _ _ ⟨r, rfl, by omega, rb⟩ c5)⟩
    · obtain ⟨M, rfl, hM⟩ := good_map hg
      rw [List.length_map] at hl
      simp only [newL, unb_lst, oneK_1, nrsK_1, tuple_l]
      exact hF _ _ ⟨M, rfl, ⟨by omega, fun r hr => (hM r hr).1⟩, fun r hr => (hM r hr).2⟩ c4
  have hl2 : xs.length = 2 := by rw [hl]; rfl
  match xs, hl2 with
  | [d1, d2], _ =>
  obtain ⟨m, rfl, ms, mb⟩ := hg d1 (by simp)
  obtain ⟨n, rfl, ns, nb⟩ := hg d2 (by simp)
  simp -implicitDefEqProofs only [gt, st, so, oneK_1, gs'0, gs'1, gs'2, gs'3, gs'4, gs'5, gs'6, gs'7, gs'8, gs'9, gs'10, gs'11, gs'12, gs'13, gs'14, gs'15, gs'16, gs'17, newL, unb_lst, toK_d, bindT, bindTs]
  rw [vs_seq, vs_tgt]
  simp -implicitDefEqProofs only [vc, gt, st, so, oneK_1, gs'0, gs'1, gs'2, gs'3, gs'4, gs'5, gs'6, gs'7, gs'8, gs'9, gs'10, gs'11, gs'12, gs'13, gs'14, gs'15, gs'16, gs'17]
  refine callO [.int 5] rfl fun F X hF => ⟨ds3, 5, rfl, rfl, c3, by decide, by decide, fun k ds4 kb c4 => hF _ _ ?_⟩
  try simp -implicitDefEqProofs only [gt, st, so, oneK_1, gs'0, gs'1, gs'2, gs'3, gs'4, gs'5, gs'6, gs'7, gs'8, gs'9, gs'10, gs'11, gs'12, gs'13, gs'14, gs'15, gs'16, gs'17]
  refine callO [.int w] rfl fun F X hF => ⟨ds4, w, rfl, rfl, c4, by omega, by omega, fun j ds5 a5 b5 c5 => hF _ _ ?_⟩
  obtain ⟨j, rfl⟩ := Int.eq_ofNat_of_zero_le a5
  simp -implicitDefEqProofs only [gt, st, so, oneK_1, gs'0, gs'1, gs'2, gs'3, gs'4, gs'5, gs'6, gs'7, gs'8, gs'9, gs'10, gs'11, gs'12, gs'13, gs'14, gs'15, gs'16, gs'17, tosK_2, toK_d, bindT, bindTs]
  refine ⟨sz (Nat.le_of_ble_eq_true rfl), ?_⟩
  have vl : v.length = w := by omega
  have yl : y.length = w := by omega
  have S : Sums w j v y m n k := ⟨w1, w3, by omega, vl, yl, vb, yb, ms, ns, mb, nb, kb⟩
  rw [vs_seq, vs_set]
  simp -implicitDefEqProofs only [vc, gt, st, so, oneK_1, gs'0, gs'1, gs'2, gs'3, gs'4, gs'5, gs'6, gs'7, gs'8, gs'9, gs'10, gs'11, gs'12, gs'13, gs'14, gs'15, gs'16, gs'17]
  refine callD0 [.int w] fun F X hF => ⟨w, rfl, rfl, w1, by omega, hF _ ?_⟩
  try simp -implicitDefEqProofs only [gt, st, so, oneK_1, gs'0, gs'1, gs'2, gs'3, gs'4, gs'5, gs'6, gs'7, gs'8, gs'9, gs'10, gs'11, gs'12, gs'13, gs'14, gs'15, gs'16, gs'17]
  refine callD0 [.int w, .int j] fun F X hF => ⟨w, j, rfl, rfl, by omega, hF _ ?_⟩
  try simp -implicitDefEqProofs only [gt, st, so, oneK_1, gs'0, gs'1, gs'2, gs'3, gs'4, gs'5, gs'6, gs'7, gs'8, gs'9, gs'10, gs'11, gs'12, gs'13, gs'14, gs'15, gs'16, gs'17]
  refine callD0 [.int w] fun F X hF => ⟨w, rfl, rfl, by omega, hF _ ?_⟩
  try simp -implicitDefEqProofs only [gt, st, so, oneK_1, gs'0, gs'1, gs'2, gs'3, gs'4, gs'5, gs'6, gs'7, gs'8, gs'9, gs'10, gs'11, gs'12, gs'13, gs'14, gs'15, gs'16, gs'17]
  refine callD0 [vecD v, vecD y] fun F X hF => ⟨v, y, rfl, rfl, by omega, hF _ ?_⟩
  try simp -implicitDefEqProofs only [gt, st, so, oneK_1, gs'0, gs'1, gs'2, gs'3, gs'4, gs'5, gs'6, gs'7, gs'8, gs'9, gs'10, gs'11, gs'12, gs'13, gs'14, gs'15, gs'16, gs'17]
  refine callD0 [vecD v, vecD y] fun F X hF => ⟨v, y, rfl, rfl, by omega, hF _ ?_⟩
  try simp -implicitDefEqProofs only [gt, st, so, oneK_1, gs'0, gs'1, gs'2, gs'3, gs'4, gs'5, gs'6, gs'7, gs'8, gs'9, gs'10, gs'11, gs'12, gs'13, gs'14, gs'15, gs'16, gs'17]
  refine callD0 [vecD v, .int k] fun F X hF => ⟨v, k, 117, 117, rfl, rfl, by omega, vb, kb, by decide, hF _ ?_⟩
  try simp -implicitDefEqProofs only [gt, st, so, oneK_1, gs'0, gs'1, gs'2, gs'3, gs'4, gs'5, gs'6, gs'7, gs'8, gs'9, gs'10, gs'11, gs'12, gs'13, gs'14, gs'15, gs'16, gs'17]
  refine callD0 [vecD v, sqD true (y.map D.int)] fun F X hF => ?_
  refine ⟨v, y, true, 117, 117, rfl, rfl, by omega, vb, yb, by decide, hF _ ?_⟩
  try simp -implicitDefEqProofs only [gt, st, so, oneK_1, gs'0, gs'1, gs'2, gs'3, gs'4, gs'5, gs'6, gs'7, gs'8, gs'9, gs'10, gs'11, gs'12, gs'13, gs'14, gs'15, gs'16, gs'17]
  refine callD0 [vecD v, matD m] fun F X hF => ⟨v, m, w, 117, 117, rfl, rfl, w1, w3, vl, ms, vb, mb, by decide, hF _ ?_⟩
  try simp -implicitDefEqProofs only [gt, st, so, oneK_1, gs'0, gs'1, gs'2, gs'3, gs'4, gs'5, gs'6, gs'7, gs'8, gs'9, gs'10, gs'11, gs'12, gs'13, gs'14, gs'15, gs'16, gs'17]
  refine callD0 [matD m, matD n] fun F X hF => ⟨m, n, w, 117, 117, rfl, rfl, w1, w3, ms, ns, mb, nb, by decide, hF _ ?_⟩
  try simp -implicitDefEqProofs only [gt, st, so, oneK_1, gs'0, gs'1, gs'2, gs'3, gs'4, gs'5, gs'6, gs'7, gs'8, gs'9, gs'10, gs'11, gs'12, gs'13, gs'14, gs'15, gs'16, gs'17]
  refine callD0 [matD m] fun F X hF => ⟨m, w, 117, rfl, rfl, ms, w1, w3, mb, by decide, hF _ ?_⟩
  simp -implicitDefEqProofs only [gt, st, so, oneK_1, gs'0, gs'1, gs'2, gs'3, gs'4, gs'5, gs'6, gs'7, gs'8, gs'9, gs'10, gs'11, gs'12, gs'13, gs'14, gs'15, gs'16, gs'17, nrK_d, gt_i, boolK_1, tosK_1]
  have eT : sumsT w j v y m n k = [vecD (List.replicate w 0), vecD (unitI w j), matD (oneI w), vecD (zipI (· + ·) v y), vecD (zipI (· - ·) v y), vecD (sclI k v), .int (dotI v y), vecD (ledI v m), matD (mulI m n), .int (detI m), .int (if 1 < w then 0 else v.headD 0)] := rfl
  refine way (fun hw => ?_) fun hw => ?_
  · rw [if_pos (by omega)] at eT
    refine ⟨sz (Nat.le_of_ble_eq_true rfl), ?_⟩
    simp -implicitDefEqProofs only [gt, st, so, oneK_1, gs'0, gs'1, gs'2, gs'3, gs'4, gs'5, gs'6, gs'7, gs'8, gs'9, gs'10, gs'11, gs'12, gs'13, gs'14, gs'15, gs'16, gs'17, mul_ti, rep_1]
    refine ⟨⟨by omega, by omega, by simp, by simp⟩, ?_⟩
    rw [show D.tup (List.replicate w (vecD v)) = matD (List.replicate w v) from by unfold matD; rw [List.map_replicate]]
    refine callD0 [matD (List.replicate w v)] fun F X hF => ⟨_, w, 117, rfl, rfl, ⟨by rw [List.length_replicate], fun r hr => by rw [(List.mem_replicate.mp hr).2]; exact vl⟩, w1, w3, fun r hr => by rw [(List.mem_replicate.mp hr).2]; exact vb, by decide, hF _ ?_⟩
    rw [det_same vl (by omega) w3]
    simp -implicitDefEqProofs only [gt, st, so, oneK_1, gs'0, gs'1, gs'2, gs'3, gs'4, gs'5, gs'6, gs'7, gs'8, gs'9, gs'10, gs'11, gs'12, gs'13, gs'14, gs'15, gs'16, gs'17, tosK, toDs_d, toDs_nil, Option.map_some, newL]
    refine ⟨sz (Nat.le_of_ble_eq_true rfl), ?_⟩
    rw [← eT]
    exact sums_due S (h _ c5)
  · rw [if_neg (by omega)] at eT
    rw [show vecD v = .tup (v.map D.int) from rfl]
    simp -implicitDefEqProofs only [gt, st, so, oneK_1, gs'0, gs'1, gs'2, gs'3, gs'4, gs'5, gs'6, gs'7, gs'8, gs'9, gs'10, gs'11, gs'12, gs'13, gs'14, gs'15, gs'16, gs'17, ix_t, at_head vl w1, ex_some, tosK, toDs_d, toDs_nil, Option.map_some, newL]
    rw [show D.tup (v.map D.int) = vecD v from rfl]
    refine ⟨sz (Nat.le_of_ble_eq_true rfl), ?_⟩
    rw [← eT]
    exact sums_due S (h _ c5)
end Z

set_option Elab.async false
set_option linter.all false
set_option maxRecDepth 100000
set_option maxHeartbeats 4000000
namespace Z
open PySem PySem.Spec PyProof.Rows L2
/-! ### right and wrong values told apart -/
def judgedZ : ZSp := fun us O Q _ => ∃ (ds : List D) (w : Nat) (u : List (List Int)) (be : D), us = [.o 0, .d (.int w), .d (matD u), .d be] ∧ O = [.lst ds] ∧ BagOk ds ∧ 1 ≤ w ∧ w ≤ 3 ∧ SqI w u ∧ Uni u ∧ Bds 100 u ∧ Th be ∧ ∀ ds', BagOk ds' → Q (.d (.bl true)) [.lst ds']
theorem jb_ib {d : D} (h : Jb d) : Ib d := ⟨h.1, fun ds e => ⟨(h.2 ds e).1, fun x hx => ((h.2 ds e).2 x hx).1⟩⟩
theorem eb_vb {d : D} (h : Eb d) (hn : ∀ ds, d ≠ .tup ds) : Vb d := vb_not h.1 hn
theorem th_vec {r : List Int} (h : r.length ≤ 60) : Th (vecD r) := th_tup (by rw [List.length_map]; exact h) fun e he => by
  obtain ⟨n, _, rfl⟩ := List.mem_map.mp he
  exact vb_not rfl (by intro ds e; cases e)
theorem uniB_len {d : D} {n : Int} (h : isUniB n d = true) : ∃ ds, d = .tup ds ∧ (ds.length : Int) = n := by
  unfold isUniB at h
  rw [Bool.and_eq_true] at h
  cases d with
  | tup ds =>
    have h1 : (decide ((ds.length : Int) = n) && ds.all (isVecB n)) = true := h.1
    rw [Bool.and_eq_true, decide_eq_true_eq] at h1
    exact ⟨ds, rfl, h1.1⟩
  | _ => cases h.1
theorem uni_two {ds : List D} {n : Int} (n1 : 1 ≤ n) (n3 : n ≤ 3) : isUniB n (.tup ds) = (isUniA (.tup ds) && decide ((ds.length : Int) = n)) := by
  by_cases hl : (ds.length : Int) = n
  · rw [decide_eq_true hl, Bool.and_true]
    show _ = (decide (1 ≤ ds.length ∧ ds.length ≤ 3) && isUniB ds.length (.tup ds))
    rw [decide_eq_true (by omega : 1 ≤ ds.length ∧ ds.length ≤ 3), hl]
    rfl
  · rw [decide_eq_false hl, Bool.and_false]
    cases q : isUniB n (.tup ds) with
    | false => rfl
    | true =>
      obtain ⟨es, e, hl2⟩ := uniB_len q
      cases e
      exact absurd hl2 hl
theorem uniA_tup {d : D} (h : isUniA d = true) : ∃ ds, d = .tup ds := by
  cases d with
  | tup ds => exact ⟨ds, rfl⟩
  | _ => cases h
def GJ : List (Fk × ZSp) := [(("_law_same" : Fk), sameZ 3), (("is_unimodular" : Fk), isUniZ), (("_law_odd" : Fk), oddZ), (("_law_is_unimodular" : Fk), isUniAZ), (("_law_is_matrix" : Fk), isMatZ), (("is_matrix" : Fk), isMatZ), (("_law_is_vector" : Fk), isVecZ), (("is_vector" : Fk), isVecZ), (("_law_draw" : Fk), drawZ)]
theorem gj0 : GJ[0]? = some (("_law_same" : Fk), (sameZ 3 : ZSp)) := rfl
theorem gj1 : GJ[1]? = some (("is_unimodular" : Fk), (isUniZ : ZSp)) := rfl
theorem gj2 : GJ[2]? = some (("_law_odd" : Fk), (oddZ : ZSp)) := rfl
theorem gj3 : GJ[3]? = some (("_law_is_unimodular" : Fk), (isUniAZ : ZSp)) := rfl
theorem gj4 : GJ[4]? = some (("_law_is_matrix" : Fk), (isMatZ : ZSp)) := rfl
theorem gj5 : GJ[5]? = some (("is_matrix" : Fk), (isMatZ : ZSp)) := rfl
theorem gj6 : GJ[6]? = some (("_law_is_vector" : Fk), (isVecZ : ZSp)) := rfl
theorem gj7 : GJ[7]? = some (("is_vector" : Fk), (isVecZ : ZSp)) := rfl
theorem gj8 : GJ[8]? = some (("_law_draw" : Fk), (drawZ : ZSp)) := rfl
theorem k_law_judged_so : Keeps GJ y__law_judged_so N__law_judged_so.length judgedZ := by
  rintro us O Q E ⟨ds, w, u, be, rfl, rfl, hb, w1, w3, hu, huu, hub, hbe, h⟩
  show vcS GJ y__law_judged_so E _ [some (.o 0), some (.d (.int w)), some (.d (matD u)), some (.d be), none, none, none] [.lst ds]
  obtain ⟨r0, hr0⟩ : ∃ r, u.headD [] = r := ⟨_, rfl⟩
  have e0 : atI (u.map vecD) 0 = some (.tup (r0.map D.int)) := by rw [mat_0 hu w1, hr0]; rfl
  have r0m : r0 ∈ u := by
    rw [← hr0]
    cases u with
    | nil => have := hu.1; simp at this; omega
    | cons r m => exact List.mem_cons_self
  have r0l : r0.length = w := hu.2 r0 r0m
  unfold y__law_judged_so
  rw [vs_seq, vs_set]
  simp -implicitDefEqProofs only [vc, gt, st, so, oneK_1, gj0, gj1, gj2, gj3, gj4, gj5, gj6, gj7, gj8]
  refine callO [.int 3] rfl fun F X hF => ⟨ds, 3, rfl, rfl, hb, by decide, by decide, fun s ds1 a1 b1 c1 => hF _ _ ?_⟩
  simp -implicitDefEqProofs only [gt, st, so, oneK_1, gj0, gj1, gj2, gj3, gj4, gj5, gj6, gj7, gj8, nrK_d, add_i]
  have s1 : 1 ≤ 1 + s := by omega
  have s3 : 1 + s ≤ 3 := by omega
  generalize 1 + s = n at *
  rw [vs_seq, vs_for]
  rw [show matD u = .tup (u.map vecD) from rfl]
  simp -implicitDefEqProofs only [vc, gt, st, so, oneK_1, gj0, gj1, gj2, gj3, gj4, gj5, gj6, gj7, gj8, nrK_d, nrsK_1, ix_t, e0, ex_some, list_t, part_no, part_so, sl_tup, tosK_1, add_tt', mul_ti]
  have z1 : ∀ {d : D}, [d].length ≤ sizeLine := fun {d} => sz (Nat.le_of_ble_eq_true rfl)
  have lc : ∀ lo hi, (cutL (r0.map D.int) lo hi).length ≤ 3 := fun lo hi => Nat.le_trans (cut_len _ lo hi) (by rw [List.length_map]; omega)
  have vbi : ∀ x ∈ r0.map D.int, Vb x := fun x hx => by
    obtain ⟨n, _, rfl⟩ := List.mem_map.mp hx
    exact vb_not rfl (by intro ds e; cases e)
  refine ⟨z1, sz (by show 1 + _ ≤ 60; have := lc (some 1) none; omega), ?_⟩
  refine callO [] rfl fun F X hF => ⟨ds1, rfl, rfl, c1, fun o ds2 ho c2 => hF _ _ ?_⟩
  simp -implicitDefEqProofs only [gt, st, so, oneK_1, gj0, gj1, gj2, gj3, gj4, gj5, gj6, gj7, gj8, nrK_d, nrsK_1, ix_t, e0, ex_some, tosK_1, mul_ti]
  refine ⟨z1, ⟨by omega, by omega, by simp, by simp⟩, ?_⟩
  rw [rep_1]
  simp -implicitDefEqProofs only [gt, st, so, oneK_1, gj0, gj1, gj2, gj3, gj4, gj5, gj6, gj7, gj8, tosK, toDs_d, toDs_nil, Option.map_some, newL, brK_d]
  refine ⟨sz (Nat.le_of_ble_eq_true rfl), ?_⟩
  rw [show D.tup (u.map vecD) = matD u from rfl]
  generalize hM : [matD u, be, D.tup (r0.map D.int), D.lst (r0.map D.int), D.tup (cutL (r0.map D.int) none (some (-1))), D.tup ([D.bl true] ++ cutL (r0.map D.int) (some 1) none), o, D.tup (List.replicate w (D.tup (r0.map D.int)))] = MM
  have hMt : ∀ d ∈ MM, Th d := by
    rw [← hM]
    simp only [List.mem_cons, List.not_mem_nil, or_false, forall_eq_or_imp, forall_eq]
    refine ⟨th_mat hu w3 (hub.mono (by decide)), hbe, th_vec (r := r0) (by omega), th_not rfl (by intro ds e; cases e), th_tup (by have := lc none (some (-1)); omega) fun e he => vbi e (cut_mem he), th_tup (by rw [List.length_append]; have := lc (some 1) none; show 1 + _ ≤ 60; omega) fun e he => ?_, ho, th_tup (by rw [List.length_replicate]; omega) fun e he => ?_⟩
    · rcases List.mem_append.mp he with q | q
      · rw [List.mem_singleton.mp q]; exact vb_not rfl (by intro ds e; cases e)
      · exact vbi e (cut_mem q)
    · rw [(List.mem_replicate.mp he).2]
      exact vb_vec (by omega) fun x hx => (hub r0 r0m x hx).mono (by decide)
  clear hM
  refine ⟨_, rfl, ?_⟩
  refine forR_inv (fun i ρ O => O = [.lst ds2] ∧ ∃ x5 x6, ρ = [some (.o 0), some (.d (.int w)), some (.d (matD u)), some (.d be), some (.d (.int n)), x5, x6]) _ _ _ 0 ⟨rfl, none, none, rfl⟩ ?_ ?_
  · rintro j d ρ O e1 ⟨rfl, x5, x6, rfl⟩ K hK
    have hd := hMt d (List.mem_of_getElem? e1)
    have hj := hd.1
    have hi := jb_ib hj
    simp -implicitDefEqProofs only [bindT, st]
    rw [vs_seq, vs_ite]
    simp -implicitDefEqProofs only [vc, gt, st, so, oneK_1, gj0, gj1, gj2, gj3, gj4, gj5, gj6, gj7, gj8]
    refine callD0 [d, .int n] fun F X hF => ⟨d, n, rfl, rfl, hi, hF _ ?_⟩
    try simp -implicitDefEqProofs only [gt, st, so, oneK_1, gj0, gj1, gj2, gj3, gj4, gj5, gj6, gj7, gj8]
    refine callD0 [d, .int n] fun F X hF => ⟨d, n, rfl, rfl, hi, hF _ ?_⟩
    try simp -implicitDefEqProofs only [gt, st, so, oneK_1, gj0, gj1, gj2, gj3, gj4, gj5, gj6, gj7, gj8]
    refine callD0 [.bl (isVecB n d), .bl (isVecB n d)] fun F X hF => ⟨_, rfl, rfl, .bl _, hF _ ?_⟩
    simp -implicitDefEqProofs only [gt, st, so, oneK_1, gj0, gj1, gj2, gj3, gj4, gj5, gj6, gj7, gj8, boolK_1, Bool.not_true]
    refine ⟨(fun z => by cases z), fun _ => ?_⟩
    refine callD0 [d, .int w] fun F X hF => ⟨d, w, rfl, rfl, hi, hF _ ?_⟩
    try simp -implicitDefEqProofs only [gt, st, so, oneK_1, gj0, gj1, gj2, gj3, gj4, gj5, gj6, gj7, gj8]
    refine callD0 [d, .int w] fun F X hF => ⟨d, w, rfl, rfl, hi, hF _ ?_⟩
    try simp -implicitDefEqProofs only [gt, st, so, oneK_1, gj0, gj1, gj2, gj3, gj4, gj5, gj6, gj7, gj8]
    refine callD0 [.bl (isVecB w d), .bl (isVecB w d)] fun F X hF => ⟨_, rfl, rfl, .bl _, hF _ ?_⟩
    simp -implicitDefEqProofs only [gt, st, so, oneK_1, gj0, gj1, gj2, gj3, gj4, gj5, gj6, gj7, gj8, boolK_1, Bool.not_true]
    refine ⟨(fun z => by cases z), fun _ => ?_⟩
    rw [vs_nil]
    dsimp only
    rw [vs_seq, vs_ite]
    simp -implicitDefEqProofs only [vc, gt, st, so, oneK_1, gj0, gj1, gj2, gj3, gj4, gj5, gj6, gj7, gj8]
    refine callD0 [d, .int w] fun F X hF => ⟨d, w, rfl, rfl, hj, hF _ ?_⟩
    try simp -implicitDefEqProofs only [gt, st, so, oneK_1, gj0, gj1, gj2, gj3, gj4, gj5, gj6, gj7, gj8]
    refine callD0 [d, .int w] fun F X hF => ⟨d, w, rfl, rfl, hj, hF _ ?_⟩
    try simp -implicitDefEqProofs only [gt, st, so, oneK_1, gj0, gj1, gj2, gj3, gj4, gj5, gj6, gj7, gj8]
    refine callD0 [.bl (isMatB w d), .bl (isMatB w d)] fun F X hF => ⟨_, rfl, rfl, .bl _, hF _ ?_⟩
    simp -implicitDefEqProofs only [gt, st, so, oneK_1, gj0, gj1, gj2, gj3, gj4, gj5, gj6, gj7, gj8, boolK_1, Bool.not_true]
    refine ⟨(fun z => by cases z), fun _ => ?_⟩
    rw [vs_nil]
    dsimp only
    rw [vs_seq, vs_set]
    simp -implicitDefEqProofs only [vc, gt, st, so, oneK_1, gj0, gj1, gj2, gj3, gj4, gj5, gj6, gj7, gj8]
    have last : ∀ b : Bool, b = isUniB n d → vcS GJ (.seq (.ite (.not (.call 0 ((Y.call 1 ((Y.var 5).cons ((Y.var 4).cons .nil))).cons ((Y.var 6).cons .nil)))) (.seq (.ret (.bl false)) .nil) .nil) .nil) (fun x O' => E x (unb [.lst ds1] O')) ⟨K, fun u O' => Q u (unb [.lst ds1] O'), fun ρ' O' => vcS GJ (.seq (.ret (.call 0 ((Y.call 1 ((Y.var 2).cons ((Y.var 1).cons .nil))).cons ((Y.bl true).cons .nil)))) .nil) E ⟨fun _ O' => Q (.d .non) O', Q, fun _ _ => False, fun _ _ => False⟩ ρ' (unb [.lst ds1] O'), K⟩ [some (.o 0), some (.d (.int w)), some (.d (matD u)), some (.d be), some (.d (.int n)), some (.d d), some (.d (.bl b))] [.lst ds2] := fun b e => by
      subst e
      rw [vs_seq, vs_ite]
      simp -implicitDefEqProofs only [vc, gt, st, so, oneK_1, gj0, gj1, gj2, gj3, gj4, gj5, gj6, gj7, gj8]
      refine callD0 [d, .int n] fun F X hF => ⟨d, n, rfl, rfl, hd, s1, s3, hF _ ?_⟩
      try simp -implicitDefEqProofs only [gt, st, so, oneK_1, gj0, gj1, gj2, gj3, gj4, gj5, gj6, gj7, gj8]
      refine callD0 [.bl (isUniB n d), .bl (isUniB n d)] fun F X hF => ⟨_, rfl, rfl, .bl _, hF _ ?_⟩
      simp -implicitDefEqProofs only [gt, st, so, oneK_1, gj0, gj1, gj2, gj3, gj4, gj5, gj6, gj7, gj8, boolK_1, Bool.not_true]
      refine ⟨(fun z => by cases z), fun _ => ?_⟩
      rw [vs_nil]
      dsimp only
      rw [vs_nil]
      exact hK _ _ ⟨rfl, _, _, rfl⟩
    refine callD0 [d] fun F X hF => ⟨d, rfl, rfl, hd, hF _ ?_⟩
    cases q : isUniA d with
    | true =>
      obtain ⟨es, rfl⟩ := uniA_tup q
      simp -implicitDefEqProofs only [gt, st, so, oneK_1, gj0, gj1, gj2, gj3, gj4, gj5, gj6, gj7, gj8, boolK_1, nrsK_1, len_t, nrK_d, eq_i]
      refine ⟨fun _ => ?_, fun z => by cases z⟩
      exact last _ (by rw [uni_two s1 s3, q, Bool.true_and])
    | false =>
      simp -implicitDefEqProofs only [gt, st, so, oneK_1, gj0, gj1, gj2, gj3, gj4, gj5, gj6, gj7, gj8, boolK_1]
      refine ⟨(fun z => by cases z), fun _ => ?_⟩
      refine last _ ?_
      cases q2 : isUniB n d with
      | false => rfl
      | true =>
        obtain ⟨es, rfl, _⟩ := uniB_len q2
        rw [uni_two s1 s3, q] at q2
        exact q2
  · rintro ρ O ⟨rfl, x5, x6, rfl⟩
    dsimp only
    rw [vs_seq, vs_ret]
    simp -implicitDefEqProofs only [vc, gt, st, so, oneK_1, gj0, gj1, gj2, gj3, gj4, gj5, gj6, gj7, gj8, unb_lst]
    refine callD0 [matD u, .int w] fun F X hF => ⟨matD u, w, rfl, rfl, th_mat hu w3 (hub.mono (by decide)), by omega, by omega, hF _ ?_⟩
    rw [(uniA_mat hu w1 w3 huu).2]
    try simp -implicitDefEqProofs only [gt, st, so, oneK_1, gj0, gj1, gj2, gj3, gj4, gj5, gj6, gj7, gj8]
    exact callD0 [.bl true, .bl true] fun F X hF => ⟨_, rfl, rfl, .bl _, hF _ (h _ c2)⟩
end Z

set_option Elab.async false
set_option linter.all false
set_option maxRecDepth 100000
set_option maxHeartbeats 4000000
namespace Z
open PySem PySem.Spec PyProof.Rows L2
/-! ### inverses, powers, orders -/
theorem pick_M : pickF fldT "InvalidMatrix" = [] := by decide +kernel
theorem pick_N : pickF fldT "InvalidNumber" = [("value" : Str)] := by decide +kernel
theorem lf_M : lawFields badM = some (.tup [.str "InvalidMatrix"]) := by
  have e : badM.fs.lookup ("code" : Str) = some (.str "InvalidMatrix") := rfl
  unfold lawFields
  rw [e]
  simp only [pick_M]
  rfl
theorem lf_N {v : D} : lawFields (badN v) = some (.tup [.str "InvalidNumber", v]) := by
  have e : (badN v).fs.lookup ("code" : Str) = some (.str "InvalidNumber") := rfl
  unfold lawFields
  rw [e]
  simp only [pick_N]
  rfl
theorem ex_M : badM.cls ∈ exs := by decide +kernel
theorem ex_N {v : D} : (badN v).cls ∈ exs := by
  show ("InvalidNumber" : Str) ∈ exs
  decide +kernel
theorem pl_M : Pl 3 (.tup [.str "InvalidMatrix"]) := .tup (by show 1 ≤ 1000; decide) fun d hd => by
  rw [List.mem_singleton.mp hd]
  exact .str _ (by decide +kernel)
theorem pl_N {v : D} (h : Pl 2 v) : Pl 3 (.tup [.str "InvalidNumber", v]) := .tup (by show 2 ≤ 1000; decide) fun d hd => by
  simp only [List.mem_cons, List.not_mem_nil, or_false] at hd
  rcases hd with rfl | rfl
  · exact .str _ (by decide +kernel)
  · exact h
theorem pl_okM {w : Nat} {m : List (List Int)} (hm : SqI w m) (w3 : w ≤ 3) : Pl 3 (.tup [.str "", matD m]) := .tup (by show 2 ≤ 1000; decide) fun d hd => by
  simp only [List.mem_cons, List.not_mem_nil, or_false] at hd
  rcases hd with rfl | rfl
  · exact .str _ (by decide +kernel)
  · exact pl_mat hm w3
def GPS : List (Fk × ZSp) := [(("_law_same" : Fk), sameZ 3), (("order_of" : Fk), orderZ), (("power" : Fk), powerZ), (("unimodular_inverse" : Fk), uinvZ), (("_law_undo" : Fk), lundoZ), (("_law_is_unimodular" : Fk), isUniAZ), (("_law_pick" : Fk), pickZ), (("_law_mul" : Fk), mtimesZ), (("_law_one" : Fk), identityZ), (("_law_order" : Fk), lorderZ), (("_law_power" : Fk), lpowerZ), (("_law_draw" : Fk), drawZ)]
theorem gps0 : GPS[0]? = some (("_law_same" : Fk), (sameZ 3 : ZSp)) := rfl
theorem gps1 : GPS[1]? = some (("order_of" : Fk), (orderZ : ZSp)) := rfl
theorem gps2 : GPS[2]? = some (("power" : Fk), (powerZ : ZSp)) := rfl
theorem gps3 : GPS[3]? = some (("unimodular_inverse" : Fk), (uinvZ : ZSp)) := rfl
theorem gps4 : GPS[4]? = some (("_law_undo" : Fk), (lundoZ : ZSp)) := rfl
theorem gps5 : GPS[5]? = some (("_law_is_unimodular" : Fk), (isUniAZ : ZSp)) := rfl
theorem gps6 : GPS[6]? = some (("_law_pick" : Fk), (pickZ : ZSp)) := rfl
theorem gps7 : GPS[7]? = some (("_law_mul" : Fk), (mtimesZ : ZSp)) := rfl
theorem gps8 : GPS[8]? = some (("_law_one" : Fk), (identityZ : ZSp)) := rfl
theorem gps9 : GPS[9]? = some (("_law_order" : Fk), (lorderZ : ZSp)) := rfl
theorem gps10 : GPS[10]? = some (("_law_power" : Fk), (lpowerZ : ZSp)) := rfl
theorem gps11 : GPS[11]? = some (("_law_draw" : Fk), (drawZ : ZSp)) := rfl
theorem powZI_sq {w : Nat} {m : List (List Int)} (hm : SqI w m) (w1 : 1 ≤ w) (w3 : w ≤ 3) (n : Int) : SqI w (powZI m n) := by
  unfold powZI
  split
  · exact pow_sq hm w1 _
  · exact pow_sq (undo_sq hm w1 w3) w1 _
theorem pl_ord (m : List (List Int)) : Pl 2 (ordD m) := by
  unfold ordD
  split
  · exact .int _
  · exact .non
structure Ps (w : Nat) (u : List (List Int)) (be t : D) : Prop where
  w1 : 1 ≤ w
  w3 : w ≤ 3
  us : SqI w u
  uu : Uni u
  ub : Bds 100 u
  bt : Th be
  tk : Knd t = true
  tn : isNumB (-100) 100 t = false
  tp : Pl 2 t
theorem ps_bad {w : Nat} {u : List (List Int)} {be t : D} {n : Int} {ds : List D} {E : ZX} {N : ZD} {x6 : Option U} (S : Ps w u be t) (q : isUniA be = false) (h : N.rt (.d (.bl true)) [.lst ds]) :
    vcS GPS (dropS 9 y__law_powers_so) E N [some (.o 0), some (.d (.int w)), some (.d (matD u)), some (.d be), some (.d (.int n)), some (.d t), x6] [.lst ds] := by
  obtain ⟨w1, w3, hu, huu, hub, hbe, tk, tn, tp⟩ := S
  unfold y__law_powers_so
  simp only [dropS]
  have same : ∀ {Q : U → List DO → Prop} {X : ZX}, Q (.d (.bl true)) [.lst ds] → callZ (sameZ 3) [.d (.tup [.str "InvalidMatrix"]), .d (.tup [.str "InvalidMatrix"])] [.lst ds] Q X := fun {Q X} hq => callD0 [.tup [.str "InvalidMatrix"], .tup [.str "InvalidMatrix"]] fun F2 X2 hF2 => ⟨_, rfl, rfl, pl_M, hF2 _ hq⟩
  rw [vs_seq, vs_ite]
  simp -implicitDefEqProofs only [vc, gt, st, so, oneK_1, gps0, gps1, gps2, gps3, gps4, gps5, gps6, gps7, gps8, gps9, gps10, gps11, tosK_1, toK_d]
  refine ⟨sz (Nat.le_of_ble_eq_true rfl), ?_⟩
  refine callDE0 [be] fun F X hF hX => ?_
  refine ⟨be, rfl, rfl, hbe, (fun z => by rw [q] at z; cases z), fun _ => hX _ ⟨ex_M, _, lf_M, same ?_⟩⟩
  simp -implicitDefEqProofs only [gt, st, so, oneK_1, gps0, gps1, gps2, gps3, gps4, gps5, gps6, gps7, gps8, gps9, gps10, gps11, boolK_1, Bool.not_true]
  refine ⟨(fun z => by cases z), fun _ => ?_⟩
  rw [vs_nil]
  dsimp only
  rw [vs_seq, vs_ite]
  simp -implicitDefEqProofs only [vc, gt, st, so, oneK_1, gps0, gps1, gps2, gps3, gps4, gps5, gps6, gps7, gps8, gps9, gps10, gps11, tosK_1, toK_d]
  refine ⟨sz (Nat.le_of_ble_eq_true rfl), ?_⟩
  refine callDE0 [be, .int n] fun F X hF hX => ?_
  refine ⟨be, .int n, rfl, rfl, hbe, rfl, fun _ => hX _ ⟨ex_M, _, lf_M, same ?_⟩, (fun z => by rw [q] at z; cases z), fun z => by rw [q] at z; cases z⟩
  simp -implicitDefEqProofs only [gt, st, so, oneK_1, gps0, gps1, gps2, gps3, gps4, gps5, gps6, gps7, gps8, gps9, gps10, gps11, boolK_1, Bool.not_true]
  refine ⟨(fun z => by cases z), fun _ => ?_⟩
  rw [vs_nil]
  dsimp only
  rw [vs_seq, vs_ret]
  simp -implicitDefEqProofs only [vc, gt, st, so, oneK_1, gps0, gps1, gps2, gps3, gps4, gps5, gps6, gps7, gps8, gps9, gps10, gps11, tosK_1, toK_d]
  refine ⟨sz (Nat.le_of_ble_eq_true rfl), ?_⟩
  refine callDE0 [be] fun F X hF hX => ?_
  exact ⟨be, rfl, rfl, hbe, fun _ => hX _ ⟨ex_M, _, lf_M, same h⟩, fun z => by rw [q] at z; cases z⟩
theorem ps_rest {w : Nat} {u : List (List Int)} {be t : D} {n : Int} {ds : List D} {E : ZX} {N : ZD} {x6 : Option U} (S : Ps w u be t) (h : N.rt (.d (.bl true)) [.lst ds]) :
    vcS GPS (dropS 5 y__law_powers_so) E N [some (.o 0), some (.d (.int w)), some (.d (matD u)), some (.d be), some (.d (.int n)), some (.d t), x6] [.lst ds] := by
  have S0 := S
  obtain ⟨w1, w3, hu, huu, hub, hbe, tk, tn, tp⟩ := S
  have hut := th_mat hu w3 (hub.mono (by decide))
  have hua := (uniA_mat hu w1 w3 huu).1
  unfold y__law_powers_so
  simp only [dropS]
  rw [vs_seq, vs_ite]
  simp -implicitDefEqProofs only [vc, gt, st, so, oneK_1, gps0, gps1, gps2, gps3, gps4, gps5, gps6, gps7, gps8, gps9, gps10, gps11, tosK_2, toK_d]
  refine ⟨sz (Nat.le_of_ble_eq_true rfl), ?_⟩
  refine callDE0 [matD u, t] fun F X hF hX => ?_
  refine ⟨matD u, t, rfl, rfl, hut, tk, (fun z => by rw [hua] at z; cases z), fun _ _ => hX _ ⟨ex_N, _, lf_N, ?_⟩, fun _ n e h1 h2 => ?_⟩
  rotate_left
  · exfalso
    subst e
    have tn : (decide (-100 ≤ n) && decide (n ≤ 100)) = false := tn
    rw [decide_eq_true h1, decide_eq_true h2] at tn
    cases tn
  refine callD0 [.tup [.str "InvalidNumber", t], .tup [.str "InvalidNumber", t]] fun F2 X2 hF2 => ⟨_, rfl, rfl, pl_N tp, hF2 _ ?_⟩
  simp -implicitDefEqProofs only [gt, st, so, oneK_1, gps0, gps1, gps2, gps3, gps4, gps5, gps6, gps7, gps8, gps9, gps10, gps11, boolK_1, Bool.not_true]
  refine ⟨(fun z => by cases z), fun _ => ?_⟩
  rw [vs_nil]
  dsimp only
  rw [vs_seq, vs_set]
  simp -implicitDefEqProofs only [vc, gt, st, so, oneK_1, gps0, gps1, gps2, gps3, gps4, gps5, gps6, gps7, gps8, gps9, gps10, gps11]
  refine callD0 [be] fun F X hF => ⟨be, rfl, rfl, hbe, hF _ ?_⟩
  try simp -implicitDefEqProofs only [gt, st, so, oneK_1, gps0, gps1, gps2, gps3, gps4, gps5, gps6, gps7, gps8, gps9, gps10, gps11]
  rw [vs_seq, vs_ite]
  cases q : isUniA be with
  | false =>
    simp -implicitDefEqProofs only [vc, gt, st, so, oneK_1, gps0, gps1, gps2, gps3, gps4, gps5, gps6, gps7, gps8, gps9, gps10, gps11, boolK_1, tosK_1, tosK_2, toK_d]
    refine ⟨(fun z => by cases z), fun _ => ⟨sz (Nat.le_of_ble_eq_true rfl), ?_⟩⟩
    refine callDE0 [be, t] fun F X hF hX => ?_
    refine ⟨be, t, rfl, rfl, hbe, tk, fun _ => hX _ ⟨ex_M, _, lf_M, ?_⟩, (fun z => by rw [q] at z; cases z), fun z => by rw [q] at z; cases z⟩
    refine callD0 [.tup [.str "InvalidMatrix"], .tup [.str "InvalidMatrix"]] fun F2 X2 hF2 => ⟨_, rfl, rfl, pl_M, hF2 _ ?_⟩
    simp -implicitDefEqProofs only [gt, st, so, oneK_1, gps0, gps1, gps2, gps3, gps4, gps5, gps6, gps7, gps8, gps9, gps10, gps11, boolK_1, Bool.not_true]
    refine ⟨(fun z => by cases z), fun _ => ?_⟩
    rw [vs_nil]
    dsimp only
    rw [vs_seq, vs_ite]
    simp -implicitDefEqProofs only [vc, gt, st, so, oneK_1, gps0, gps1, gps2, gps3, gps4, gps5, gps6, gps7, gps8, gps9, gps10, gps11, boolK_1]
    refine ⟨(fun z => by cases z), fun _ => ?_⟩
    rw [vs_nil]
    exact ps_bad S0 q h
  | true =>
    obtain ⟨v, e, v1, v3, bs, bu, bb⟩ := uniA_of hbe q
    simp -implicitDefEqProofs only [vc, gt, st, so, oneK_1, gps0, gps1, gps2, gps3, gps4, gps5, gps6, gps7, gps8, gps9, gps10, gps11, boolK_1, tosK_1, tosK_2, toK_d]
    refine ⟨fun _ => ⟨sz (Nat.le_of_ble_eq_true rfl), ?_⟩, fun z => by cases z⟩
    refine callDE0 [be, t] fun F X hF hX => ?_
    refine ⟨be, t, rfl, rfl, hbe, tk, (fun z => by rw [q] at z; cases z), fun _ _ => hX _ ⟨ex_N, _, lf_N, ?_⟩, fun _ n e h1 h2 => ?_⟩
    rotate_left
    · exfalso
      subst e
      have tn : (decide (-100 ≤ n) && decide (n ≤ 100)) = false := tn
      rw [decide_eq_true h1, decide_eq_true h2] at tn
      cases tn
    refine callD0 [.tup [.str "InvalidNumber", t], .tup [.str "InvalidNumber", t]] fun F2 X2 hF2 => ⟨_, rfl, rfl, pl_N tp, hF2 _ ?_⟩
    simp -implicitDefEqProofs only [gt, st, so, oneK_1, gps0, gps1, gps2, gps3, gps4, gps5, gps6, gps7, gps8, gps9, gps10, gps11, boolK_1, Bool.not_true]
    refine ⟨(fun z => by cases z), fun _ => ?_⟩
    rw [vs_nil]
    dsimp only
    rw [vs_seq, vs_ite]
    simp -implicitDefEqProofs only [vc, gt, st, so, oneK_1, gps0, gps1, gps2, gps3, gps4, gps5, gps6, gps7, gps8, gps9, gps10, gps11, boolK_1]
    refine ⟨fun _ => ?_, fun z => by cases z⟩
    rw [vs_seq, vs_ret]
    simp -implicitDefEqProofs only [vc, gt, st, so, oneK_1, gps0, gps1, gps2, gps3, gps4, gps5, gps6, gps7, gps8, gps9, gps10, gps11, tosK_2, toK_d]
    rw [e] at q ⊢
    generalize matOf be = b at *
    refine callD0 [matD b] fun F X hF => ⟨b, v, 400, rfl, rfl, bs, v1, v3, bb, by decide, by decide, hF _ ?_⟩
    simp -implicitDefEqProofs only [gt, st, so, oneK_1, gps0, gps1, gps2, gps3, gps4, gps5, gps6, gps7, gps8, gps9, gps10, gps11, tosK_2, toK_d]
    refine ⟨sz (Nat.le_of_ble_eq_true rfl), ?_⟩
    refine callDE0 [matD b] fun F X hF hX => ?_
    refine ⟨matD b, rfl, rfl, th_mat bs v3 bb, fun _ => hF _ ?_, fun z => by rw [q] at z; cases z⟩
    rw [matOf_mat]
    simp -implicitDefEqProofs only [gt, st, so, oneK_1, gps0, gps1, gps2, gps3, gps4, gps5, gps6, gps7, gps8, gps9, gps10, gps11, toK_d]
    exact callD0 [.tup [.str "", matD (undoI b)], .tup [.str "", matD (undoI b)]] fun F2 X2 hF2 => ⟨_, rfl, rfl, pl_okM (undo_sq bs v1 v3) v3, hF2 _ h⟩
theorem ps_start {w : Nat} {u : List (List Int)} {be : D} {n : Int} {ds : List D} {E : ZX} {N : ZD} {x5 x6 : Option U} (w1 : 1 ≤ w) (w3 : w ≤ 3) (hu : SqI w u) (huu : Uni u) (hub : Bds 100 u) (hbe : Th be) (hn : n.natAbs ≤ 100) (hb : BagOk ds) (h : ∀ ds', BagOk ds' → N.rt (.d (.bl true)) [.lst ds']) :
    vcS GPS (dropS 2 y__law_powers_so) E N [some (.o 0), some (.d (.int w)), some (.d (matD u)), some (.d be), some (.d (.int n)), x5, x6] [.lst ds] := by
  have hub4 := hub.mono (b := 400) (by decide)
  have hut := th_mat hu w3 hub4
  have hua := (uniA_mat hu w1 w3 huu).1
  unfold y__law_powers_so
  simp only [dropS]
  rw [vs_seq, vs_ite]
  simp -implicitDefEqProofs only [vc, gt, st, so, oneK_1, gps0, gps1, gps2, gps3, gps4, gps5, gps6, gps7, gps8, gps9, gps10, gps11]
  refine callDE0 [matD u] fun F X hF hX => ?_
  refine ⟨matD u, rfl, rfl, hut, fun _ => hF _ ?_, fun z => by rw [hua] at z; cases z⟩
  rw [matOf_mat]
  try simp -implicitDefEqProofs only [gt, st, so, oneK_1, gps0, gps1, gps2, gps3, gps4, gps5, gps6, gps7, gps8, gps9, gps10, gps11]
  refine callDE0 [matD u, .int n] fun F X hF hX => ?_
  refine ⟨matD u, .int n, rfl, rfl, hut, rfl, (fun z => by rw [hua] at z; cases z), (fun _ z => ?_), fun _ n' e _ _ => ?_⟩
  · exfalso
    have z : (decide (-100 ≤ n) && decide (n ≤ 100)) = false := z
    rw [decide_eq_true (by omega), decide_eq_true (by omega)] at z
    cases z
  cases e
  refine hF _ ?_
  rw [matOf_mat]
  try simp -implicitDefEqProofs only [gt, st, so, oneK_1, gps0, gps1, gps2, gps3, gps4, gps5, gps6, gps7, gps8, gps9, gps10, gps11]
  refine callDE0 [matD u] fun F X hF hX => ?_
  refine ⟨matD u, rfl, rfl, hut, (fun z => by rw [hua] at z; cases z), fun _ => hF _ ?_⟩
  rw [matOf_mat]
  simp -implicitDefEqProofs only [gt, st, so, oneK_1, gps0, gps1, gps2, gps3, gps4, gps5, gps6, gps7, gps8, gps9, gps10, gps11, tosK_3, newL]
  refine ⟨sz (Nat.le_of_ble_eq_true rfl), ?_⟩
  refine callD0 [matD u] fun F X hF => ⟨u, w, 400, rfl, rfl, hu, w1, w3, hub4, by decide, by decide, hF _ ?_⟩
  try simp -implicitDefEqProofs only [gt, st, so, oneK_1, gps0, gps1, gps2, gps3, gps4, gps5, gps6, gps7, gps8, gps9, gps10, gps11]
  refine callD0 [matD u, .int n] fun F X hF => ⟨u, n, w, rfl, rfl, hu, w1, w3, huu, hub4, hn, hF _ ?_⟩
  try simp -implicitDefEqProofs only [gt, st, so, oneK_1, gps0, gps1, gps2, gps3, gps4, gps5, gps6, gps7, gps8, gps9, gps10, gps11]
  refine callD0 [matD u] fun F X hF => ⟨u, w, rfl, rfl, hu, w1, w3, huu, hub4, hF _ ?_⟩
  simp -implicitDefEqProofs only [gt, st, so, oneK_1, gps0, gps1, gps2, gps3, gps4, gps5, gps6, gps7, gps8, gps9, gps10, gps11, tosK_3, newL]
  refine ⟨sz (Nat.le_of_ble_eq_true rfl), ?_⟩
  have pl3 : Pl 3 (.lst [matD (undoI u), matD (powZI u n), ordD u]) := .lst (by show 3 ≤ 1000; decide) fun d hd => by
    simp only [List.mem_cons, List.not_mem_nil, or_false] at hd
    rcases hd with rfl | rfl | rfl
    · exact pl_mat (undo_sq hu w1 w3) w3
    · exact pl_mat (powZI_sq hu w1 w3 n) w3
    · exact pl_ord u
  refine callD0 [.lst [matD (undoI u), matD (powZI u n), ordD u], .lst [matD (undoI u), matD (powZI u n), ordD u]] fun F X hF => ⟨_, rfl, rfl, pl3, hF _ ?_⟩
  simp -implicitDefEqProofs only [gt, st, so, oneK_1, gps0, gps1, gps2, gps3, gps4, gps5, gps6, gps7, gps8, gps9, gps10, gps11, boolK_1, Bool.not_true]
  refine ⟨(fun z => by cases z), fun _ => ?_⟩
  rw [vs_nil]
  dsimp only
  rw [vs_seq, vs_ite]
  simp -implicitDefEqProofs only [vc, gt, st, so, oneK_1, gps0, gps1, gps2, gps3, gps4, gps5, gps6, gps7, gps8, gps9, gps10, gps11]
  refine callD0 [matD u] fun F X hF => ⟨u, w, 400, rfl, rfl, hu, w1, w3, hub4, by decide, by decide, hF _ ?_⟩
  try simp -implicitDefEqProofs only [gt, st, so, oneK_1, gps0, gps1, gps2, gps3, gps4, gps5, gps6, gps7, gps8, gps9, gps10, gps11]
  refine callD0 [matD (undoI u), matD u] fun F X hF => ⟨_, _, w, _, _, rfl, rfl, w1, w3, undo_sq hu w1 w3, hu, undo_bd hu w1 w3 hub (by decide) huu, hub, by decide, hF _ ?_⟩
  rw [(undo_mul hu w1 w3 huu).1]
  try simp -implicitDefEqProofs only [gt, st, so, oneK_1, gps0, gps1, gps2, gps3, gps4, gps5, gps6, gps7, gps8, gps9, gps10, gps11]
  refine callD0 [.int w] fun F X hF => ⟨w, rfl, rfl, by omega, hF _ ?_⟩
  simp -implicitDefEqProofs only [gt, st, so, oneK_1, gps0, gps1, gps2, gps3, gps4, gps5, gps6, gps7, gps8, gps9, gps10, gps11, nrK_d]
  refine ne_mat (one_sq w) (one_sq w) w3 ?_
  rw [decide_eq_true rfl]
  simp -implicitDefEqProofs only [gt, st, so, oneK_1, gps0, gps1, gps2, gps3, gps4, gps5, gps6, gps7, gps8, gps9, gps10, gps11, boolK_1, Bool.not_true]
  refine ⟨(fun z => by cases z), fun _ => ?_⟩
  rw [vs_nil]
  dsimp only
  rw [vs_seq, vs_set]
  simp -implicitDefEqProofs only [vc, gt, st, so, oneK_1, gps0, gps1, gps2, gps3, gps4, gps5, gps6, gps7, gps8, gps9, gps10, gps11, nrK_d, tosK_1, newL, pow_i, tosK, toDs_d, toDs_nil, Option.map_some]
  refine ⟨sz (Nat.le_of_ble_eq_true rfl), sz (Nat.le_of_ble_eq_true rfl), ⟨by decide, by decide, by decide⟩, sz (Nat.le_of_ble_eq_true rfl), ?_⟩
  refine callO [.lst _] rfl fun F X hF => ⟨ds, _, .inl ⟨rfl, rfl⟩, hb, Nat.le_of_ble_eq_true rfl, Nat.lt_of_le_of_lt (Nat.le_of_ble_eq_true rfl : _ ≤ 60) (by decide), fun t ds1 ht c1 => hF _ _ ?_⟩
  have ht3 : Knd t = true ∧ isNumB (-100) 100 t = false ∧ Pl 2 t := by
    simp only [List.mem_cons, List.not_mem_nil, or_false] at ht
    rcases ht with rfl | rfl | rfl | rfl | rfl | rfl | rfl | rfl | rfl
    · exact ⟨rfl, by decide +kernel, .int _⟩
    · exact ⟨rfl, by decide +kernel, .int _⟩
    · exact ⟨rfl, rfl, .bl _⟩
    · exact ⟨rfl, rfl, .bl _⟩
    · exact ⟨rfl, rfl, .non⟩
    · exact ⟨rfl, rfl, .str _ (by decide +kernel)⟩
    · exact ⟨rfl, rfl, .tup (by show 1 ≤ 1000; decide) fun d hd => by rw [List.mem_singleton.mp hd]; exact .int _⟩
    · exact ⟨rfl, rfl, .lst (by show 1 ≤ 1000; decide) fun d hd => by rw [List.mem_singleton.mp hd]; exact .int _⟩
    · exact ⟨rfl, by decide +kernel, .int _⟩
  try simp -implicitDefEqProofs only [gt, st, so, oneK_1, gps0, gps1, gps2, gps3, gps4, gps5, gps6, gps7, gps8, gps9, gps10, gps11]
  exact ps_rest ⟨w1, w3, hu, huu, hub, hbe, ht3.1, ht3.2.1, ht3.2.2⟩ (h _ c1)
theorem k_law_powers_so : Keeps GPS y__law_powers_so N__law_powers_so.length judgedZ := by
  rintro us O Q E ⟨ds, w, u, be, rfl, rfl, hb, w1, w3, hu, huu, hub, hbe, h⟩
  show vcS GPS y__law_powers_so E _ [some (.o 0), some (.d (.int w)), some (.d (matD u)), some (.d be), none, none, none] [.lst ds]
  unfold y__law_powers_so
  rw [vs_seq, vs_set]
  simp -implicitDefEqProofs only [vc, gt, st, so, oneK_1, gps0, gps1, gps2, gps3, gps4, gps5, gps6, gps7, gps8, gps9, gps10, gps11, nrK_d]
  refine callO [.int 19] rfl fun F X hF => ⟨ds, 19, rfl, rfl, hb, by decide, by decide, fun r ds1 a1 b1 c1 => hF _ _ ?_⟩
  simp -implicitDefEqProofs only [gt, st, so, oneK_1, gps0, gps1, gps2, gps3, gps4, gps5, gps6, gps7, gps8, gps9, gps10, gps11, nrK_d, sub_i, tosK, toDs_d, toDs_nil, Option.map_some, newL]
  refine ⟨sz (Nat.le_of_ble_eq_true rfl), ?_⟩
  refine callO [.lst _] rfl fun F X hF => ⟨ds1, _, .inl ⟨rfl, rfl⟩, c1, Nat.le_of_ble_eq_true rfl, Nat.lt_of_le_of_lt (Nat.le_of_ble_eq_true rfl : _ ≤ 60) (by decide), fun x ds2 hx c2 => hF _ _ ?_⟩
  have hx' : ∃ n : Int, x = .int n ∧ n.natAbs ≤ 100 := by
    simp only [List.mem_cons, List.not_mem_nil, or_false] at hx
    rcases hx with rfl | rfl | rfl | rfl | rfl | rfl | rfl | rfl <;> exact ⟨_, rfl, by omega⟩
  obtain ⟨n, rfl, hn⟩ := hx'
  try simp -implicitDefEqProofs only [gt, st, so, oneK_1, gps0, gps1, gps2, gps3, gps4, gps5, gps6, gps7, gps8, gps9, gps10, gps11]
  rw [vs_seq, vs_ite]
  simp -implicitDefEqProofs only [vc, gt, st, so, oneK_1, gps0, gps1, gps2, gps3, gps4, gps5, gps6, gps7, gps8, gps9, gps10, gps11]
  refine callO [.int 6] rfl fun F X hF => ⟨ds2, 6, rfl, rfl, c2, by decide, by decide, fun r2 ds3 a3 b3 c3 => hF _ _ ?_⟩
  simp -implicitDefEqProofs only [gt, st, so, oneK_1, gps0, gps1, gps2, gps3, gps4, gps5, gps6, gps7, gps8, gps9, gps10, gps11, nrK_d, eq_i, boolK_1]
  refine way (fun _ => ?_) fun _ => ?_
  · rw [vs_seq, vs_set]
    simp -implicitDefEqProofs only [vc, gt, st, so, oneK_1, gps0, gps1, gps2, gps3, gps4, gps5, gps6, gps7, gps8, gps9, gps10, gps11, nrK_d, tosK_3, newL]
    refine ⟨sz (Nat.le_of_ble_eq_true rfl), ?_⟩
    refine callO [.lst _] rfl fun F X hF => ⟨ds3, _, .inl ⟨rfl, rfl⟩, c3, Nat.le_of_ble_eq_true rfl, Nat.lt_of_le_of_lt (Nat.le_of_ble_eq_true rfl : _ ≤ 60) (by decide), fun x ds4 hx c4 => hF _ _ ?_⟩
    have hx' : ∃ n : Int, x = .int n ∧ n.natAbs ≤ 100 := by
      simp only [List.mem_cons, List.not_mem_nil, or_false] at hx
      rcases hx with rfl | rfl | rfl <;> exact ⟨_, rfl, by omega⟩
    obtain ⟨n2, rfl, hn2⟩ := hx'
    try simp -implicitDefEqProofs only [gt, st, so, oneK_1, gps0, gps1, gps2, gps3, gps4, gps5, gps6, gps7, gps8, gps9, gps10, gps11]
    rw [vs_nil]
    exact ps_start w1 w3 hu huu hub hbe hn2 c4 h
  · rw [vs_nil]
    exact ps_start w1 w3 hu huu hub hbe hn c3 h
def sumsZ : ZSp := fun us O Q _ => ∃ (ds : List D) (w : Nat), us = [.o 0, .d (.int w)] ∧ O = [.lst ds] ∧ BagOk ds ∧ 1 ≤ w ∧ w ≤ 3 ∧ ∀ ds', BagOk ds' → Q (.d (.bl true)) [.lst ds']
/-! ### the law -/
def GL : List (Fk × ZSp) := [(("_law_powers_so" : Fk), judgedZ), (("_law_judged_so" : Fk), judgedZ), (("_law_sums_so" : Fk), sumsZ), (("_law_bent" : Fk), bentZ), (("_law_draw" : Fk), drawZ), (("_law_unimodular" : Fk), uniZ 20), (("_law_spun" : Fk), uniZ 100), (("_law_bag" : Fk), bagZ)]
theorem gl0 : GL[0]? = some (("_law_powers_so" : Fk), (judgedZ : ZSp)) := rfl
theorem gl1 : GL[1]? = some (("_law_judged_so" : Fk), (judgedZ : ZSp)) := rfl
theorem gl2 : GL[2]? = some (("_law_sums_so" : Fk), (sumsZ : ZSp)) := rfl
theorem gl3 : GL[3]? = some (("_law_bent" : Fk), (bentZ : ZSp)) := rfl
theorem gl4 : GL[4]? = some (("_law_draw" : Fk), (drawZ : ZSp)) := rfl
theorem gl5 : GL[5]? = some (("_law_unimodular" : Fk), (uniZ 20 : ZSp)) := rfl
theorem gl6 : GL[6]? = some (("_law_spun" : Fk), (uniZ 100 : ZSp)) := rfl
theorem gl7 : GL[7]? = some (("_law_bag" : Fk), (bagZ : ZSp)) := rfl
theorem law_body {w : Nat} {u : List (List Int)} {ds : List D} {E : ZX} {N : ZD} {x0 x2 x5 : Option U} (w1 : 1 ≤ w) (w3 : w ≤ 3) (hu : SqI w u) (huu : Uni u) (hub : Bds 100 u) (hb : BagOk ds)
    (hN : ∀ ds' x5, BagOk ds' → N.nx [x0, some (.o 0), x2, some (.d (.int w)), some (.d (matD u)), x5] [.lst ds']) :
    vcS GL (dropS 2 (forB (dropS 1 y_law))) E N [x0, some (.o 0), x2, some (.d (.int w)), some (.d (matD u)), x5] [.lst ds] := by
  unfold y_law
  simp only [dropS, forB]
  rw [vs_seq, vs_set]
  simp -implicitDefEqProofs only [vc, gt, st, so, oneK_1, gl0, gl1, gl2, gl3, gl4, gl5, gl6, gl7]
  refine callO [matD u] rfl fun F X hF => ⟨ds, u, w, rfl, rfl, hb, w1, w3, hu, hub, fun be ds1 hbe c1 => hF _ _ ?_⟩
  try simp -implicitDefEqProofs only [gt, st, so, oneK_1, gl0, gl1, gl2, gl3, gl4, gl5, gl6, gl7]
  rw [vs_seq, vs_ite]
  simp -implicitDefEqProofs only [vc, gt, st, so, oneK_1, gl0, gl1, gl2, gl3, gl4, gl5, gl6, gl7]
  refine callO [.int w] rfl fun F X hF => ⟨ds1, w, rfl, rfl, c1, w1, w3, fun ds2 c2 => hF _ _ ?_⟩
  simp -implicitDefEqProofs only [gt, st, so, oneK_1, gl0, gl1, gl2, gl3, gl4, gl5, gl6, gl7, boolK_1, Bool.not_true]
  refine ⟨(fun z => by cases z), fun _ => ?_⟩
  refine callO [.int w, matD u, be] rfl fun F X hF => ⟨ds2, w, u, be, rfl, rfl, c2, w1, w3, hu, huu, hub, hbe, fun ds3 c3 => hF _ _ ?_⟩
  simp -implicitDefEqProofs only [gt, st, so, oneK_1, gl0, gl1, gl2, gl3, gl4, gl5, gl6, gl7, boolK_1, Bool.not_true]
  refine ⟨(fun z => by cases z), fun _ => ?_⟩
  refine callO [.int w, matD u, be] rfl fun F X hF => ⟨ds3, w, u, be, rfl, rfl, c3, w1, w3, hu, huu, hub, hbe, fun ds4 c4 => hF _ _ ?_⟩
  simp -implicitDefEqProofs only [gt, st, so, oneK_1, gl0, gl1, gl2, gl3, gl4, gl5, gl6, gl7, boolK_1, Bool.not_true]
  refine ⟨(fun z => by cases z), fun _ => ?_⟩
  rw [vs_nil]
  dsimp only
  rw [vs_nil]
  exact hN _ _ c4
theorem k_law : Keeps GL y_law N_law.length (lawZ 63) := by
  rintro us O Q E ⟨ns, rfl, rfl, hl, h⟩
  show vcS GL y_law E _ [some (.d (.scr ns)), none, none, none, none, none] []
  unfold y_law
  rw [vs_seq, vs_set]
  simp -implicitDefEqProofs only [vc, gt, st, so, oneK_1, gl0, gl1, gl2, gl3, gl4, gl5, gl6, gl7]
  refine callD [.scr ns] ⟨ns, rfl, rfl, fun ds0 hb0 => ?_⟩
  simp -implicitDefEqProofs only [gt, st, so, oneK_1, gl0, gl1, gl2, gl3, gl4, gl5, gl6, gl7, shU_o, ren, List.length_nil, Nat.zero_add, List.nil_append]
  rw [vs_seq, vs_for]
  simp -implicitDefEqProofs only [vc, gt, st, so, oneK_1, gl0, gl1, gl2, gl3, gl4, gl5, gl6, gl7, nrK_d]
  refine ⟨⟨by decide, by decide⟩, _, rfl, ?_⟩
  refine forR_inv (fun i ρ O => ∃ (ds : List D) (x2 x3 x4 x5 : Option U), O = [.lst ds] ∧ BagOk ds ∧ ρ = [some (.d (.scr ns)), some (.o 0), x2, x3, x4, x5]) _ _ _ 0 ⟨ds0, _, _, _, _, rfl, hb0, rfl⟩ ?_ ?_
  · rintro j d ρ O he ⟨ds, x2, x3, x4, x5, rfl, hb, rfl⟩ N hN
    clear he
    simp -implicitDefEqProofs only [bindT, st]
    rw [vs_seq, vs_set]
    simp -implicitDefEqProofs only [vc, gt, st, so, oneK_1, gl0, gl1, gl2, gl3, gl4, gl5, gl6, gl7]
    refine callO [.int 3] rfl fun F X hF => ⟨ds, 3, rfl, rfl, hb, by decide, by decide, fun r ds1 a1 b1 c1 => hF _ _ ?_⟩
    obtain ⟨r, rfl⟩ := Int.eq_ofNat_of_zero_le a1
    simp -implicitDefEqProofs only [gt, st, so, oneK_1, gl0, gl1, gl2, gl3, gl4, gl5, gl6, gl7, nrK_d, add_i]
    rw [show (1 + (r : Int)) = ((r + 1 : Nat) : Int) by omega]
    have w1 : 1 ≤ r + 1 := by omega
    have w3 : r + 1 ≤ 3 := by omega
    generalize r + 1 = w at *
    rw [vs_seq, vs_set]
    simp -implicitDefEqProofs only [vc, gt, st, so, oneK_1, gl0, gl1, gl2, gl3, gl4, gl5, gl6, gl7]
    refine callO [.int 2] rfl fun F X hF => ⟨ds1, 2, rfl, rfl, c1, by decide, by decide, fun r2 ds2 a2 b2 c2 => hF _ _ ?_⟩
    simp -implicitDefEqProofs only [gt, st, so, oneK_1, gl0, gl1, gl2, gl3, gl4, gl5, gl6, gl7, nrK_d, eq_i, boolK_1]
    refine way (fun _ => ?_) fun _ => ?_
    · refine callO [.int w] rfl fun F X hF => ⟨ds2, w, rfl, rfl, c2, w1, w3, fun u ds3 hu huu hub c3 => hF _ _ ?_⟩
      try simp -implicitDefEqProofs only [gt, st, so, oneK_1, gl0, gl1, gl2, gl3, gl4, gl5, gl6, gl7]
      exact law_body w1 w3 hu huu (hub.mono (by decide)) c3 fun ds' x5 hb' => hN _ _ ⟨ds', _, _, _, _, rfl, hb', rfl⟩
    · refine callO [.int w] rfl fun F X hF => ⟨ds2, w, rfl, rfl, c2, w1, w3, fun u ds3 hu huu hub c3 => hF _ _ ?_⟩
      try simp -implicitDefEqProofs only [gt, st, so, oneK_1, gl0, gl1, gl2, gl3, gl4, gl5, gl6, gl7]
      exact law_body w1 w3 hu huu hub c3 fun ds' x5 hb' => hN _ _ ⟨ds', _, _, _, _, rfl, hb', rfl⟩
  · rintro ρ O ⟨ds, x2, x3, x4, x5, rfl, hb, rfl⟩
    dsimp only
    rw [vs_seq, vs_ret]
    simp -implicitDefEqProofs only [vc, gt, st, so, oneK_1, gl0, gl1, gl2, gl3, gl4, gl5, gl6, gl7]
    exact h _
end Z

set_option Elab.async false
set_option linter.all false
set_option maxRecDepth 100000
set_option maxHeartbeats 0
namespace Z
open PySem PySem.Spec PyProof.Rows L2
def hd6 : He.DefD := ⟨("is_any_number", none), "is_any_number", "is_any_number", defArgs (top 6), defBody (top 6), defScope (top 6), [], []⟩
def hd7 : He.DefD := ⟨("is_number", none), "is_number", "is_number", defArgs (top 7), defBody (top 7), defScope (top 7), [], []⟩
def hd11 : He.DefD := ⟨("is_vector", none), "is_vector", "is_vector", defArgs (top 11), defBody (top 11), defScope (top 11), [], []⟩
def hd12 : He.DefD := ⟨("is_matrix", none), "is_matrix", "is_matrix", defArgs (top 12), defBody (top 12), defScope (top 12), [], []⟩
def hd13 : He.DefD := ⟨("zero", none), "zero", "zero", defArgs (top 13), defBody (top 13), defScope (top 13), [], []⟩
def hd14 : He.DefD := ⟨("unit", none), "unit", "unit", defArgs (top 14), defBody (top 14), defScope (top 14), [], []⟩
def hd15 : He.DefD := ⟨("identity", none), "identity", "identity", defArgs (top 15), defBody (top 15), defScope (top 15), [], []⟩
def hd16 : He.DefD := ⟨("vector_plus", none), "vector_plus", "vector_plus", defArgs (top 16), defBody (top 16), defScope (top 16), [], []⟩
def hd17 : He.DefD := ⟨("vector_minus", none), "vector_minus", "vector_minus", defArgs (top 17), defBody (top 17), defScope (top 17), [], []⟩
def hd18 : He.DefD := ⟨("vector_times", none), "vector_times", "vector_times", defArgs (top 18), defBody (top 18), defScope (top 18), [], []⟩
def hd19 : He.DefD := ⟨("dot", none), "dot", "dot", defArgs (top 19), defBody (top 19), defScope (top 19), [], []⟩
def hd20 : He.DefD := ⟨("led", none), "led", "led", defArgs (top 20), defBody (top 20), defScope (top 20), [], []⟩
def hd21 : He.DefD := ⟨("matrix_times", none), "matrix_times", "matrix_times", defArgs (top 21), defBody (top 21), defScope (top 21), [], []⟩
def hd22 : He.DefD := ⟨("determinant", none), "determinant", "determinant", defArgs (top 22), defBody (top 22), defScope (top 22), [], []⟩
def hd23 : He.DefD := ⟨("adjugate", none), "adjugate", "adjugate", defArgs (top 23), defBody (top 23), defScope (top 23), [], []⟩
def hd24 : He.DefD := ⟨("is_unimodular", none), "is_unimodular", "is_unimodular", defArgs (top 24), defBody (top 24), defScope (top 24), [], []⟩
def hd25 : He.DefD := ⟨("is_any_unimodular", none), "is_any_unimodular", "is_any_unimodular", defArgs (top 25), defBody (top 25), defScope (top 25), [], []⟩
def hd26 : He.DefD := ⟨("unimodular_inverse", none), "unimodular_inverse", "unimodular_inverse", defArgs (top 26), defBody (top 26), defScope (top 26), [], []⟩
def hd27 : He.DefD := ⟨("power", none), "power", "power", defArgs (top 27), defBody (top 27), defScope (top 27), [], []⟩
def hd28 : He.DefD := ⟨("order_of", none), "order_of", "order_of", defArgs (top 28), defBody (top 28), defScope (top 28), [], []⟩
def hd30 : He.DefD := ⟨("_law_bag", none), "_law_bag", "_law_bag", defArgs (top 30), defBody (top 30), defScope (top 30), [], []⟩
def hd31 : He.DefD := ⟨("_law_draw", none), "_law_draw", "_law_draw", defArgs (top 31), defBody (top 31), defScope (top 31), [], []⟩
def hd32 : He.DefD := ⟨("_law_pick", none), "_law_pick", "_law_pick", defArgs (top 32), defBody (top 32), defScope (top 32), [], []⟩
def hd33 : He.DefD := ⟨("_law_mixed", none), "_law_mixed", "_law_mixed", defArgs (top 33), defBody (top 33), defScope (top 33), [], []⟩
def hd34 : He.DefD := ⟨("_law_huge", none), "_law_huge", "_law_huge", defArgs (top 34), defBody (top 34), defScope (top 34), [], []⟩
def hd35 : He.DefD := ⟨("_law_number", none), "_law_number", "_law_number", defArgs (top 35), defBody (top 35), defScope (top 35), [], []⟩
def hd36 : He.DefD := ⟨("_law_vector", none), "_law_vector", "_law_vector", defArgs (top 36), defBody (top 36), defScope (top 36), [], []⟩
def hd37 : He.DefD := ⟨("_law_int", none), "_law_int", "_law_int", defArgs (top 37), defBody (top 37), defScope (top 37), [], []⟩
def hd38 : He.DefD := ⟨("_law_is_vector", none), "_law_is_vector", "_law_is_vector", defArgs (top 38), defBody (top 38), defScope (top 38), [], []⟩
def hd39 : He.DefD := ⟨("_law_is_matrix", none), "_law_is_matrix", "_law_is_matrix", defArgs (top 39), defBody (top 39), defScope (top 39), [], []⟩
def hd40 : He.DefD := ⟨("_law_is_unimodular", none), "_law_is_unimodular", "_law_is_unimodular", defArgs (top 40), defBody (top 40), defScope (top 40), [], []⟩
def hd41 : He.DefD := ⟨("_law_same", none), "_law_same", "_law_same", defArgs (top 41), defBody (top 41), defScope (top 41), [], []⟩
def hd42 : He.DefD := ⟨("_law_fields", none), "_law_fields", "_law_fields", defArgs (top 42), defBody (top 42), defScope (top 42), [], []⟩
def hd43 : He.DefD := ⟨("_law_got", none), "_law_got", "_law_got", defArgs (top 43), defBody (top 43), defScope (top 43), [], []⟩
def hd44 : He.DefD := ⟨("_law_is", none), "_law_is", "_law_is", defArgs (top 44), defBody (top 44), defScope (top 44), [], []⟩
def hd45 : He.DefD := ⟨("_law_odd", none), "_law_odd", "_law_odd", defArgs (top 45), defBody (top 45), defScope (top 45), [], []⟩
def hd46 : He.DefD := ⟨("_law_lead", none), "_law_lead", "_law_lead", defArgs (top 46), defBody (top 46), defScope (top 46), [], []⟩
def hd47 : He.DefD := ⟨("_law_mul", none), "_law_mul", "_law_mul", defArgs (top 47), defBody (top 47), defScope (top 47), [], []⟩
def hd48 : He.DefD := ⟨("_law_one", none), "_law_one", "_law_one", defArgs (top 48), defBody (top 48), defScope (top 48), [], []⟩
def hd49 : He.DefD := ⟨("_law_det", none), "_law_det", "_law_det", defArgs (top 49), defBody (top 49), defScope (top 49), [], []⟩
def hd50 : He.DefD := ⟨("_law_minor", none), "_law_minor", "_law_minor", defArgs (top 50), defBody (top 50), defScope (top 50), [], []⟩
def hd51 : He.DefD := ⟨("_law_undo", none), "_law_undo", "_law_undo", defArgs (top 51), defBody (top 51), defScope (top 51), [], []⟩
def hd52 : He.DefD := ⟨("_law_unimodular", none), "_law_unimodular", "_law_unimodular", defArgs (top 52), defBody (top 52), defScope (top 52), [], []⟩
def hd53 : He.DefD := ⟨("_law_spun", none), "_law_spun", "_law_spun", defArgs (top 53), defBody (top 53), defScope (top 53), [], []⟩
def hd54 : He.DefD := ⟨("_law_power", none), "_law_power", "_law_power", defArgs (top 54), defBody (top 54), defScope (top 54), [], []⟩
def hd55 : He.DefD := ⟨("_law_order", none), "_law_order", "_law_order", defArgs (top 55), defBody (top 55), defScope (top 55), [], []⟩
def hd56 : He.DefD := ⟨("_law_bent", none), "_law_bent", "_law_bent", defArgs (top 56), defBody (top 56), defScope (top 56), [], []⟩
def hd57 : He.DefD := ⟨("_law_sums_so", none), "_law_sums_so", "_law_sums_so", defArgs (top 57), defBody (top 57), defScope (top 57), [], []⟩
def hd58 : He.DefD := ⟨("_law_judged_so", none), "_law_judged_so", "_law_judged_so", defArgs (top 58), defBody (top 58), defScope (top 58), [], []⟩
def hd59 : He.DefD := ⟨("_law_powers_so", none), "_law_powers_so", "_law_powers_so", defArgs (top 59), defBody (top 59), defScope (top 59), [], []⟩
def hd60 : He.DefD := ⟨("law", none), "law", "law", defArgs (top 60), defBody (top 60), defScope (top 60), [], []⟩
def hdx3 : He.DefD := ⟨("InvalidNumber", some "__init__"), "__init__", "InvalidNumber.__init__", defArgs (inClass (top 3) 0), defBody (inClass (top 3) 0), defScope (inClass (top 3) 0), [], []⟩
def hdx4 : He.DefD := ⟨("InvalidMatrix", some "__init__"), "__init__", "InvalidMatrix.__init__", defArgs (inClass (top 4) 0), defBody (inClass (top 4) 0), defScope (inClass (top 4) 0), [], []⟩
def lfn : List He.DefD := [hd6, hd7, hd11, hd12, hd13, hd14, hd15, hd16, hd17, hd18, hd19, hd20, hd21, hd22, hd23, hd24, hd25, hd26, hd27, hd28, hd30, hd31, hd32, hd33, hd34, hd35, hd36, hd37, hd38, hd39, hd40, hd41, hd42, hd43, hd44, hd45, hd46, hd47, hd48, hd49, hd50, hd51, hd52, hd53, hd54, hd55, hd56, hd57, hd58, hd59, hd60, hdx3, hdx4]
def lfa : List He.Fa := [.glo "is_any_number", .glo "is_number", .glo "is_vector", .glo "is_matrix", .glo "zero", .glo "unit", .glo "identity", .glo "vector_plus", .glo "vector_minus", .glo "vector_times", .glo "dot", .glo "led", .glo "matrix_times", .glo "determinant", .glo "adjugate", .glo "is_unimodular", .glo "is_any_unimodular", .glo "unimodular_inverse", .glo "power", .glo "order_of", .glo "_law_bag", .glo "_law_draw", .glo "_law_pick", .glo "_law_mixed", .glo "_law_huge", .glo "_law_number", .glo "_law_vector", .glo "_law_int", .glo "_law_is_vector", .glo "_law_is_matrix", .glo "_law_is_unimodular", .glo "_law_same", .glo "_law_fields", .glo "_law_got", .glo "_law_is", .glo "_law_odd", .glo "_law_lead", .glo "_law_mul", .glo "_law_one", .glo "_law_det", .glo "_law_minor", .glo "_law_undo", .glo "_law_unimodular", .glo "_law_spun", .glo "_law_power", .glo "_law_order", .glo "_law_bent", .glo "_law_sums_so", .glo "_law_judged_so", .glo "_law_powers_so", .glo "law", .glo "InvalidNumber", .glo "InvalidMatrix", .glo "NetError", .glo "Missing", .free "len", .free "abs", .free "int", .free "list", .free "tuple", .free "sum", .free "all", .free "any", .free "min", .free "max", .free "isinstance", .free "range", .free "enumerate", .free "zip", .free "reversed", .free "bool", .free "str", .free "dict", .free "sorted", .int "HIGHEST_ORDER" 6, .int "HIGHEST_POWER" 100]
/-- the defs with lambdas -/
def ltf : List Str := ["_law_powers_so"]
def ltd : List He.Defn := ltf.map fun x => (x, none)
def hex (K : PySem.W.Frag) : Bool := xcs.all (xcB K) && exs.all (excFB K) && tfU K ltf
def hnames : List PySem.Str := (["NetError", "Missing", "InvalidNumber", "InvalidMatrix", "is_any_number", "is_number", "HIGHEST_ORDER", "HIGHEST_POWER", "is_vector", "is_matrix", "zero", "unit", "identity", "vector_plus", "vector_minus", "vector_times", "dot", "led", "matrix_times", "determinant", "adjugate", "is_unimodular", "is_any_unimodular", "unimodular_inverse", "power", "order_of", "_law_bag", "_law_draw", "_law_pick", "_law_mixed"] : List PySem.Str) ++ (["_law_huge", "_law_number", "_law_vector", "_law_int", "_law_is_vector", "_law_is_matrix", "_law_is_unimodular", "_law_same", "_law_fields", "_law_got", "_law_is", "_law_odd", "_law_lead", "_law_mul", "_law_one", "_law_det", "_law_minor", "_law_undo", "_law_unimodular", "_law_spun", "_law_power", "_law_order", "_law_bent", "_law_sums_so", "_law_judged_so", "_law_powers_so"] : List PySem.Str)
abbrev HR : PySem.W.OpenRow := PySem.W.OpenLaw.row PySem.Challenge.rw_endlessnets_k03_vectors_and_matrices
abbrev hhk : PySem.W.Hook := He.hookX 5 lfa lfn [] ltd hex
def hob (s : PySem.W.SharedT) : He.AlX := He.obsX 5 lfa lfn [] ltd hex (HandSHeadRun.getT s)
theorem hob_eq (s : PySem.W.SharedT) : hob s = hhk.obs s.abs := He.obsX_eq (HandSHeadRun.getT_eq s)
theorem hrun (w : World) : HandSHeadRun.RunEq HR (PySem.W.view HR.prog [60]) hhk hob 8000 hnames w := by
  intro os
  kernel_rfl
theorem law_at (P : Program) (hP : P = (PySem.Challenge.rw_endlessnets_k03_vectors_and_matrices).prog) {w : World} {K : PySem.W.Frag} {h : Heap} {mg : Str → Option Value} {fa : Addr} (X : K.In h) (G : h.Ns mainGlobals mg) (hfa : mg ("law" : Str) = some (.ref fa)) (c : He.SaysD lfa lfn K) (hm : hex K = true) :
    ∃ fd : FuncData, (∀ (s : Shared) (v : Value), BindsTo s fd ⟨[v], []⟩ [("_law_script", v)]) ∧ ∀ base : Heap, K.In base → base.Ns mainGlobals mg → (∀ p ∈ ltf.map fun x => He.cT K (x, none), LamX.TabB base mg p.1 p.2) → FnOk P w K mg base (L2.CX P w) 36 fa fd ["_law_script"] (lowSp ⟨K, tfT K ltf⟩ (lawZ 63)) := by
  obtain ⟨hm, hu⟩ := ba hm
  obtain ⟨hxc, hxe⟩ := ba hm
  obtain ⟨fd6, F60⟩ := c.def_ 0 (d := hd6) rfl
  have F6 : FunD K "is_any_number" "is_any_number" (defArgs (top 6)) (defBody (top 6)) (defScope (top 6)) [] [] (He.ga K "is_any_number") fd6 := F60
  have m6 : mg "is_any_number" = some (.ref (He.ga K "is_any_number")) := He.glo_ok X G (c.fact 0 (f := .glo "is_any_number") rfl)
  obtain ⟨fd7, F70⟩ := c.def_ 1 (d := hd7) rfl
  have F7 : FunD K "is_number" "is_number" (defArgs (top 7)) (defBody (top 7)) (defScope (top 7)) [] [] (He.ga K "is_number") fd7 := F70
  have m7 : mg "is_number" = some (.ref (He.ga K "is_number")) := He.glo_ok X G (c.fact 1 (f := .glo "is_number") rfl)
  obtain ⟨fd11, F110⟩ := c.def_ 2 (d := hd11) rfl
  have F11 : FunD K "is_vector" "is_vector" (defArgs (top 11)) (defBody (top 11)) (defScope (top 11)) [] [] (He.ga K "is_vector") fd11 := F110
  have m11 : mg "is_vector" = some (.ref (He.ga K "is_vector")) := He.glo_ok X G (c.fact 2 (f := .glo "is_vector") rfl)
  obtain ⟨fd12, F120⟩ := c.def_ 3 (d := hd12) rfl
  have F12 : FunD K "is_matrix" "is_matrix" (defArgs (top 12)) (defBody (top 12)) (defScope (top 12)) [] [] (He.ga K "is_matrix") fd12 := F120
  have m12 : mg "is_matrix" = some (.ref (He.ga K "is_matrix")) := He.glo_ok X G (c.fact 3 (f := .glo "is_matrix") rfl)
  obtain ⟨fd13, F130⟩ := c.def_ 4 (d := hd13) rfl
  have F13 : FunD K "zero" "zero" (defArgs (top 13)) (defBody (top 13)) (defScope (top 13)) [] [] (He.ga K "zero") fd13 := F130
  have m13 : mg "zero" = some (.ref (He.ga K "zero")) := He.glo_ok X G (c.fact 4 (f := .glo "zero") rfl)
  obtain ⟨fd14, F140⟩ := c.def_ 5 (d := hd14) rfl
  have F14 : FunD K "unit" "unit" (defArgs (top 14)) (defBody (top 14)) (defScope (top 14)) [] [] (He.ga K "unit") fd14 := F140
  have m14 : mg "unit" = some (.ref (He.ga K "unit")) := He.glo_ok X G (c.fact 5 (f := .glo "unit") rfl)
  obtain ⟨fd15, F150⟩ := c.def_ 6 (d := hd15) rfl
  have F15 : FunD K "identity" "identity" (defArgs (top 15)) (defBody (top 15)) (defScope (top 15)) [] [] (He.ga K "identity") fd15 := F150
  have m15 : mg "identity" = some (.ref (He.ga K "identity")) := He.glo_ok X G (c.fact 6 (f := .glo "identity") rfl)
  obtain ⟨fd16, F160⟩ := c.def_ 7 (d := hd16) rfl
  have F16 : FunD K "vector_plus" "vector_plus" (defArgs (top 16)) (defBody (top 16)) (defScope (top 16)) [] [] (He.ga K "vector_plus") fd16 := F160
  have m16 : mg "vector_plus" = some (.ref (He.ga K "vector_plus")) := He.glo_ok X G (c.fact 7 (f := .glo "vector_plus") rfl)
  obtain ⟨fd17, F170⟩ := c.def_ 8 (d := hd17) rfl
  have F17 : FunD K "vector_minus" "vector_minus" (defArgs (top 17)) (defBody (top 17)) (defScope (top 17)) [] [] (He.ga K "vector_minus") fd17 := F170
  have m17 : mg "vector_minus" = some (.ref (He.ga K "vector_minus")) := He.glo_ok X G (c.fact 8 (f := .glo "vector_minus") rfl)
  obtain ⟨fd18, F180⟩ := c.def_ 9 (d := hd18) rfl
  have F18 : FunD K "vector_times" "vector_times" (defArgs (top 18)) (defBody (top 18)) (defScope (top 18)) [] [] (He.ga K "vector_times") fd18 := F180
  have m18 : mg "vector_times" = some (.ref (He.ga K "vector_times")) := He.glo_ok X G (c.fact 9 (f := .glo "vector_times") rfl)
  obtain ⟨fd19, F190⟩ := c.def_ 10 (d := hd19) rfl
  have F19 : FunD K "dot" "dot" (defArgs (top 19)) (defBody (top 19)) (defScope (top 19)) [] [] (He.ga K "dot") fd19 := F190
  have m19 : mg "dot" = some (.ref (He.ga K "dot")) := He.glo_ok X G (c.fact 10 (f := .glo "dot") rfl)
  obtain ⟨fd20, F200⟩ := c.def_ 11 (d := hd20) rfl
  have F20 : FunD K "led" "led" (defArgs (top 20)) (defBody (top 20)) (defScope (top 20)) [] [] (He.ga K "led") fd20 := F200
  have m20 : mg "led" = some (.ref (He.ga K "led")) := He.glo_ok X G (c.fact 11 (f := .glo "led") rfl)
  obtain ⟨fd21, F210⟩ := c.def_ 12 (d := hd21) rfl
  have F21 : FunD K "matrix_times" "matrix_times" (defArgs (top 21)) (defBody (top 21)) (defScope (top 21)) [] [] (He.ga K "matrix_times") fd21 := F210
  have m21 : mg "matrix_times" = some (.ref (He.ga K "matrix_times")) := He.glo_ok X G (c.fact 12 (f := .glo "matrix_times") rfl)
  obtain ⟨fd22, F220⟩ := c.def_ 13 (d := hd22) rfl
  have F22 : FunD K "determinant" "determinant" (defArgs (top 22)) (defBody (top 22)) (defScope (top 22)) [] [] (He.ga K "determinant") fd22 := F220
  have m22 : mg "determinant" = some (.ref (He.ga K "determinant")) := He.glo_ok X G (c.fact 13 (f := .glo "determinant") rfl)
  obtain ⟨fd23, F230⟩ := c.def_ 14 (d := hd23) rfl
  have F23 : FunD K "adjugate" "adjugate" (defArgs (top 23)) (defBody (top 23)) (defScope (top 23)) [] [] (He.ga K "adjugate") fd23 := F230
  have m23 : mg "adjugate" = some (.ref (He.ga K "adjugate")) := He.glo_ok X G (c.fact 14 (f := .glo "adjugate") rfl)
  obtain ⟨fd24, F240⟩ := c.def_ 15 (d := hd24) rfl
  have F24 : FunD K "is_unimodular" "is_unimodular" (defArgs (top 24)) (defBody (top 24)) (defScope (top 24)) [] [] (He.ga K "is_unimodular") fd24 := F240
  have m24 : mg "is_unimodular" = some (.ref (He.ga K "is_unimodular")) := He.glo_ok X G (c.fact 15 (f := .glo "is_unimodular") rfl)
  obtain ⟨fd25, F250⟩ := c.def_ 16 (d := hd25) rfl
  have F25 : FunD K "is_any_unimodular" "is_any_unimodular" (defArgs (top 25)) (defBody (top 25)) (defScope (top 25)) [] [] (He.ga K "is_any_unimodular") fd25 := F250
  have m25 : mg "is_any_unimodular" = some (.ref (He.ga K "is_any_unimodular")) := He.glo_ok X G (c.fact 16 (f := .glo "is_any_unimodular") rfl)
  obtain ⟨fd26, F260⟩ := c.def_ 17 (d := hd26) rfl
  have F26 : FunD K "unimodular_inverse" "unimodular_inverse" (defArgs (top 26)) (defBody (top 26)) (defScope (top 26)) [] [] (He.ga K "unimodular_inverse") fd26 := F260
  have m26 : mg "unimodular_inverse" = some (.ref (He.ga K "unimodular_inverse")) := He.glo_ok X G (c.fact 17 (f := .glo "unimodular_inverse") rfl)
  obtain ⟨fd27, F270⟩ := c.def_ 18 (d := hd27) rfl
  have F27 : FunD K "power" "power" (defArgs (top 27)) (defBody (top 27)) (defScope (top 27)) [] [] (He.ga K "power") fd27 := F270
  have m27 : mg "power" = some (.ref (He.ga K "power")) := He.glo_ok X G (c.fact 18 (f := .glo "power") rfl)
  obtain ⟨fd28, F280⟩ := c.def_ 19 (d := hd28) rfl
  have F28 : FunD K "order_of" "order_of" (defArgs (top 28)) (defBody (top 28)) (defScope (top 28)) [] [] (He.ga K "order_of") fd28 := F280
  have m28 : mg "order_of" = some (.ref (He.ga K "order_of")) := He.glo_ok X G (c.fact 19 (f := .glo "order_of") rfl)
  obtain ⟨fd30, F300⟩ := c.def_ 20 (d := hd30) rfl
  have F30 : FunD K "_law_bag" "_law_bag" (defArgs (top 30)) (defBody (top 30)) (defScope (top 30)) [] [] (He.ga K "_law_bag") fd30 := F300
  have m30 : mg "_law_bag" = some (.ref (He.ga K "_law_bag")) := He.glo_ok X G (c.fact 20 (f := .glo "_law_bag") rfl)
  obtain ⟨fd31, F310⟩ := c.def_ 21 (d := hd31) rfl
  have F31 : FunD K "_law_draw" "_law_draw" (defArgs (top 31)) (defBody (top 31)) (defScope (top 31)) [] [] (He.ga K "_law_draw") fd31 := F310
  have m31 : mg "_law_draw" = some (.ref (He.ga K "_law_draw")) := He.glo_ok X G (c.fact 21 (f := .glo "_law_draw") rfl)
  obtain ⟨fd32, F320⟩ := c.def_ 22 (d := hd32) rfl
  have F32 : FunD K "_law_pick" "_law_pick" (defArgs (top 32)) (defBody (top 32)) (defScope (top 32)) [] [] (He.ga K "_law_pick") fd32 := F320
  have m32 : mg "_law_pick" = some (.ref (He.ga K "_law_pick")) := He.glo_ok X G (c.fact 22 (f := .glo "_law_pick") rfl)
  obtain ⟨fd33, F330⟩ := c.def_ 23 (d := hd33) rfl
  have F33 : FunD K "_law_mixed" "_law_mixed" (defArgs (top 33)) (defBody (top 33)) (defScope (top 33)) [] [] (He.ga K "_law_mixed") fd33 := F330
  have m33 : mg "_law_mixed" = some (.ref (He.ga K "_law_mixed")) := He.glo_ok X G (c.fact 23 (f := .glo "_law_mixed") rfl)
  obtain ⟨fd34, F340⟩ := c.def_ 24 (d := hd34) rfl
  have F34 : FunD K "_law_huge" "_law_huge" (defArgs (top 34)) (defBody (top 34)) (defScope (top 34)) [] [] (He.ga K "_law_huge") fd34 := F340
  have m34 : mg "_law_huge" = some (.ref (He.ga K "_law_huge")) := He.glo_ok X G (c.fact 24 (f := .glo "_law_huge") rfl)
  obtain ⟨fd35, F350⟩ := c.def_ 25 (d := hd35) rfl
  have F35 : FunD K "_law_number" "_law_number" (defArgs (top 35)) (defBody (top 35)) (defScope (top 35)) [] [] (He.ga K "_law_number") fd35 := F350
  have m35 : mg "_law_number" = some (.ref (He.ga K "_law_number")) := He.glo_ok X G (c.fact 25 (f := .glo "_law_number") rfl)
  obtain ⟨fd36, F360⟩ := c.def_ 26 (d := hd36) rfl
  have F36 : FunD K "_law_vector" "_law_vector" (defArgs (top 36)) (defBody (top 36)) (defScope (top 36)) [] [] (He.ga K "_law_vector") fd36 := F360
  have m36 : mg "_law_vector" = some (.ref (He.ga K "_law_vector")) := He.glo_ok X G (c.fact 26 (f := .glo "_law_vector") rfl)
  obtain ⟨fd37, F370⟩ := c.def_ 27 (d := hd37) rfl
  have F37 : FunD K "_law_int" "_law_int" (defArgs (top 37)) (defBody (top 37)) (defScope (top 37)) [] [] (He.ga K "_law_int") fd37 := F370
  have m37 : mg "_law_int" = some (.ref (He.ga K "_law_int")) := He.glo_ok X G (c.fact 27 (f := .glo "_law_int") rfl)
  obtain ⟨fd38, F380⟩ := c.def_ 28 (d := hd38) rfl
  have F38 : FunD K "_law_is_vector" "_law_is_vector" (defArgs (top 38)) (defBody (top 38)) (defScope (top 38)) [] [] (He.ga K "_law_is_vector") fd38 := F380
  have m38 : mg "_law_is_vector" = some (.ref (He.ga K "_law_is_vector")) := He.glo_ok X G (c.fact 28 (f := .glo "_law_is_vector") rfl)
  obtain ⟨fd39, F390⟩ := c.def_ 29 (d := hd39) rfl
  have F39 : FunD K "_law_is_matrix" "_law_is_matrix" (defArgs (top 39)) (defBody (top 39)) (defScope (top 39)) [] [] (He.ga K "_law_is_matrix") fd39 := F390
  have m39 : mg "_law_is_matrix" = some (.ref (He.ga K "_law_is_matrix")) := He.glo_ok X G (c.fact 29 (f := .glo "_law_is_matrix") rfl)
  obtain ⟨fd40, F400⟩ := c.def_ 30 (d := hd40) rfl
  have F40 : FunD K "_law_is_unimodular" "_law_is_unimodular" (defArgs (top 40)) (defBody (top 40)) (defScope (top 40)) [] [] (He.ga K "_law_is_unimodular") fd40 := F400
  have m40 : mg "_law_is_unimodular" = some (.ref (He.ga K "_law_is_unimodular")) := He.glo_ok X G (c.fact 30 (f := .glo "_law_is_unimodular") rfl)
  obtain ⟨fd41, F410⟩ := c.def_ 31 (d := hd41) rfl
  have F41 : FunD K "_law_same" "_law_same" (defArgs (top 41)) (defBody (top 41)) (defScope (top 41)) [] [] (He.ga K "_law_same") fd41 := F410
  have m41 : mg "_law_same" = some (.ref (He.ga K "_law_same")) := He.glo_ok X G (c.fact 31 (f := .glo "_law_same") rfl)
  obtain ⟨fd42, F420⟩ := c.def_ 32 (d := hd42) rfl
  have F42 : FunD K "_law_fields" "_law_fields" (defArgs (top 42)) (defBody (top 42)) (defScope (top 42)) [] [] (He.ga K "_law_fields") fd42 := F420
  have m42 : mg "_law_fields" = some (.ref (He.ga K "_law_fields")) := He.glo_ok X G (c.fact 32 (f := .glo "_law_fields") rfl)
  obtain ⟨fd43, F430⟩ := c.def_ 33 (d := hd43) rfl
  have F43 : FunD K "_law_got" "_law_got" (defArgs (top 43)) (defBody (top 43)) (defScope (top 43)) [] [] (He.ga K "_law_got") fd43 := F430
  have m43 : mg "_law_got" = some (.ref (He.ga K "_law_got")) := He.glo_ok X G (c.fact 33 (f := .glo "_law_got") rfl)
  obtain ⟨fd44, F440⟩ := c.def_ 34 (d := hd44) rfl
  have F44 : FunD K "_law_is" "_law_is" (defArgs (top 44)) (defBody (top 44)) (defScope (top 44)) [] [] (He.ga K "_law_is") fd44 := F440
  have m44 : mg "_law_is" = some (.ref (He.ga K "_law_is")) := He.glo_ok X G (c.fact 34 (f := .glo "_law_is") rfl)
  obtain ⟨fd45, F450⟩ := c.def_ 35 (d := hd45) rfl
  have F45 : FunD K "_law_odd" "_law_odd" (defArgs (top 45)) (defBody (top 45)) (defScope (top 45)) [] [] (He.ga K "_law_odd") fd45 := F450
  have m45 : mg "_law_odd" = some (.ref (He.ga K "_law_odd")) := He.glo_ok X G (c.fact 35 (f := .glo "_law_odd") rfl)
  obtain ⟨fd46, F460⟩ := c.def_ 36 (d := hd46) rfl
  have F46 : FunD K "_law_lead" "_law_lead" (defArgs (top 46)) (defBody (top 46)) (defScope (top 46)) [] [] (He.ga K "_law_lead") fd46 := F460
  have m46 : mg "_law_lead" = some (.ref (He.ga K "_law_lead")) := He.glo_ok X G (c.fact 36 (f := .glo "_law_lead") rfl)
  obtain ⟨fd47, F470⟩ := c.def_ 37 (d := hd47) rfl
  have F47 : FunD K "_law_mul" "_law_mul" (defArgs (top 47)) (defBody (top 47)) (defScope (top 47)) [] [] (He.ga K "_law_mul") fd47 := F470
  have m47 : mg "_law_mul" = some (.ref (He.ga K "_law_mul")) := He.glo_ok X G (c.fact 37 (f := .glo "_law_mul") rfl)
  obtain ⟨fd48, F480⟩ := c.def_ 38 (d := hd48) rfl
  have F48 : FunD K "_law_one" "_law_one" (defArgs (top 48)) (defBody (top 48)) (defScope (top 48)) [] [] (He.ga K "_law_one") fd48 := F480
  have m48 : mg "_law_one" = some (.ref (He.ga K "_law_one")) := He.glo_ok X G (c.fact 38 (f := .glo "_law_one") rfl)
  obtain ⟨fd49, F490⟩ := c.def_ 39 (d := hd49) rfl
  have F49 : FunD K "_law_det" "_law_det" (defArgs (top 49)) (defBody (top 49)) (defScope (top 49)) [] [] (He.ga K "_law_det") fd49 := F490
  have m49 : mg "_law_det" = some (.ref (He.ga K "_law_det")) := He.glo_ok X G (c.fact 39 (f := .glo "_law_det") rfl)
  obtain ⟨fd50, F500⟩ := c.def_ 40 (d := hd50) rfl
  have F50 : FunD K "_law_minor" "_law_minor" (defArgs (top 50)) (defBody (top 50)) (defScope (top 50)) [] [] (He.ga K "_law_minor") fd50 := F500
  have m50 : mg "_law_minor" = some (.ref (He.ga K "_law_minor")) := He.glo_ok X G (c.fact 40 (f := .glo "_law_minor") rfl)
  obtain ⟨fd51, F510⟩ := c.def_ 41 (d := hd51) rfl
  have F51 : FunD K "_law_undo" "_law_undo" (defArgs (top 51)) (defBody (top 51)) (defScope (top 51)) [] [] (He.ga K "_law_undo") fd51 := F510
  have m51 : mg "_law_undo" = some (.ref (He.ga K "_law_undo")) := He.glo_ok X G (c.fact 41 (f := .glo "_law_undo") rfl)
  obtain ⟨fd52, F520⟩ := c.def_ 42 (d := hd52) rfl
  have F52 : FunD K "_law_unimodular" "_law_unimodular" (defArgs (top 52)) (defBody (top 52)) (defScope (top 52)) [] [] (He.ga K "_law_unimodular") fd52 := F520
  have m52 : mg "_law_unimodular" = some (.ref (He.ga K "_law_unimodular")) := He.glo_ok X G (c.fact 42 (f := .glo "_law_unimodular") rfl)
  obtain ⟨fd53, F530⟩ := c.def_ 43 (d := hd53) rfl
  have F53 : FunD K "_law_spun" "_law_spun" (defArgs (top 53)) (defBody (top 53)) (defScope (top 53)) [] [] (He.ga K "_law_spun") fd53 := F530
  have m53 : mg "_law_spun" = some (.ref (He.ga K "_law_spun")) := He.glo_ok X G (c.fact 43 (f := .glo "_law_spun") rfl)
  obtain ⟨fd54, F540⟩ := c.def_ 44 (d := hd54) rfl
  have F54 : FunD K "_law_power" "_law_power" (defArgs (top 54)) (defBody (top 54)) (defScope (top 54)) [] [] (He.ga K "_law_power") fd54 := F540
  have m54 : mg "_law_power" = some (.ref (He.ga K "_law_power")) := He.glo_ok X G (c.fact 44 (f := .glo "_law_power") rfl)
  obtain ⟨fd55, F550⟩ := c.def_ 45 (d := hd55) rfl
  have F55 : FunD K "_law_order" "_law_order" (defArgs (top 55)) (defBody (top 55)) (defScope (top 55)) [] [] (He.ga K "_law_order") fd55 := F550
  have m55 : mg "_law_order" = some (.ref (He.ga K "_law_order")) := He.glo_ok X G (c.fact 45 (f := .glo "_law_order") rfl)
  obtain ⟨fd56, F560⟩ := c.def_ 46 (d := hd56) rfl
  have F56 : FunD K "_law_bent" "_law_bent" (defArgs (top 56)) (defBody (top 56)) (defScope (top 56)) [] [] (He.ga K "_law_bent") fd56 := F560
  have m56 : mg "_law_bent" = some (.ref (He.ga K "_law_bent")) := He.glo_ok X G (c.fact 46 (f := .glo "_law_bent") rfl)
  obtain ⟨fd57, F570⟩ := c.def_ 47 (d := hd57) rfl
  have F57 : FunD K "_law_sums_so" "_law_sums_so" (defArgs (top 57)) (defBody (top 57)) (defScope (top 57)) [] [] (He.ga K "_law_sums_so") fd57 := F570
  have m57 : mg "_law_sums_so" = some (.ref (He.ga K "_law_sums_so")) := He.glo_ok X G (c.fact 47 (f := .glo "_law_sums_so") rfl)
  obtain ⟨fd58, F580⟩ := c.def_ 48 (d := hd58) rfl
  have F58 : FunD K "_law_judged_so" "_law_judged_so" (defArgs (top 58)) (defBody (top 58)) (defScope (top 58)) [] [] (He.ga K "_law_judged_so") fd58 := F580
  have m58 : mg "_law_judged_so" = some (.ref (He.ga K "_law_judged_so")) := He.glo_ok X G (c.fact 48 (f := .glo "_law_judged_so") rfl)
  obtain ⟨fd59, F590⟩ := c.def_ 49 (d := hd59) rfl
  have F59 : FunD K "_law_powers_so" "_law_powers_so" (defArgs (top 59)) (defBody (top 59)) (defScope (top 59)) [] [] (He.ga K "_law_powers_so") fd59 := F590
  have m59 : mg "_law_powers_so" = some (.ref (He.ga K "_law_powers_so")) := He.glo_ok X G (c.fact 49 (f := .glo "_law_powers_so") rfl)
  obtain ⟨fd60, F600⟩ := c.def_ 50 (d := hd60) rfl
  have F60 : FunD K "law" "law" (defArgs (top 60)) (defBody (top 60)) (defScope (top 60)) [] [] (He.ga K "law") fd60 := F600
  have m60 : mg "law" = some (.ref (He.ga K "law")) := He.glo_ok X G (c.fact 50 (f := .glo "law") rfl)
  obtain ⟨fx3, X30⟩ := c.def_ 51 (d := hdx3) rfl
  have X3 : FunD K "__init__" "InvalidNumber.__init__" (defArgs (inClass (top 3) 0)) (defBody (inClass (top 3) 0)) (defScope (inClass (top 3) 0)) [] [] (He.ma K (He.ga K "InvalidNumber") "__init__") fx3 := X30
  have mx3 : mg "InvalidNumber" = some (.ref (He.ga K "InvalidNumber")) := He.glo_ok X G (c.fact 51 (f := .glo "InvalidNumber") rfl)
  obtain ⟨fx4, X40⟩ := c.def_ 52 (d := hdx4) rfl
  have X4 : FunD K "__init__" "InvalidMatrix.__init__" (defArgs (inClass (top 4) 0)) (defBody (inClass (top 4) 0)) (defScope (inClass (top 4) 0)) [] [] (He.ma K (He.ga K "InvalidMatrix") "__init__") fx4 := X40
  have mx4 : mg "InvalidMatrix" = some (.ref (He.ga K "InvalidMatrix")) := He.glo_ok X G (c.fact 52 (f := .glo "InvalidMatrix") rfl)
  have hfree : ∀ y ∈ bnames, mg y = none := by
    intro y hy
    simp only [bnames, List.mem_cons, List.not_mem_nil, or_false] at hy
    rcases hy with rfl | rfl | rfl | rfl | rfl | rfl | rfl | rfl | rfl | rfl | rfl | rfl | rfl | rfl | rfl | rfl | rfl | rfl | rfl
    · exact He.free_ok X G (c.fact 55 (f := .free "len") rfl)
    · exact He.free_ok X G (c.fact 56 (f := .free "abs") rfl)
    · exact He.free_ok X G (c.fact 57 (f := .free "int") rfl)
    · exact He.free_ok X G (c.fact 58 (f := .free "list") rfl)
    · exact He.free_ok X G (c.fact 59 (f := .free "tuple") rfl)
    · exact He.free_ok X G (c.fact 60 (f := .free "sum") rfl)
    · exact He.free_ok X G (c.fact 61 (f := .free "all") rfl)
    · exact He.free_ok X G (c.fact 62 (f := .free "any") rfl)
    · exact He.free_ok X G (c.fact 63 (f := .free "min") rfl)
    · exact He.free_ok X G (c.fact 64 (f := .free "max") rfl)
    · exact He.free_ok X G (c.fact 65 (f := .free "isinstance") rfl)
    · exact He.free_ok X G (c.fact 66 (f := .free "range") rfl)
    · exact He.free_ok X G (c.fact 67 (f := .free "enumerate") rfl)
    · exact He.free_ok X G (c.fact 68 (f := .free "zip") rfl)
    · exact He.free_ok X G (c.fact 69 (f := .free "reversed") rfl)
    · exact He.free_ok X G (c.fact 70 (f := .free "bool") rfl)
    · exact He.free_ok X G (c.fact 71 (f := .free "str") rfl)
    · exact He.free_ok X G (c.fact 72 (f := .free "dict") rfl)
    · exact He.free_ok X G (c.fact 73 (f := .free "sorted") rfl)
  have e := hfa.symm.trans m60
  cases e
  have bl := FunD.bindsA (ps := ["_law_script"]) F60 fun _ _ _ _ _ _ us hl => match us, hl with | [_], _ => rfl
  refine ⟨fd60, fun s v => bl s [v] rfl, fun base _ _ hT => ?_⟩
  have hask : AskE K mg exs := ⟨⟨_, _, ⟨⟨_, _, _, F42, m42, (F42.bindsN fun _ _ _ _ _ _ us hl => match us, hl with | [_], _ => rfl)⟩, C8.fnScope_by as_fields⟩, ak_fields, al_fields⟩, ⟨_, _, ⟨⟨_, _, _, F43, m43, (F43.bindsN fun _ _ _ _ _ _ us hl => match us, hl with | [_], _ => rfl)⟩, C8.fnScope_by as_got⟩, ak_got⟩, ⟨_, _, ⟨⟨_, _, _, F44, m44, (F44.bindsN fun _ _ _ _ _ _ us hl => match us, hl with | [_, _], _ => rfl)⟩, C8.fnScope_by as_is⟩, ak_is⟩, He.glo_ok X G (c.fact 53 (f := .glo "NetError") rfl), He.glo_ok X G (c.fact 54 (f := .glo "Missing") rfl), fun C hC => excFB_ok (List.all_eq_true.mp hxe C hC)⟩
  have hxs : ∀ e ∈ xcs, XcF P w K mg base e := by
    intro e he
    have hb := List.all_eq_true.mp hxc e he
    simp only [xcs, List.mem_cons, List.not_mem_nil, or_false] at he
    rcases he with rfl | rfl
    · exact xcF_of (ps := xp_InvalidNumber) hb mx3 X3 (X3.bindsN fun _ _ _ _ _ _ us hl => match us, hl with | [_, _], _ => rfl) xs_InvalidNumber rfl xl_InvalidNumber rfl xi_InvalidNumber (by decide) (by decide) (by decide)
    · exact xcF_of (ps := xp_InvalidMatrix) hb mx4 X4 (X4.bindsN fun _ _ _ _ _ _ us hl => match us, hl with | [_], _ => rfl) xs_InvalidMatrix rfl xl_InvalidMatrix rfl xi_InvalidMatrix (by decide) (by decide) (by decide)
  have hgi : ∀ p ∈ gints, ∃ t, mg p.1 = some (.int p.2 t) := by
    intro p hp
    simp only [gints, List.mem_cons, List.not_mem_nil, or_false] at hp
    rcases hp with rfl | rfl
    · exact He.int_ok X G (c.fact 74 (f := .int "HIGHEST_ORDER" 6) rfl)
    · exact He.int_ok X G (c.fact 75 (f := .int "HIGHEST_POWER" 100) rfl)
  have hgs : ∀ p ∈ gstrs, ∃ t, mg p.1 = some (.str p.2 t) := fun p hp => by cases hp
  have Wd : Wld P w K mg base ⟨K, tfT K ltf⟩ exs gints gstrs xcs true := ⟨rfl, hfree, hgi, hgs, hxs, fun _ => hask⟩
  have oh_is_any_number : FnOk P w K mg base (L2.CX P w) 4 (He.ga K "is_any_number") fd6 ps_is_any_number (lowSp ⟨K, tfT K ltf⟩ (intZ)) := fnOk_of (G := ⟨K, tfT K ltf⟩) (k := 0) (Γ := []) (z := y_is_any_number) (S := intZ) F6 Wd (fun z => by cases z) (fun z => by cases z) sc_is_any_number ck_is_any_number (FnTs.get .nil) (by intro us O Q E h; repeat' (first | (rcases h with ⟨e, h⟩; subst e; rfl) | (rcases h with ⟨_, h⟩))) k_is_any_number
  have h_is_any_number : FnT P w K mg base ⟨K, tfT K ltf⟩ 4 ("is_any_number", []) (intZ) := FnT.raw m6 F6.kp oh_is_any_number (F6.bindsN fun _ _ _ _ _ _ us hl => match us, hl with | [_], _ => rfl)
  have oh_zero : FnOk P w K mg base (L2.CX P w) 4 (He.ga K "zero") fd13 ps_zero (lowSp ⟨K, tfT K ltf⟩ (zeroZ)) := fnOk_of (G := ⟨K, tfT K ltf⟩) (k := 0) (Γ := []) (z := y_zero) (S := zeroZ) F13 Wd (fun z => by cases z) (fun z => by cases z) sc_zero ck_zero (FnTs.get .nil) (by intro us O Q E h; repeat' (first | (rcases h with ⟨e, h⟩; subst e; rfl) | (rcases h with ⟨_, h⟩))) k_zero
  have h_zero : FnT P w K mg base ⟨K, tfT K ltf⟩ 4 ("zero", []) (zeroZ) := FnT.raw m13 F13.kp oh_zero (F13.bindsN fun _ _ _ _ _ _ us hl => match us, hl with | [_], _ => rfl)
  have oh_unit : FnOk P w K mg base (L2.CX P w) 4 (He.ga K "unit") fd14 ps_unit (lowSp ⟨K, tfT K ltf⟩ (unitZ)) := fnOk_of (G := ⟨K, tfT K ltf⟩) (k := 0) (Γ := []) (z := y_unit) (S := unitZ) F14 Wd (fun z => by cases z) (fun z => by cases z) sc_unit ck_unit (FnTs.get .nil) (by intro us O Q E h; repeat' (first | (rcases h with ⟨e, h⟩; subst e; rfl) | (rcases h with ⟨_, h⟩))) k_unit
  have h_unit : FnT P w K mg base ⟨K, tfT K ltf⟩ 4 ("unit", []) (unitZ) := FnT.raw m14 F14.kp oh_unit (F14.bindsN fun _ _ _ _ _ _ us hl => match us, hl with | [_, _], _ => rfl)
  have oh_vector_plus : FnOk P w K mg base (L2.CX P w) 4 (He.ga K "vector_plus") fd16 ps_vector_plus (lowSp ⟨K, tfT K ltf⟩ (v2Z (· + ·))) := fnOk_of (G := ⟨K, tfT K ltf⟩) (k := 0) (Γ := []) (z := y_vector_plus) (S := v2Z (· + ·)) F16 Wd (fun z => by cases z) (fun z => by cases z) sc_vector_plus ck_vector_plus (FnTs.get .nil) (by intro us O Q E h; repeat' (first | (rcases h with ⟨e, h⟩; subst e; rfl) | (rcases h with ⟨_, h⟩))) k_vector_plus
  have h_vector_plus : FnT P w K mg base ⟨K, tfT K ltf⟩ 4 ("vector_plus", []) (v2Z (· + ·)) := FnT.raw m16 F16.kp oh_vector_plus (F16.bindsN fun _ _ _ _ _ _ us hl => match us, hl with | [_, _], _ => rfl)
  have oh_vector_minus : FnOk P w K mg base (L2.CX P w) 4 (He.ga K "vector_minus") fd17 ps_vector_minus (lowSp ⟨K, tfT K ltf⟩ (v2Z (· - ·))) := fnOk_of (G := ⟨K, tfT K ltf⟩) (k := 0) (Γ := []) (z := y_vector_minus) (S := v2Z (· - ·)) F17 Wd (fun z => by cases z) (fun z => by cases z) sc_vector_minus ck_vector_minus (FnTs.get .nil) (by intro us O Q E h; repeat' (first | (rcases h with ⟨e, h⟩; subst e; rfl) | (rcases h with ⟨_, h⟩))) k_vector_minus
  have h_vector_minus : FnT P w K mg base ⟨K, tfT K ltf⟩ 4 ("vector_minus", []) (v2Z (· - ·)) := FnT.raw m17 F17.kp oh_vector_minus (F17.bindsN fun _ _ _ _ _ _ us hl => match us, hl with | [_, _], _ => rfl)
  have oh_vector_times : FnOk P w K mg base (L2.CX P w) 4 (He.ga K "vector_times") fd18 ps_vector_times (lowSp ⟨K, tfT K ltf⟩ (vtimesZ)) := fnOk_of (G := ⟨K, tfT K ltf⟩) (k := 0) (Γ := []) (z := y_vector_times) (S := vtimesZ) F18 Wd (fun z => by cases z) (fun z => by cases z) sc_vector_times ck_vector_times (FnTs.get .nil) (by intro us O Q E h; repeat' (first | (rcases h with ⟨e, h⟩; subst e; rfl) | (rcases h with ⟨_, h⟩))) k_vector_times
  have h_vector_times : FnT P w K mg base ⟨K, tfT K ltf⟩ 4 ("vector_times", []) (vtimesZ) := FnT.raw m18 F18.kp oh_vector_times (F18.bindsN fun _ _ _ _ _ _ us hl => match us, hl with | [_, _], _ => rfl)
  have oh_dot : FnOk P w K mg base (L2.CX P w) 4 (He.ga K "dot") fd19 ps_dot (lowSp ⟨K, tfT K ltf⟩ (dotZ)) := fnOk_of (G := ⟨K, tfT K ltf⟩) (k := 0) (Γ := []) (z := y_dot) (S := dotZ) F19 Wd (fun z => by cases z) (fun z => by cases z) sc_dot ck_dot (FnTs.get .nil) (by intro us O Q E h; repeat' (first | (rcases h with ⟨e, h⟩; subst e; rfl) | (rcases h with ⟨_, h⟩))) k_dot
  have h_dot : FnT P w K mg base ⟨K, tfT K ltf⟩ 4 ("dot", []) (dotZ) := FnT.raw m19 F19.kp oh_dot (F19.bindsN fun _ _ _ _ _ _ us hl => match us, hl with | [_, _], _ => rfl)
  have oh_determinant : FnOk P w K mg base (L2.CX P w) 4 (He.ga K "determinant") fd22 ps_determinant (lowSp ⟨K, tfT K ltf⟩ (detZ)) := fnOk_of (G := ⟨K, tfT K ltf⟩) (k := 0) (Γ := []) (z := y_determinant) (S := detZ) F22 Wd (fun z => by cases z) (fun z => by cases z) sc_determinant ck_determinant (FnTs.get .nil) (by intro us O Q E h; repeat' (first | (rcases h with ⟨e, h⟩; subst e; rfl) | (rcases h with ⟨_, h⟩))) k_determinant
  have h_determinant : FnT P w K mg base ⟨K, tfT K ltf⟩ 4 ("determinant", []) (detZ) := FnT.raw m22 F22.kp oh_determinant (F22.bindsN fun _ _ _ _ _ _ us hl => match us, hl with | [_], _ => rfl)
  have oh_adjugate : FnOk P w K mg base (L2.CX P w) 4 (He.ga K "adjugate") fd23 ps_adjugate (lowSp ⟨K, tfT K ltf⟩ (adjZ)) := fnOk_of (G := ⟨K, tfT K ltf⟩) (k := 0) (Γ := []) (z := y_adjugate) (S := adjZ) F23 Wd (fun z => by cases z) (fun z => by cases z) sc_adjugate ck_adjugate (FnTs.get .nil) (by intro us O Q E h; repeat' (first | (rcases h with ⟨e, h⟩; subst e; rfl) | (rcases h with ⟨_, h⟩))) k_adjugate
  have h_adjugate : FnT P w K mg base ⟨K, tfT K ltf⟩ 4 ("adjugate", []) (adjZ) := FnT.raw m23 F23.kp oh_adjugate (F23.bindsN fun _ _ _ _ _ _ us hl => match us, hl with | [_], _ => rfl)
  have oh__law_bag : FnOk P w K mg base (L2.CX P w) 4 (He.ga K "_law_bag") fd30 ps__law_bag (lowSp ⟨K, tfT K ltf⟩ (bagZ)) := fnOk_of (G := ⟨K, tfT K ltf⟩) (k := 0) (Γ := []) (z := y__law_bag) (S := bagZ) F30 Wd (fun z => by cases z) (fun z => by cases z) sc__law_bag ck__law_bag (FnTs.get .nil) (by intro us O Q E h; repeat' (first | (rcases h with ⟨e, h⟩; subst e; rfl) | (rcases h with ⟨_, h⟩))) k_law_bag
  have h__law_bag : FnT P w K mg base ⟨K, tfT K ltf⟩ 4 ("_law_bag", []) (bagZ) := FnT.raw m30 F30.kp oh__law_bag (F30.bindsN fun _ _ _ _ _ _ us hl => match us, hl with | [_], _ => rfl)
  have oh__law_draw : FnOk P w K mg base (L2.CX P w) 4 (He.ga K "_law_draw") fd31 ps__law_draw (lowSp ⟨K, tfT K ltf⟩ (drawZ)) := fnOk_of (G := ⟨K, tfT K ltf⟩) (k := 0) (Γ := []) (z := y__law_draw) (S := drawZ) F31 Wd (fun z => by cases z) (fun z => by cases z) sc__law_draw ck__law_draw (FnTs.get .nil) (by intro us O Q E h; repeat' (first | (rcases h with ⟨e, h⟩; subst e; rfl) | (rcases h with ⟨_, h⟩))) k_law_draw
  have h__law_draw : FnT P w K mg base ⟨K, tfT K ltf⟩ 4 ("_law_draw", []) (drawZ) := FnT.raw m31 F31.kp oh__law_draw (F31.bindsN fun _ _ _ _ _ _ us hl => match us, hl with | [_, _], _ => rfl)
  have oh__law_int : FnOk P w K mg base (L2.CX P w) 4 (He.ga K "_law_int") fd37 ps__law_int (lowSp ⟨K, tfT K ltf⟩ (intZ)) := fnOk_of (G := ⟨K, tfT K ltf⟩) (k := 0) (Γ := []) (z := y__law_int) (S := intZ) F37 Wd (fun z => by cases z) (fun z => by cases z) sc__law_int ck__law_int (FnTs.get .nil) (by intro us O Q E h; repeat' (first | (rcases h with ⟨e, h⟩; subst e; rfl) | (rcases h with ⟨_, h⟩))) k_law_int
  have h__law_int : FnT P w K mg base ⟨K, tfT K ltf⟩ 4 ("_law_int", []) (intZ) := FnT.raw m37 F37.kp oh__law_int (F37.bindsN fun _ _ _ _ _ _ us hl => match us, hl with | [_], _ => rfl)
  have oh__law_lead : FnOk P w K mg base (L2.CX P w) 4 (He.ga K "_law_lead") fd46 ps__law_lead (lowSp ⟨K, tfT K ltf⟩ (ledZ)) := fnOk_of (G := ⟨K, tfT K ltf⟩) (k := 0) (Γ := []) (z := y__law_lead) (S := ledZ) F46 Wd (fun z => by cases z) (fun z => by cases z) sc__law_lead ck__law_lead (FnTs.get .nil) (by intro us O Q E h; repeat' (first | (rcases h with ⟨e, h⟩; subst e; rfl) | (rcases h with ⟨_, h⟩))) k_law_lead
  have h__law_lead : FnT P w K mg base ⟨K, tfT K ltf⟩ 4 ("_law_lead", []) (ledZ) := FnT.raw m46 F46.kp oh__law_lead (F46.bindsN fun _ _ _ _ _ _ us hl => match us, hl with | [_, _], _ => rfl)
  have oh__law_one : FnOk P w K mg base (L2.CX P w) 4 (He.ga K "_law_one") fd48 ps__law_one (lowSp ⟨K, tfT K ltf⟩ (identityZ)) := fnOk_of (G := ⟨K, tfT K ltf⟩) (k := 0) (Γ := []) (z := y__law_one) (S := identityZ) F48 Wd (fun z => by cases z) (fun z => by cases z) sc__law_one ck__law_one (FnTs.get .nil) (by intro us O Q E h; repeat' (first | (rcases h with ⟨e, h⟩; subst e; rfl) | (rcases h with ⟨_, h⟩))) k_law_one
  have h__law_one : FnT P w K mg base ⟨K, tfT K ltf⟩ 4 ("_law_one", []) (identityZ) := FnT.raw m48 F48.kp oh__law_one (F48.bindsN fun _ _ _ _ _ _ us hl => match us, hl with | [_], _ => rfl)
  have oh__law_det : FnOk P w K mg base (L2.CX P w) 4 (He.ga K "_law_det") fd49 ps__law_det (lowSp ⟨K, tfT K ltf⟩ (detZ)) := fnOk_of (G := ⟨K, tfT K ltf⟩) (k := 0) (Γ := []) (z := y__law_det) (S := detZ) F49 Wd (fun z => by cases z) (fun z => by cases z) sc__law_det ck__law_det (FnTs.get .nil) (by intro us O Q E h; repeat' (first | (rcases h with ⟨e, h⟩; subst e; rfl) | (rcases h with ⟨_, h⟩))) k_law_det
  have h__law_det : FnT P w K mg base ⟨K, tfT K ltf⟩ 4 ("_law_det", []) (detZ) := FnT.raw m49 F49.kp oh__law_det (F49.bindsN fun _ _ _ _ _ _ us hl => match us, hl with | [_], _ => rfl)
  have oh__law_minor : FnOk P w K mg base (L2.CX P w) 4 (He.ga K "_law_minor") fd50 ps__law_minor (lowSp ⟨K, tfT K ltf⟩ (minorZ)) := fnOk_of (G := ⟨K, tfT K ltf⟩) (k := 0) (Γ := []) (z := y__law_minor) (S := minorZ) F50 Wd (fun z => by cases z) (fun z => by cases z) sc__law_minor ck__law_minor (FnTs.get .nil) (by intro us O Q E h; repeat' (first | (rcases h with ⟨e, h⟩; subst e; rfl) | (rcases h with ⟨_, h⟩))) k_law_minor
  have h__law_minor : FnT P w K mg base ⟨K, tfT K ltf⟩ 4 ("_law_minor", []) (minorZ) := FnT.raw m50 F50.kp oh__law_minor (F50.bindsN fun _ _ _ _ _ _ us hl => match us, hl with | [_, _, _], _ => rfl)
  have oh_is_number : FnOk P w K mg base (L2.CX P w) 8 (He.ga K "is_number") fd7 ps_is_number (lowSp ⟨K, tfT K ltf⟩ (is_numberZ)) := fnOk_of (G := ⟨K, tfT K ltf⟩) (k := 4) (Γ := [((("is_any_number", []) : Fk), (intZ : ZSp))]) (z := y_is_number) (S := is_numberZ) F7 Wd (fun z => by cases z) (fun z => by cases z) sc_is_number ck_is_number (FnTs.get (.cons (h_is_any_number.mono (by decide)) .nil)) (by intro us O Q E h; repeat' (first | (rcases h with ⟨e, h⟩; subst e; rfl) | (rcases h with ⟨_, h⟩))) k_is_number
  have h_is_number : FnT P w K mg base ⟨K, tfT K ltf⟩ 8 ("is_number", []) (is_numberZ) := FnT.raw m7 F7.kp oh_is_number (F7.bindsN fun _ _ _ _ _ _ us hl => match us, hl with | [_, _, _], _ => rfl)
  have oh_is_vector : FnOk P w K mg base (L2.CX P w) 8 (He.ga K "is_vector") fd11 ps_is_vector (lowSp ⟨K, tfT K ltf⟩ (isVecZ)) := fnOk_of (G := ⟨K, tfT K ltf⟩) (k := 4) (Γ := [((("is_any_number", []) : Fk), (intZ : ZSp))]) (z := y_is_vector) (S := isVecZ) F11 Wd (fun z => by cases z) (fun z => by cases z) sc_is_vector ck_is_vector (FnTs.get (.cons (h_is_any_number.mono (by decide)) .nil)) (by intro us O Q E h; repeat' (first | (rcases h with ⟨e, h⟩; subst e; rfl) | (rcases h with ⟨_, h⟩))) k_is_vector
  have h_is_vector : FnT P w K mg base ⟨K, tfT K ltf⟩ 8 ("is_vector", []) (isVecZ) := FnT.raw m11 F11.kp oh_is_vector (F11.bindsN fun _ _ _ _ _ _ us hl => match us, hl with | [_, _], _ => rfl)
  have oh_identity : FnOk P w K mg base (L2.CX P w) 8 (He.ga K "identity") fd15 ps_identity (lowSp ⟨K, tfT K ltf⟩ (identityZ)) := fnOk_of (G := ⟨K, tfT K ltf⟩) (k := 4) (Γ := [((("unit", []) : Fk), (unitZ : ZSp))]) (z := y_identity) (S := identityZ) F15 Wd (fun z => by cases z) (fun z => by cases z) sc_identity ck_identity (FnTs.get (.cons (h_unit.mono (by decide)) .nil)) (by intro us O Q E h; repeat' (first | (rcases h with ⟨e, h⟩; subst e; rfl) | (rcases h with ⟨_, h⟩))) k_identity
  have h_identity : FnT P w K mg base ⟨K, tfT K ltf⟩ 8 ("identity", []) (identityZ) := FnT.raw m15 F15.kp oh_identity (F15.bindsN fun _ _ _ _ _ _ us hl => match us, hl with | [_], _ => rfl)
  have oh_led : FnOk P w K mg base (L2.CX P w) 8 (He.ga K "led") fd20 ps_led (lowSp ⟨K, tfT K ltf⟩ (ledZ)) := fnOk_of (G := ⟨K, tfT K ltf⟩) (k := 4) (Γ := [((("dot", []) : Fk), (dotZ : ZSp))]) (z := y_led) (S := ledZ) F20 Wd (fun z => by cases z) (fun z => by cases z) sc_led ck_led (FnTs.get (.cons (h_dot.mono (by decide)) .nil)) (by intro us O Q E h; repeat' (first | (rcases h with ⟨e, h⟩; subst e; rfl) | (rcases h with ⟨_, h⟩))) k_led
  have h_led : FnT P w K mg base ⟨K, tfT K ltf⟩ 8 ("led", []) (ledZ) := FnT.raw m20 F20.kp oh_led (F20.bindsN fun _ _ _ _ _ _ us hl => match us, hl with | [_, _], _ => rfl)
  have oh__law_pick : FnOk P w K mg base (L2.CX P w) 8 (He.ga K "_law_pick") fd32 ps__law_pick (lowSp ⟨K, tfT K ltf⟩ (pickZ)) := fnOk_of (G := ⟨K, tfT K ltf⟩) (k := 4) (Γ := [((("_law_draw", []) : Fk), (drawZ : ZSp))]) (z := y__law_pick) (S := pickZ) F32 Wd (fun z => by cases z) (fun z => by cases z) sc__law_pick ck__law_pick (FnTs.get (.cons (h__law_draw.mono (by decide)) .nil)) (fun us O Q E h => by obtain ⟨_, _, ⟨rfl, _⟩ | ⟨rfl, _⟩, _⟩ := h <;> rfl) k_law_pick
  have h__law_pick : FnT P w K mg base ⟨K, tfT K ltf⟩ 8 ("_law_pick", []) (pickZ) := FnT.raw m32 F32.kp oh__law_pick (F32.bindsN fun _ _ _ _ _ _ us hl => match us, hl with | [_, _], _ => rfl)
  have oh__law_mixed : FnOk P w K mg base (L2.CX P w) 8 (He.ga K "_law_mixed") fd33 ps__law_mixed (lowSp ⟨K, tfT K ltf⟩ (mixedZ)) := fnOkD_of (G := ⟨K, tfT K ltf⟩) (k := 4) (Γ := [((("_law_draw", []) : Fk), (drawZ : ZSp))]) (z := y__law_mixed) (S := mixedZ) F33 Wd (fun z => by cases z) (fun z => by cases z) sc__law_mixed ck__law_mixed (FnTs.get (.cons (h__law_draw.mono (by decide)) .nil)) (by intro us O Q E h; repeat' (first | (rcases h with ⟨e, h⟩; subst e; rfl) | (rcases h with ⟨_, h⟩))) k_law_mixed
  have h__law_mixed : FnT P w K mg base ⟨K, tfT K ltf⟩ 8 ("_law_mixed", []) (mixedZ) := FnT.raw m33 F33.kp oh__law_mixed (F33.bindsN fun _ _ _ _ _ _ us hl => match us, hl with | [_, _], _ => rfl)
  have oh__law_is_vector : FnOk P w K mg base (L2.CX P w) 8 (He.ga K "_law_is_vector") fd38 ps__law_is_vector (lowSp ⟨K, tfT K ltf⟩ (isVecZ)) := fnOk_of (G := ⟨K, tfT K ltf⟩) (k := 4) (Γ := [((("_law_int", []) : Fk), (intZ : ZSp))]) (z := y__law_is_vector) (S := isVecZ) F38 Wd (fun z => by cases z) (fun z => by cases z) sc__law_is_vector ck__law_is_vector (FnTs.get (.cons (h__law_int.mono (by decide)) .nil)) (by intro us O Q E h; repeat' (first | (rcases h with ⟨e, h⟩; subst e; rfl) | (rcases h with ⟨_, h⟩))) k_law_is_vector
  have h__law_is_vector : FnT P w K mg base ⟨K, tfT K ltf⟩ 8 ("_law_is_vector", []) (isVecZ) := FnT.raw m38 F38.kp oh__law_is_vector (F38.bindsN fun _ _ _ _ _ _ us hl => match us, hl with | [_, _], _ => rfl)
  have oh__law_mul : FnOk P w K mg base (L2.CX P w) 8 (He.ga K "_law_mul") fd47 ps__law_mul (lowSp ⟨K, tfT K ltf⟩ (mtimesZ)) := fnOk_of (G := ⟨K, tfT K ltf⟩) (k := 4) (Γ := [((("_law_lead", []) : Fk), (ledZ : ZSp))]) (z := y__law_mul) (S := mtimesZ) F47 Wd (fun z => by cases z) (fun z => by cases z) sc__law_mul ck__law_mul (FnTs.get (.cons (h__law_lead.mono (by decide)) .nil)) (by intro us O Q E h; repeat' (first | (rcases h with ⟨e, h⟩; subst e; rfl) | (rcases h with ⟨_, h⟩))) k_law_mul
  have h__law_mul : FnT P w K mg base ⟨K, tfT K ltf⟩ 8 ("_law_mul", []) (mtimesZ) := FnT.raw m47 F47.kp oh__law_mul (F47.bindsN fun _ _ _ _ _ _ us hl => match us, hl with | [_, _], _ => rfl)
  have oh__law_undo : FnOk P w K mg base (L2.CX P w) 8 (He.ga K "_law_undo") fd51 ps__law_undo (lowSp ⟨K, tfT K ltf⟩ (lundoZ)) := fnOk_of (G := ⟨K, tfT K ltf⟩) (k := 4) (Γ := [((("_law_minor", []) : Fk), (minorZ : ZSp)), ((("_law_det", []) : Fk), (detZ : ZSp))]) (z := y__law_undo) (S := lundoZ) F51 Wd (fun z => by cases z) (fun z => by cases z) sc__law_undo ck__law_undo (FnTs.get (.cons (h__law_minor.mono (by decide)) (.cons (h__law_det.mono (by decide)) .nil))) (by intro us O Q E h; repeat' (first | (rcases h with ⟨e, h⟩; subst e; rfl) | (rcases h with ⟨_, h⟩))) k_law_undo
  have h__law_undo : FnT P w K mg base ⟨K, tfT K ltf⟩ 8 ("_law_undo", []) (lundoZ) := FnT.raw m51 F51.kp oh__law_undo (F51.bindsN fun _ _ _ _ _ _ us hl => match us, hl with | [_], _ => rfl)
  have oh_is_matrix : FnOk P w K mg base (L2.CX P w) 12 (He.ga K "is_matrix") fd12 ps_is_matrix (lowSp ⟨K, tfT K ltf⟩ (isMatZ)) := fnOk_of (G := ⟨K, tfT K ltf⟩) (k := 8) (Γ := [((("is_vector", []) : Fk), (isVecZ : ZSp))]) (z := y_is_matrix) (S := isMatZ) F12 Wd (fun z => by cases z) (fun z => by cases z) sc_is_matrix ck_is_matrix (FnTs.get (.cons (h_is_vector.mono (by decide)) .nil)) (by intro us O Q E h; repeat' (first | (rcases h with ⟨e, h⟩; subst e; rfl) | (rcases h with ⟨_, h⟩))) k_is_matrix
  have h_is_matrix : FnT P w K mg base ⟨K, tfT K ltf⟩ 12 ("is_matrix", []) (isMatZ) := FnT.raw m12 F12.kp oh_is_matrix (F12.bindsN fun _ _ _ _ _ _ us hl => match us, hl with | [_, _], _ => rfl)
  have oh_matrix_times : FnOk P w K mg base (L2.CX P w) 12 (He.ga K "matrix_times") fd21 ps_matrix_times (lowSp ⟨K, tfT K ltf⟩ (mtimesZ)) := fnOk_of (G := ⟨K, tfT K ltf⟩) (k := 8) (Γ := [((("led", []) : Fk), (ledZ : ZSp))]) (z := y_matrix_times) (S := mtimesZ) F21 Wd (fun z => by cases z) (fun z => by cases z) sc_matrix_times ck_matrix_times (FnTs.get (.cons (h_led.mono (by decide)) .nil)) (by intro us O Q E h; repeat' (first | (rcases h with ⟨e, h⟩; subst e; rfl) | (rcases h with ⟨_, h⟩))) k_matrix_times
  have h_matrix_times : FnT P w K mg base ⟨K, tfT K ltf⟩ 12 ("matrix_times", []) (mtimesZ) := FnT.raw m21 F21.kp oh_matrix_times (F21.bindsN fun _ _ _ _ _ _ us hl => match us, hl with | [_, _], _ => rfl)
  have oh__law_huge : FnOk P w K mg base (L2.CX P w) 12 (He.ga K "_law_huge") fd34 ps__law_huge (lowSp ⟨K, tfT K ltf⟩ (hugeZ)) := fnOk_of (G := ⟨K, tfT K ltf⟩) (k := 8) (Γ := [((("_law_pick", []) : Fk), (pickZ : ZSp)), ((("_law_draw", []) : Fk), (drawZ : ZSp))]) (z := y__law_huge) (S := hugeZ) F34 Wd (fun z => by cases z) (fun z => by cases z) sc__law_huge ck__law_huge (FnTs.get (.cons (h__law_pick.mono (by decide)) (.cons (h__law_draw.mono (by decide)) .nil))) (by intro us O Q E h; repeat' (first | (rcases h with ⟨e, h⟩; subst e; rfl) | (rcases h with ⟨_, h⟩))) k_law_huge
  have h__law_huge : FnT P w K mg base ⟨K, tfT K ltf⟩ 12 ("_law_huge", []) (hugeZ) := FnT.raw m34 F34.kp oh__law_huge (F34.bindsN fun _ _ _ _ _ _ us hl => match us, hl with | [_], _ => rfl)
  have oh__law_is_matrix : FnOk P w K mg base (L2.CX P w) 12 (He.ga K "_law_is_matrix") fd39 ps__law_is_matrix (lowSp ⟨K, tfT K ltf⟩ (isMatZ)) := fnOk_of (G := ⟨K, tfT K ltf⟩) (k := 8) (Γ := [((("_law_is_vector", []) : Fk), (isVecZ : ZSp))]) (z := y__law_is_matrix) (S := isMatZ) F39 Wd (fun z => by cases z) (fun z => by cases z) sc__law_is_matrix ck__law_is_matrix (FnTs.get (.cons (h__law_is_vector.mono (by decide)) .nil)) (by intro us O Q E h; repeat' (first | (rcases h with ⟨e, h⟩; subst e; rfl) | (rcases h with ⟨_, h⟩))) k_law_is_matrix
  have h__law_is_matrix : FnT P w K mg base ⟨K, tfT K ltf⟩ 12 ("_law_is_matrix", []) (isMatZ) := FnT.raw m39 F39.kp oh__law_is_matrix (F39.bindsN fun _ _ _ _ _ _ us hl => match us, hl with | [_, _], _ => rfl)
  have oh__law_odd : FnOk P w K mg base (L2.CX P w) 12 (He.ga K "_law_odd") fd45 ps__law_odd (lowSp ⟨K, tfT K ltf⟩ (oddZ)) := fnOk_of (G := ⟨K, tfT K ltf⟩) (k := 8) (Γ := [((("_law_pick", []) : Fk), (pickZ : ZSp)), ((("_law_draw", []) : Fk), (drawZ : ZSp))]) (z := y__law_odd) (S := oddZ) F45 Wd (fun z => by cases z) (fun z => by cases z) sc__law_odd ck__law_odd (FnTs.get (.cons (h__law_pick.mono (by decide)) (.cons (h__law_draw.mono (by decide)) .nil))) (by intro us O Q E h; repeat' (first | (rcases h with ⟨e, h⟩; subst e; rfl) | (rcases h with ⟨_, h⟩))) k_law_odd
  have h__law_odd : FnT P w K mg base ⟨K, tfT K ltf⟩ 12 ("_law_odd", []) (oddZ) := FnT.raw m45 F45.kp oh__law_odd (F45.bindsN fun _ _ _ _ _ _ us hl => match us, hl with | [_], _ => rfl)
  have oh__law_unimodular : FnOk P w K mg base (L2.CX P w) 12 (He.ga K "_law_unimodular") fd52 ps__law_unimodular (lowSp ⟨K, tfT K ltf⟩ (uniZ 20)) := fnOkD_of (G := ⟨K, tfT K ltf⟩) (k := 8) (Γ := [((("_law_draw", []) : Fk), (drawZ : ZSp)), ((("_law_mixed", []) : Fk), (mixedZ : ZSp)), ((("_law_one", []) : Fk), (identityZ : ZSp))]) (z := y__law_unimodular) (S := uniZ 20) F52 Wd (fun z => by cases z) (fun z => by cases z) sc__law_unimodular ck__law_unimodular (FnTs.get (.cons (h__law_draw.mono (by decide)) (.cons (h__law_mixed.mono (by decide)) (.cons (h__law_one.mono (by decide)) .nil)))) (by intro us O Q E h; repeat' (first | (rcases h with ⟨e, h⟩; subst e; rfl) | (rcases h with ⟨_, h⟩))) k_law_unimodular
  have h__law_unimodular : FnT P w K mg base ⟨K, tfT K ltf⟩ 12 ("_law_unimodular", []) (uniZ 20) := FnT.raw m52 F52.kp oh__law_unimodular (F52.bindsN fun _ _ _ _ _ _ us hl => match us, hl with | [_, _], _ => rfl)
  have oh__law_power : FnOk P w K mg base (L2.CX P w) 12 (He.ga K "_law_power") fd54 ps__law_power (lowSp ⟨K, tfT K ltf⟩ (lpowerZ)) := fnOk_of (G := ⟨K, tfT K ltf⟩) (k := 8) (Γ := [((("_law_undo", []) : Fk), (lundoZ : ZSp)), ((("_law_mul", []) : Fk), (mtimesZ : ZSp)), ((("_law_one", []) : Fk), (identityZ : ZSp))]) (z := y__law_power) (S := lpowerZ) F54 Wd (fun z => by cases z) (fun z => by cases z) sc__law_power ck__law_power (FnTs.get (.cons (h__law_undo.mono (by decide)) (.cons (h__law_mul.mono (by decide)) (.cons (h__law_one.mono (by decide)) .nil)))) (by intro us O Q E h; repeat' (first | (rcases h with ⟨e, h⟩; subst e; rfl) | (rcases h with ⟨_, h⟩))) k_law_power
  have h__law_power : FnT P w K mg base ⟨K, tfT K ltf⟩ 12 ("_law_power", []) (lpowerZ) := FnT.raw m54 F54.kp oh__law_power (F54.bindsN fun _ _ _ _ _ _ us hl => match us, hl with | [_, _], _ => rfl)
  have oh_is_unimodular : FnOk P w K mg base (L2.CX P w) 16 (He.ga K "is_unimodular") fd24 ps_is_unimodular (lowSp ⟨K, tfT K ltf⟩ (isUniZ)) := fnOk_of (G := ⟨K, tfT K ltf⟩) (k := 12) (Γ := [((("determinant", []) : Fk), (detZ : ZSp)), ((("is_matrix", []) : Fk), (isMatZ : ZSp))]) (z := y_is_unimodular) (S := isUniZ) F24 Wd (fun z => by cases z) (fun z => by cases z) sc_is_unimodular ck_is_unimodular (FnTs.get (.cons (h_determinant.mono (by decide)) (.cons (h_is_matrix.mono (by decide)) .nil))) (by intro us O Q E h; repeat' (first | (rcases h with ⟨e, h⟩; subst e; rfl) | (rcases h with ⟨_, h⟩))) k_is_unimodular
  have h_is_unimodular : FnT P w K mg base ⟨K, tfT K ltf⟩ 16 ("is_unimodular", []) (isUniZ) := FnT.raw m24 F24.kp oh_is_unimodular (F24.bindsN fun _ _ _ _ _ _ us hl => match us, hl with | [_, _], _ => rfl)
  have oh__law_number : FnOk P w K mg base (L2.CX P w) 16 (He.ga K "_law_number") fd35 ps__law_number (lowSp ⟨K, tfT K ltf⟩ (numberZ)) := fnOk_of (G := ⟨K, tfT K ltf⟩) (k := 12) (Γ := [((("_law_draw", []) : Fk), (drawZ : ZSp)), ((("_law_huge", []) : Fk), (hugeZ : ZSp)), ((("_law_pick", []) : Fk), (pickZ : ZSp))]) (z := y__law_number) (S := numberZ) F35 Wd (fun z => by cases z) (fun z => by cases z) sc__law_number ck__law_number (FnTs.get (.cons (h__law_draw.mono (by decide)) (.cons (h__law_huge.mono (by decide)) (.cons (h__law_pick.mono (by decide)) .nil)))) (by intro us O Q E h; repeat' (first | (rcases h with ⟨e, h⟩; subst e; rfl) | (rcases h with ⟨_, h⟩))) k_law_number
  have h__law_number : FnT P w K mg base ⟨K, tfT K ltf⟩ 16 ("_law_number", []) (numberZ) := FnT.raw m35 F35.kp oh__law_number (F35.bindsN fun _ _ _ _ _ _ us hl => match us, hl with | [_, _], _ => rfl)
  have oh__law_is_unimodular : FnOk P w K mg base (L2.CX P w) 16 (He.ga K "_law_is_unimodular") fd40 ps__law_is_unimodular (lowSp ⟨K, tfT K ltf⟩ (isUniAZ)) := fnOk_of (G := ⟨K, tfT K ltf⟩) (k := 12) (Γ := [((("_law_det", []) : Fk), (detZ : ZSp)), ((("_law_is_matrix", []) : Fk), (isMatZ : ZSp))]) (z := y__law_is_unimodular) (S := isUniAZ) F40 Wd (fun z => by cases z) (fun z => by cases z) sc__law_is_unimodular ck__law_is_unimodular (FnTs.get (.cons (h__law_det.mono (by decide)) (.cons (h__law_is_matrix.mono (by decide)) .nil))) (by intro us O Q E h; repeat' (first | (rcases h with ⟨e, h⟩; subst e; rfl) | (rcases h with ⟨_, h⟩))) k_law_is_unimodular
  have h__law_is_unimodular : FnT P w K mg base ⟨K, tfT K ltf⟩ 16 ("_law_is_unimodular", []) (isUniAZ) := FnT.raw m40 F40.kp oh__law_is_unimodular (F40.bindsN fun _ _ _ _ _ _ us hl => match us, hl with | [_], _ => rfl)
  have s0 : FnT P w K mg base ⟨K, tfT K ltf⟩ 0 ("_law_same", []) fun _ _ _ _ => False := fnT_false (ps := ps__law_same) F41 m41 (F41.bindsN fun _ _ _ _ _ _ us hl => match us, hl with | [_, _], _ => rfl)
  have os1 : FnOk P w K mg base (L2.CX P w) 4 (He.ga K "_law_same") fd41 ps__law_same (lowSp ⟨K, tfT K ltf⟩ ((sameZ 0))) := fnOk_of (G := ⟨K, tfT K ltf⟩) (k := 0) (Γ := [((("_law_same", []) : Fk), ((fun _ _ _ _ => False) : ZSp))]) (z := y__law_same) (S := (sameZ 0)) F41 Wd (fun z => by cases z) (fun z => by cases z) sc__law_same ck__law_same (FnTs.get (.cons s0 .nil)) (by intro us O Q E h; repeat' (first | (rcases h with ⟨e, h⟩; subst e; rfl) | (rcases h with ⟨_, h⟩))) (k_law_same 0 (fun _ _ _ _ => False) (fun m hm => absurd hm (by omega)))
  have s1 : FnT P w K mg base ⟨K, tfT K ltf⟩ 4 ("_law_same", []) ((sameZ 0)) := FnT.raw m41 F41.kp os1 (F41.bindsN fun _ _ _ _ _ _ us hl => match us, hl with | [_, _], _ => rfl)
  have os2 : FnOk P w K mg base (L2.CX P w) 8 (He.ga K "_law_same") fd41 ps__law_same (lowSp ⟨K, tfT K ltf⟩ ((sameZ 1))) := fnOk_of (G := ⟨K, tfT K ltf⟩) (k := 4) (Γ := [((("_law_same", []) : Fk), ((sameZ 0) : ZSp))]) (z := y__law_same) (S := (sameZ 1)) F41 Wd (fun z => by cases z) (fun z => by cases z) sc__law_same ck__law_same (FnTs.get (.cons s1 .nil)) (by intro us O Q E h; repeat' (first | (rcases h with ⟨e, h⟩; subst e; rfl) | (rcases h with ⟨_, h⟩))) (k_law_same 1 (sameZ 0) (fun m hm => by obtain rfl : m = 0 := (by omega); rfl))
  have s2 : FnT P w K mg base ⟨K, tfT K ltf⟩ 8 ("_law_same", []) ((sameZ 1)) := FnT.raw m41 F41.kp os2 (F41.bindsN fun _ _ _ _ _ _ us hl => match us, hl with | [_, _], _ => rfl)
  have os3 : FnOk P w K mg base (L2.CX P w) 12 (He.ga K "_law_same") fd41 ps__law_same (lowSp ⟨K, tfT K ltf⟩ ((sameZ 2))) := fnOk_of (G := ⟨K, tfT K ltf⟩) (k := 8) (Γ := [((("_law_same", []) : Fk), ((sameZ 1) : ZSp))]) (z := y__law_same) (S := (sameZ 2)) F41 Wd (fun z => by cases z) (fun z => by cases z) sc__law_same ck__law_same (FnTs.get (.cons s2 .nil)) (by intro us O Q E h; repeat' (first | (rcases h with ⟨e, h⟩; subst e; rfl) | (rcases h with ⟨_, h⟩))) (k_law_same 2 (sameZ 1) (fun m hm => by obtain rfl : m = 1 := (by omega); rfl))
  have s3 : FnT P w K mg base ⟨K, tfT K ltf⟩ 12 ("_law_same", []) ((sameZ 2)) := FnT.raw m41 F41.kp os3 (F41.bindsN fun _ _ _ _ _ _ us hl => match us, hl with | [_, _], _ => rfl)
  have os4 : FnOk P w K mg base (L2.CX P w) 16 (He.ga K "_law_same") fd41 ps__law_same (lowSp ⟨K, tfT K ltf⟩ ((sameZ 3))) := fnOk_of (G := ⟨K, tfT K ltf⟩) (k := 12) (Γ := [((("_law_same", []) : Fk), ((sameZ 2) : ZSp))]) (z := y__law_same) (S := (sameZ 3)) F41 Wd (fun z => by cases z) (fun z => by cases z) sc__law_same ck__law_same (FnTs.get (.cons s3 .nil)) (by intro us O Q E h; repeat' (first | (rcases h with ⟨e, h⟩; subst e; rfl) | (rcases h with ⟨_, h⟩))) (k_law_same 3 (sameZ 2) (fun m hm => by obtain rfl : m = 2 := (by omega); rfl))
  have s4 : FnT P w K mg base ⟨K, tfT K ltf⟩ 16 ("_law_same", []) ((sameZ 3)) := FnT.raw m41 F41.kp os4 (F41.bindsN fun _ _ _ _ _ _ us hl => match us, hl with | [_, _], _ => rfl)
  have h__law_same := s4
  have oh__law_spun : FnOk P w K mg base (L2.CX P w) 16 (He.ga K "_law_spun") fd53 ps__law_spun (lowSp ⟨K, tfT K ltf⟩ (uniZ 100)) := fnOk_of (G := ⟨K, tfT K ltf⟩) (k := 12) (Γ := [((("_law_mul", []) : Fk), (mtimesZ : ZSp)), ((("_law_undo", []) : Fk), (lundoZ : ZSp)), ((("_law_unimodular", []) : Fk), (uniZ 20 : ZSp)), ((("_law_draw", []) : Fk), (drawZ : ZSp)), ((("_law_pick", []) : Fk), (pickZ : ZSp))]) (z := y__law_spun) (S := uniZ 100) F53 Wd (fun z => by cases z) (fun z => by cases z) sc__law_spun ck__law_spun (FnTs.get (.cons (h__law_mul.mono (by decide)) (.cons (h__law_undo.mono (by decide)) (.cons (h__law_unimodular.mono (by decide)) (.cons (h__law_draw.mono (by decide)) (.cons (h__law_pick.mono (by decide)) .nil)))))) (by intro us O Q E h; repeat' (first | (rcases h with ⟨e, h⟩; subst e; rfl) | (rcases h with ⟨_, h⟩))) k_law_spun
  have h__law_spun : FnT P w K mg base ⟨K, tfT K ltf⟩ 16 ("_law_spun", []) (uniZ 100) := FnT.raw m53 F53.kp oh__law_spun (F53.bindsN fun _ _ _ _ _ _ us hl => match us, hl with | [_, _], _ => rfl)
  have oh__law_order : FnOk P w K mg base (L2.CX P w) 16 (He.ga K "_law_order") fd55 ps__law_order (lowSp ⟨K, tfT K ltf⟩ (lorderZ)) := fnOk_of (G := ⟨K, tfT K ltf⟩) (k := 12) (Γ := [((("_law_power", []) : Fk), (lpowerZ : ZSp)), ((("_law_one", []) : Fk), (identityZ : ZSp))]) (z := y__law_order) (S := lorderZ) F55 Wd (fun z => by cases z) (fun z => by cases z) sc__law_order ck__law_order (FnTs.get (.cons (h__law_power.mono (by decide)) (.cons (h__law_one.mono (by decide)) .nil))) (by intro us O Q E h; repeat' (first | (rcases h with ⟨e, h⟩; subst e; rfl) | (rcases h with ⟨_, h⟩))) k_law_order
  have h__law_order : FnT P w K mg base ⟨K, tfT K ltf⟩ 16 ("_law_order", []) (lorderZ) := FnT.raw m55 F55.kp oh__law_order (F55.bindsN fun _ _ _ _ _ _ us hl => match us, hl with | [_], _ => rfl)
  have oh__law_bent : FnOk P w K mg base (L2.CX P w) 16 (He.ga K "_law_bent") fd56 ps__law_bent (lowSp ⟨K, tfT K ltf⟩ (bentZ)) := fnOkD_of (G := ⟨K, tfT K ltf⟩) (k := 12) (Γ := [((("_law_pick", []) : Fk), (pickZ : ZSp)), ((("_law_odd", []) : Fk), (oddZ : ZSp)), ((("_law_one", []) : Fk), (identityZ : ZSp)), ((("_law_draw", []) : Fk), (drawZ : ZSp))]) (z := y__law_bent) (S := bentZ) F56 Wd (fun z => by cases z) (fun z => by cases z) sc__law_bent ck__law_bent (FnTs.get (.cons (h__law_pick.mono (by decide)) (.cons (h__law_odd.mono (by decide)) (.cons (h__law_one.mono (by decide)) (.cons (h__law_draw.mono (by decide)) .nil))))) (by intro us O Q E h; repeat' (first | (rcases h with ⟨e, h⟩; subst e; rfl) | (rcases h with ⟨_, h⟩))) k_law_bent
  have h__law_bent : FnT P w K mg base ⟨K, tfT K ltf⟩ 16 ("_law_bent", []) (bentZ) := FnT.raw m56 F56.kp oh__law_bent (F56.bindsN fun _ _ _ _ _ _ us hl => match us, hl with | [_, _], _ => rfl)
  have oh_is_any_unimodular : FnOk P w K mg base (L2.CX P w) 20 (He.ga K "is_any_unimodular") fd25 ps_is_any_unimodular (lowSp ⟨K, tfT K ltf⟩ (isUniAZ)) := fnOk_of (G := ⟨K, tfT K ltf⟩) (k := 16) (Γ := [((("is_unimodular", []) : Fk), (isUniZ : ZSp))]) (z := y_is_any_unimodular) (S := isUniAZ) F25 Wd (fun z => by cases z) (fun z => by cases z) sc_is_any_unimodular ck_is_any_unimodular (FnTs.get (.cons (h_is_unimodular.mono (by decide)) .nil)) (by intro us O Q E h; repeat' (first | (rcases h with ⟨e, h⟩; subst e; rfl) | (rcases h with ⟨_, h⟩))) k_is_any_unimodular
  have h_is_any_unimodular : FnT P w K mg base ⟨K, tfT K ltf⟩ 20 ("is_any_unimodular", []) (isUniAZ) := FnT.raw m25 F25.kp oh_is_any_unimodular (F25.bindsN fun _ _ _ _ _ _ us hl => match us, hl with | [_], _ => rfl)
  have oh__law_vector : FnOk P w K mg base (L2.CX P w) 20 (He.ga K "_law_vector") fd36 ps__law_vector (lowSp ⟨K, tfT K ltf⟩ (vectorZ)) := fnOk_of (G := ⟨K, tfT K ltf⟩) (k := 16) (Γ := [((("_law_number", []) : Fk), (numberZ : ZSp))]) (z := y__law_vector) (S := vectorZ) F36 Wd (fun z => by cases z) (fun z => by cases z) sc__law_vector ck__law_vector (FnTs.get (.cons (h__law_number.mono (by decide)) .nil)) (by intro us O Q E h; repeat' (first | (rcases h with ⟨e, h⟩; subst e; rfl) | (rcases h with ⟨_, h⟩))) k_law_vector
  have h__law_vector : FnT P w K mg base ⟨K, tfT K ltf⟩ 20 ("_law_vector", []) (vectorZ) := FnT.raw m36 F36.kp oh__law_vector (F36.bindsN fun _ _ _ _ _ _ us hl => match us, hl with | [_, _, _], _ => rfl)
  have oh__law_judged_so : FnOk P w K mg base (L2.CX P w) 20 (He.ga K "_law_judged_so") fd58 ps__law_judged_so (lowSp ⟨K, tfT K ltf⟩ (judgedZ)) := fnOk_of (G := ⟨K, tfT K ltf⟩) (k := 16) (Γ := [((("_law_same", []) : Fk), (sameZ 3 : ZSp)), ((("is_unimodular", []) : Fk), (isUniZ : ZSp)), ((("_law_odd", []) : Fk), (oddZ : ZSp)), ((("_law_is_unimodular", []) : Fk), (isUniAZ : ZSp)), ((("_law_is_matrix", []) : Fk), (isMatZ : ZSp)), ((("is_matrix", []) : Fk), (isMatZ : ZSp)), ((("_law_is_vector", []) : Fk), (isVecZ : ZSp)), ((("is_vector", []) : Fk), (isVecZ : ZSp)), ((("_law_draw", []) : Fk), (drawZ : ZSp))]) (z := y__law_judged_so) (S := judgedZ) F58 Wd (fun z => by cases z) (fun z => by cases z) sc__law_judged_so ck__law_judged_so (FnTs.get (.cons (h__law_same.mono (by decide)) (.cons (h_is_unimodular.mono (by decide)) (.cons (h__law_odd.mono (by decide)) (.cons (h__law_is_unimodular.mono (by decide)) (.cons (h__law_is_matrix.mono (by decide)) (.cons (h_is_matrix.mono (by decide)) (.cons (h__law_is_vector.mono (by decide)) (.cons (h_is_vector.mono (by decide)) (.cons (h__law_draw.mono (by decide)) .nil)))))))))) (by intro us O Q E h; repeat' (first | (rcases h with ⟨e, h⟩; subst e; rfl) | (rcases h with ⟨_, h⟩))) k_law_judged_so
  have h__law_judged_so : FnT P w K mg base ⟨K, tfT K ltf⟩ 20 ("_law_judged_so", []) (judgedZ) := FnT.raw m58 F58.kp oh__law_judged_so (F58.bindsN fun _ _ _ _ _ _ us hl => match us, hl with | [_, _, _, _], _ => rfl)
  have oh_unimodular_inverse : FnOk P w K mg base (L2.CX P w) 24 (He.ga K "unimodular_inverse") fd26 ps_unimodular_inverse (lowSp ⟨K, tfT K ltf⟩ (uinvZ)) := fnOk_of (G := ⟨K, tfT K ltf⟩) (k := 20) (Γ := [((("adjugate", []) : Fk), (adjZ : ZSp)), ((("vector_times", []) : Fk), (vtimesZ : ZSp)), ((("determinant", []) : Fk), (detZ : ZSp)), ((("is_any_unimodular", []) : Fk), (isUniAZ : ZSp))]) (z := y_unimodular_inverse) (S := uinvZ) F26 Wd (fun z => by cases z) (fun z => by cases z) sc_unimodular_inverse ck_unimodular_inverse (FnTs.get (.cons (h_adjugate.mono (by decide)) (.cons (h_vector_times.mono (by decide)) (.cons (h_determinant.mono (by decide)) (.cons (h_is_any_unimodular.mono (by decide)) .nil))))) (by intro us O Q E h; repeat' (first | (rcases h with ⟨e, h⟩; subst e; rfl) | (rcases h with ⟨_, h⟩))) k_unimodular_inverse
  have h_unimodular_inverse : FnT P w K mg base ⟨K, tfT K ltf⟩ 24 ("unimodular_inverse", []) (uinvZ) := FnT.raw m26 F26.kp oh_unimodular_inverse (F26.bindsN fun _ _ _ _ _ _ us hl => match us, hl with | [_], _ => rfl)
  have oh_order_of : FnOk P w K mg base (L2.CX P w) 24 (He.ga K "order_of") fd28 ps_order_of (lowSp ⟨K, tfT K ltf⟩ (orderZ)) := fnOk_of (G := ⟨K, tfT K ltf⟩) (k := 20) (Γ := [((("matrix_times", []) : Fk), (mtimesZ : ZSp)), ((("identity", []) : Fk), (identityZ : ZSp)), ((("is_any_unimodular", []) : Fk), (isUniAZ : ZSp))]) (z := y_order_of) (S := orderZ) F28 Wd (fun z => by cases z) (fun z => by cases z) sc_order_of ck_order_of (FnTs.get (.cons (h_matrix_times.mono (by decide)) (.cons (h_identity.mono (by decide)) (.cons (h_is_any_unimodular.mono (by decide)) .nil)))) (by intro us O Q E h; repeat' (first | (rcases h with ⟨e, h⟩; subst e; rfl) | (rcases h with ⟨_, h⟩))) k_order_of
  have h_order_of : FnT P w K mg base ⟨K, tfT K ltf⟩ 24 ("order_of", []) (orderZ) := FnT.raw m28 F28.kp oh_order_of (F28.bindsN fun _ _ _ _ _ _ us hl => match us, hl with | [_], _ => rfl)
  have oh__law_sums_so : FnOk P w K mg base (L2.CX P w) 24 (He.ga K "_law_sums_so") fd57 ps__law_sums_so (lowSp ⟨K, tfT K ltf⟩ (sumsZ)) := fnOk_of (G := ⟨K, tfT K ltf⟩) (k := 20) (Γ := [((("_law_same", []) : Fk), (sameZ 3 : ZSp)), ((("_law_det", []) : Fk), (detZ : ZSp)), ((("_law_mul", []) : Fk), (mtimesZ : ZSp)), ((("_law_lead", []) : Fk), (ledZ : ZSp)), ((("_law_one", []) : Fk), (identityZ : ZSp)), ((("determinant", []) : Fk), (detZ : ZSp)), ((("matrix_times", []) : Fk), (mtimesZ : ZSp)), ((("led", []) : Fk), (ledZ : ZSp)), ((("dot", []) : Fk), (dotZ : ZSp)), ((("vector_times", []) : Fk), (vtimesZ : ZSp)), ((("vector_minus", []) : Fk), (v2Z (· - ·) : ZSp)), ((("vector_plus", []) : Fk), (v2Z (· + ·) : ZSp)), ((("identity", []) : Fk), (identityZ : ZSp)), ((("unit", []) : Fk), (unitZ : ZSp)), ((("zero", []) : Fk), (zeroZ : ZSp)), ((("_law_draw", []) : Fk), (drawZ : ZSp)), ((("_law_number", []) : Fk), (numberZ : ZSp)), ((("_law_vector", []) : Fk), (vectorZ : ZSp))]) (z := y__law_sums_so) (S := sumsZ) F57 Wd (fun z => by cases z) (fun z => by cases z) sc__law_sums_so ck__law_sums_so (FnTs.get (.cons (h__law_same.mono (by decide)) (.cons (h__law_det.mono (by decide)) (.cons (h__law_mul.mono (by decide)) (.cons (h__law_lead.mono (by decide)) (.cons (h__law_one.mono (by decide)) (.cons (h_determinant.mono (by decide)) (.cons (h_matrix_times.mono (by decide)) (.cons (h_led.mono (by decide)) (.cons (h_dot.mono (by decide)) (.cons (h_vector_times.mono (by decide)) (.cons (h_vector_minus.mono (by decide)) (.cons (h_vector_plus.mono (by decide)) (.cons (h_identity.mono (by decide)) (.cons (h_unit.mono (by decide)) (.cons (h_zero.mono (by decide)) (.cons (h__law_draw.mono (by decide)) (.cons (h__law_number.mono (by decide)) (.cons (h__law_vector.mono (by decide)) .nil))))))))))))))))))) (by intro us O Q E h; repeat' (first | (rcases h with ⟨e, h⟩; subst e; rfl) | (rcases h with ⟨_, h⟩))) k_law_sums_so
  have h__law_sums_so : FnT P w K mg base ⟨K, tfT K ltf⟩ 24 ("_law_sums_so", []) (sumsZ) := FnT.raw m57 F57.kp oh__law_sums_so (F57.bindsN fun _ _ _ _ _ _ us hl => match us, hl with | [_, _], _ => rfl)
  have oh_power : FnOk P w K mg base (L2.CX P w) 28 (He.ga K "power") fd27 ps_power (lowSp ⟨K, tfT K ltf⟩ (powerZ)) := fnOk_of (G := ⟨K, tfT K ltf⟩) (k := 24) (Γ := [((("matrix_times", []) : Fk), (mtimesZ : ZSp)), ((("identity", []) : Fk), (identityZ : ZSp)), ((("unimodular_inverse", []) : Fk), (uinvZ : ZSp)), ((("is_number", []) : Fk), (is_numberZ : ZSp)), ((("is_any_unimodular", []) : Fk), (isUniAZ : ZSp))]) (z := y_power) (S := powerZ) F27 Wd (fun z => by cases z) (fun z => by cases z) sc_power ck_power (FnTs.get (.cons (h_matrix_times.mono (by decide)) (.cons (h_identity.mono (by decide)) (.cons (h_unimodular_inverse.mono (by decide)) (.cons (h_is_number.mono (by decide)) (.cons (h_is_any_unimodular.mono (by decide)) .nil)))))) (by intro us O Q E h; repeat' (first | (rcases h with ⟨e, h⟩; subst e; rfl) | (rcases h with ⟨_, h⟩))) k_power
  have h_power : FnT P w K mg base ⟨K, tfT K ltf⟩ 28 ("power", []) (powerZ) := FnT.raw m27 F27.kp oh_power (F27.bindsN fun _ _ _ _ _ _ us hl => match us, hl with | [_, _], _ => rfl)
  have oh__law_powers_so : FnOk P w K mg base (L2.CX P w) 32 (He.ga K "_law_powers_so") fd59 ps__law_powers_so (lowSp ⟨K, tfT K ltf⟩ (judgedZ)) := fnOk_of (G := ⟨K, tfT K ltf⟩) (k := 28) (Γ := [((("_law_same", []) : Fk), (sameZ 3 : ZSp)), ((("order_of", []) : Fk), (orderZ : ZSp)), ((("power", []) : Fk), (powerZ : ZSp)), ((("unimodular_inverse", []) : Fk), (uinvZ : ZSp)), ((("_law_undo", []) : Fk), (lundoZ : ZSp)), ((("_law_is_unimodular", []) : Fk), (isUniAZ : ZSp)), ((("_law_pick", []) : Fk), (pickZ : ZSp)), ((("_law_mul", []) : Fk), (mtimesZ : ZSp)), ((("_law_one", []) : Fk), (identityZ : ZSp)), ((("_law_order", []) : Fk), (lorderZ : ZSp)), ((("_law_power", []) : Fk), (lpowerZ : ZSp)), ((("_law_draw", []) : Fk), (drawZ : ZSp))]) (z := y__law_powers_so) (S := judgedZ) F59 Wd (fun _ => rfl) (fun _ => lamD_of F59 (tf := ltf) (by decide) rfl hu hT) sc__law_powers_so ck__law_powers_so (FnTs.get (.cons (h__law_same.mono (by decide)) (.cons (h_order_of.mono (by decide)) (.cons (h_power.mono (by decide)) (.cons (h_unimodular_inverse.mono (by decide)) (.cons (h__law_undo.mono (by decide)) (.cons (h__law_is_unimodular.mono (by decide)) (.cons (h__law_pick.mono (by decide)) (.cons (h__law_mul.mono (by decide)) (.cons (h__law_one.mono (by decide)) (.cons (h__law_order.mono (by decide)) (.cons (h__law_power.mono (by decide)) (.cons (h__law_draw.mono (by decide)) .nil))))))))))))) (by intro us O Q E h; repeat' (first | (rcases h with ⟨e, h⟩; subst e; rfl) | (rcases h with ⟨_, h⟩))) k_law_powers_so
  have h__law_powers_so : FnT P w K mg base ⟨K, tfT K ltf⟩ 32 ("_law_powers_so", []) (judgedZ) := FnT.raw m59 F59.kp oh__law_powers_so (F59.bindsN fun _ _ _ _ _ _ us hl => match us, hl with | [_, _, _, _], _ => rfl)
  exact fnOk_of (G := ⟨K, tfT K ltf⟩) (k := 32) (Γ := [((("_law_powers_so", []) : Fk), (judgedZ : ZSp)), ((("_law_judged_so", []) : Fk), (judgedZ : ZSp)), ((("_law_sums_so", []) : Fk), (sumsZ : ZSp)), ((("_law_bent", []) : Fk), (bentZ : ZSp)), ((("_law_draw", []) : Fk), (drawZ : ZSp)), ((("_law_unimodular", []) : Fk), (uniZ 20 : ZSp)), ((("_law_spun", []) : Fk), (uniZ 100 : ZSp)), ((("_law_bag", []) : Fk), (bagZ : ZSp))]) (z := y_law) (S := lawZ 63) F60 Wd (fun z => by cases z) (fun z => by cases z) sc_law ck_law (FnTs.get (.cons (h__law_powers_so.mono (by decide)) (.cons (h__law_judged_so.mono (by decide)) (.cons (h__law_sums_so.mono (by decide)) (.cons (h__law_bent.mono (by decide)) (.cons (h__law_draw.mono (by decide)) (.cons (h__law_unimodular.mono (by decide)) (.cons (h__law_spun.mono (by decide)) (.cons (h__law_bag.mono (by decide)) .nil))))))))) (by intro us O Q E h; repeat' (first | (rcases h with ⟨e, h⟩; subst e; rfl) | (rcases h with ⟨_, h⟩))) k_law
end Z
open PySem PySem.W PySem.Calls PyProof.Rows
theorem PySem.Challenge.cw_endlessnets_k03_vectors_and_matrices_holds : PySem.Challenge.rw_endlessnets_k03_vectors_and_matrices.Holds := by
  w_on; o_law
  refine HandSHeadRun.head_any (r := OpenLaw.row PySem.Challenge.rw_endlessnets_k03_vectors_and_matrices) (q := view (OpenLaw.row PySem.Challenge.rw_endlessnets_k03_vectors_and_matrices).prog [60]) (H := Z.hhk) (ob := Z.hob) (M := 8000) (loose := Z.hnames) (d := HandSHeadRun.topDef (OpenLaw.row PySem.Challenge.rw_endlessnets_k03_vectors_and_matrices).prog 60) (kwd := []) Z.hob_eq
    (by kernel_rfl) (fun s => by kernel_rfl) Z.hrun (by kernel_rfl) (by kernel_rfl) (by kernel_rfl) (by rfl) (by first | assumption | decide +kernel) (by decide +kernel) ⟨rfl, rfl, rfl, rfl, rfl, by decide +kernel⟩ ?hw ?hc
  case hw => w_witness2
  case hc =>
    refine LamX.walk_ofTsE (l := PySem.Challenge.rw_endlessnets_k03_vectors_and_matrices) (n := 63) (k := 36) (x := "_law_script") (CX := fun w => L2.CX (PySem.Challenge.rw_endlessnets_k03_vectors_and_matrices).prog w) rfl (by decide) (by kernel_rfl) ⟨rfl, by decide, by decide⟩ ?F (fun w H s e s' ⟨_, _, _, _, _, _, _, _, _, _, _, _, z⟩ => z)
    intro w mg fa h Y G hmg0
    obtain ⟨K, KX, c⟩ := Y
    have hmg : mg ("law" : PySem.Str) = some (.ref fa) := by
      have e : (HandSHeadRun.topDef (OpenLaw.row PySem.Challenge.rw_endlessnets_k03_vectors_and_matrices).prog 60).name = ("law" : PySem.Str) := by kernel_rfl
      rw [← e]
      exact hmg0
    obtain ⟨fd, hb, hF⟩ := Z.law_at _ rfl (w := w) KX G hmg c.t.d c.more
    have tf : ∀ {p : Addr × Addr}, p ∈ Z.ltf.map (fun x => He.cT K (x, none)) → ∃ q ∈ Z.ltd, p = He.cT K q := fun hp => let ⟨x, hx, e⟩ := List.mem_map.mp hp; ⟨(x, none), List.mem_map.mpr ⟨x, hx, rfl⟩, e.symm⟩
    exact ⟨K, KX, fd, Z.ltf.map fun x => He.cT K (x, none), _, (fun p hp => let ⟨q, hq, e⟩ := tf hp; e ▸ c.empty q hq), (fun p hp => let ⟨q, hq, e⟩ := tf hp; e ▸ c.out q hq), (fun p hp => let ⟨q, hq, e⟩ := tf hp; e ▸ PySem.W.codeHd_of_K KX (c.hd q hq)), hb, fun H a ns hl _ hH hS => Z.lawZ_low (Z.tabs_start hH) hl hS, fun base h1 h2 h3 => hF base h1 h2 h3⟩

