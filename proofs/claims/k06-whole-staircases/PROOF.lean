import PyProof.Rows.All
import Wide.All
import OpenK.AllK
import Wide.FinOn
import PyProof.EqAt
import PyProof.EqKinds
import PyProof.TupleCall
import HandS.Base
import HandS.Call
import HandS.List
import HandS.Comp
import HandS.Iter
import HandS.Walk
import HandS.Exc
import HandS.Words
import HandS.WordsExc
import HandS.Wide
import HandS.Lambda
import HandS.HeadHook1
import HandS.TupAny
import HandS.IsInst
import HandS.Text
import HandS.TupMul
import HandS.Star
import HandS.More
import KE.GoesMore
import HandS.Zip0
import KE.GoesZip
import KE.GoesEnum
import HandS.Zip
import HandS.Style
import HandS.Codes
import HandS.Defaults
import HandS.HeadEnd
import HandS.Head0
import HandS.Head1
import PySem.Challenge.RW_endlessnets_k06_whole_staircases
import HandS.Head2
import HandS.HeadHook2
import HandS.HeadHook3
import HandS.HeadHook4
import HandS.HeadWalk
import KE.KStateDown
import HandS.Ends
set_option Elab.async false
set_option linter.all false
set_option maxRecDepth 100000
set_option maxHeartbeats 4000000
namespace Z
open PySem PySem.Spec PyProof.Rows L2

/-! ### deep data -/
inductive D where
  | non | bl (b : Bool) | int (i : Int) | str (x : Str)
  | tup (ds : List D) | lst (ds : List D)
  | dct (ks : List Key) (ds : List D)
  | obj (C : Addr) (ns : List Str) (ds : List D)
  | scr (ns : List Int)
/-- what an owned place holds -/
inductive DO where
  | lst (ds : List D)
  | frz (ds : List D)
  | brw (ds : List D)
inductive U where
  | d (x : D)
  | o (k : Nat)
  | t (us : List U)

mutual
inductive At (K : PySem.W.Frag) (M : Addr → Prop) (H : Hp) : V → D → Prop
  | non : At K M H .non .non
  | bl (b : Bool) : At K M H (.bl b) (.bl b)
  | int (i : Int) : At K M H (.int i) (.int i)
  | str (x : Str) : At K M H (.str x) (.str x)
  | tup {a : Addr} {vs : List V} {ds : List D} : H a = some (.tup vs) → ¬ M a → Ats K M H vs ds → At K M H (.ref a) (.tup ds)
  | lst {a : Addr} {vs : List V} {ds : List D} : H a = some (.lst vs) → ¬ M a → Ats K M H vs ds → At K M H (.ref a) (.lst ds)
  | dct {a : Addr} {kvs : List (Key × V)} {ks : List Key} {ds : List D} : H a = some (.dK kvs) → ¬ M a → kvs.map (·.1) = ks → Ats K M H (kvs.map (·.2)) ds → At K M H (.ref a) (.dct ks ds)
  | obj {a C dx : Addr} {fs : List (Str × V)} {ns : List Str} {ds : List D} : H a = some (.ins C dx fs) → ¬ M a → fs.map (·.1) = ns → Ats K M H (fs.map (·.2)) ds → At K M H (.ref a) (.obj C ns ds)
  | scr {a : Addr} {ns : List Int} : Rd H a (.lst (ns.map V.int)) → ¬ M a → At K M H (.ref a) (.scr ns)
  | scrK {a : Addr} {ns : List Int} : (∀ H', SqL K H' a (ns.map V.int)) → At K M H (.ref a) (.scr ns)
inductive Ats (K : PySem.W.Frag) (M : Addr → Prop) (H : Hp) : List V → List D → Prop
  | nil : Ats K M H [] []
  | cons {v : V} {d : D} {vs : List V} {ds : List D} : At K M H v d → Ats K M H vs ds → Ats K M H (v :: vs) (d :: ds)
end
section
variable {K : PySem.W.Frag} {M M' : Addr → Prop} {H H' : Hp}
mutual
theorem At.imp (h : ∀ a o, ¬ M a → H a = some o → (∀ ps, o ≠ .tbl ps) → H' a = some o ∧ ¬ M' a) : ∀ {v : V} {d : D}, At K M H v d → At K M' H' v d
  | _, _, .non => .non
  | _, _, .bl b => .bl b
  | _, _, .int i => .int i
  | _, _, .str x => .str x
  | _, _, .tup e m r => let ⟨e', m'⟩ := h _ _ m e (fun _ z => by cases z); .tup e' m' (Ats.imp h r)
  | _, _, .lst e m r => let ⟨e', m'⟩ := h _ _ m e (fun _ z => by cases z); .lst e' m' (Ats.imp h r)
  | _, _, .dct e m k r => let ⟨e', m'⟩ := h _ _ m e (fun _ z => by cases z); .dct e' m' k (Ats.imp h r)
  | _, _, .obj e m k r => let ⟨e', m'⟩ := h _ _ m e (fun _ z => by cases z); .obj e' m' k (Ats.imp h r)
  | _, _, .scr (.inl e) m => let ⟨e', m'⟩ := h _ _ m e (fun _ z => by cases z); .scr (.inl e') m'
  | _, _, .scr (.inr ⟨o, e⟩) m => let ⟨e', m'⟩ := h _ _ m e (fun _ z => by cases z); .scr (.inr ⟨o, e'⟩) m'
  | _, _, .scrK e => .scrK e
theorem Ats.imp (h : ∀ a o, ¬ M a → H a = some o → (∀ ps, o ≠ .tbl ps) → H' a = some o ∧ ¬ M' a) : ∀ {vs : List V} {ds : List D}, Ats K M H vs ds → Ats K M' H' vs ds
  | _, _, .nil => .nil
  | _, _, .cons a r => .cons (At.imp h a) (Ats.imp h r)
end
theorem Ats.length : ∀ {vs : List V} {ds : List D}, Ats K M H vs ds → vs.length = ds.length
  | _, _, .nil => rfl
  | _, _, .cons _ r => congrArg (· + 1) (Ats.length r)
theorem Ats.get : ∀ {vs : List V} {ds : List D} {i : Nat} {v : V}, Ats K M H vs ds → vs[i]? = some v → ∃ d, ds[i]? = some d ∧ At K M H v d
  | _, _, _, _, .nil, e => by simp at e
  | _, _, 0, _, .cons a _, e => by simp at e; subst e; exact ⟨_, rfl, a⟩
  | _, _, i + 1, v, .cons _ r, e => by
    obtain ⟨d, h1, h2⟩ := Ats.get (i := i) (v := v) r (by simpa using e)
    exact ⟨d, by simpa using h1, h2⟩
theorem Ats.get' : ∀ {vs : List V} {ds : List D} {i : Nat} {d : D}, Ats K M H vs ds → ds[i]? = some d → ∃ v, vs[i]? = some v ∧ At K M H v d
  | _, _, _, _, .nil, e => by simp at e
  | _, _, 0, _, .cons a _, e => by simp at e; subst e; exact ⟨_, rfl, a⟩
  | _, _, i + 1, v, .cons _ r, e => by
    obtain ⟨d, h1, h2⟩ := Ats.get' (i := i) (d := v) r (by simpa using e)
    exact ⟨d, by simpa using h1, h2⟩
theorem Ats.append : ∀ {vs ws : List V} {ds es : List D}, Ats K M H vs ds → Ats K M H ws es → Ats K M H (vs ++ ws) (ds ++ es)
  | _, _, _, _, .nil, s => s
  | _, _, _, _, .cons a r, s => .cons a (Ats.append r s)
theorem Ats.take : ∀ {vs : List V} {ds : List D} (n : Nat), Ats K M H vs ds → Ats K M H (vs.take n) (ds.take n)
  | _, _, 0, _ => .nil
  | _, _, _ + 1, .nil => .nil
  | _, _, n + 1, .cons a r => .cons a (Ats.take n r)
theorem Ats.drop : ∀ {vs : List V} {ds : List D} (n : Nat), Ats K M H vs ds → Ats K M H (vs.drop n) (ds.drop n)
  | _, _, 0, r => r
  | _, _, _ + 1, .nil => .nil
  | _, _, n + 1, .cons _ r => Ats.drop n r
theorem Ats.set {v : V} {d : D} (a : At K M H v d) : ∀ {vs : List V} {ds : List D} (i : Nat), Ats K M H vs ds → Ats K M H (vs.set i v) (ds.set i d)
  | _, _, _, .nil => .nil
  | _, _, 0, .cons _ r => .cons a r
  | _, _, i + 1, .cons b r => .cons b (Ats.set a i r)
theorem Ats.reverse : ∀ {vs : List V} {ds : List D}, Ats K M H vs ds → Ats K M H vs.reverse ds.reverse
  | _, _, .nil => .nil
  | _, _, .cons a r => by
    rw [List.reverse_cons, List.reverse_cons]
    exact (Ats.reverse r).append (.cons a .nil)
theorem Ats.ints : ∀ (ns : List Int), Ats K M H (ns.map V.int) (ns.map D.int)
  | [] => .nil
  | n :: ns => .cons (.int n) (Ats.ints ns)
end

/-! ### owned places: α their addresses, O what they hold; B: what callers own -/
def live : DO → Bool
  | .lst _ => true
  | .frz _ => false
  | .brw _ => true
def hot : DO → Bool
  | .lst _ => true
  | _ => false
theorem hot_live {o : DO} (h : hot o = true) : live o = true := by cases o <;> first | rfl | cases h
/-- the places that may be written here -/
def Ho (α : List Addr) (O : List DO) (a : Addr) : Prop := ∃ (k : Nat) (o : DO), α[k]? = some a ∧ O[k]? = some o ∧ hot o = true
def Ow (α : List Addr) (O : List DO) (a : Addr) : Prop := ∃ (k : Nat) (o : DO), α[k]? = some a ∧ O[k]? = some o ∧ live o = true
def Mu (B : Addr → Prop) (α : List Addr) (O : List DO) (a : Addr) : Prop := B a ∨ Ow α O a
def OAt (K : PySem.W.Frag) (M : Addr → Prop) (H : Hp) (a : Addr) : DO → Prop
  | .lst ds => ∃ vs, H a = some (.lst vs) ∧ Ats K M H vs ds
  | .frz ds => At K M H (.ref a) (.lst ds)
  | .brw ds => ∃ vs, H a = some (.lst vs) ∧ Ats K M H vs ds
theorem Ho.ow {α : List Addr} {O : List DO} {a : Addr} (h : Ho α O a) : Ow α O a := let ⟨k, o, e1, e2, l⟩ := h; ⟨k, o, e1, e2, hot_live l⟩
mutual
inductive AtU (K : PySem.W.Frag) (B : Addr → Prop) (α : List Addr) (O : List DO) (H : Hp) : V → U → Prop
  | d {v : V} {x : D} : At K (Mu B α O) H v x → AtU K B α O H v (.d x)
  | o {k : Nat} {a : Addr} : α[k]? = some a → AtU K B α O H (.ref a) (.o k)
  | t {a : Addr} {vs : List V} {us : List U} : H a = some (.tup vs) → ¬ Mu B α O a → AtUs K B α O H vs us → AtU K B α O H (.ref a) (.t us)
inductive AtUs (K : PySem.W.Frag) (B : Addr → Prop) (α : List Addr) (O : List DO) (H : Hp) : List V → List U → Prop
  | nil : AtUs K B α O H [] []
  | cons {v : V} {u : U} {vs : List V} {us : List U} : AtU K B α O H v u → AtUs K B α O H vs us → AtUs K B α O H (v :: vs) (u :: us)
end
structure Gx where
  K : PySem.W.Frag
  T : List (Addr × Str)
structure Own (G : Gx) (B : Addr → Prop) (α : List Addr) (O : List DO) (H : Hp) : Prop where
  len : α.length = O.length
  nd : α.Nodup
  at_ : ∀ (k : Nat) (a : Addr) (o : DO), α[k]? = some a → O[k]? = some o → OAt G.K (Mu B α O) H a o
  bt : ∀ a, B a → ∃ o, H a = some o
  nb : ∀ a, Ow α O a → ¬ B a
  tabs : LamX.Tabs G.T H
structure Stp (α : List Addr) (O : List DO) (H : Hp) (α' : List Addr) (O' : List DO) (H' : Hp) : Prop where
  pre : ∃ more, α' = α ++ more
  keep : ∀ b o, H b = some o → ¬ Ho α O b → (∀ ps, o ≠ .tbl ps) → H' b = some o
  there : ∀ b, H' b = none → H b = none
  new : ∀ b, Ow α' O' b → Ow α O b ∨ H b = none
  hnew : ∀ b, Ho α' O' b → Ho α O b ∨ H b = none
  fresh : ∀ b, b ∈ α' → b ∈ α ∨ H b = none
section
variable {K : PySem.W.Frag} {G : Gx} {T : List (Addr × Str)} {B : Addr → Prop} {α α' α2 : List Addr} {O O' O2 : List DO} {H H' H2 : Hp}
theorem Stp.refl : Stp α O H α O H := ⟨⟨[], by simp⟩, fun _ _ e _ _ => e, fun _ e => e, fun _ m => .inl m, fun _ m => .inl m, fun _ m => .inl m⟩
theorem Stp.trans (s : Stp α O H α' O' H') (t : Stp α' O' H' α2 O2 H2) : Stp α O H α2 O2 H2 := by
  obtain ⟨m1, e1⟩ := s.pre
  obtain ⟨m2, e2⟩ := t.pre
  refine ⟨⟨m1 ++ m2, by rw [e2, e1, List.append_assoc]⟩, fun b o e m n => ?_, fun b e => s.there b (t.there b e), fun b m => ?_, fun b m => ?_, fun b m => ?_⟩
  · refine t.keep b o (s.keep b o e m n) (fun z => ?_) n
    rcases s.hnew b z with z | z
    · exact m z
    · rw [e] at z; cases z
  · rcases t.new b m with z | z
    · exact s.new b z
    · exact .inr (s.there b z)
  · rcases t.hnew b m with z | z
    · exact s.hnew b z
    · exact .inr (s.there b z)
  · rcases t.fresh b m with z | z
    · exact s.fresh b z
    · exact .inr (s.there b z)
theorem Stp.imp (s : Stp α O H α' O' H') : ∀ a o, ¬ Mu B α O a → H a = some o → (∀ ps, o ≠ .tbl ps) → H' a = some o ∧ ¬ Mu B α' O' a := fun b o m e n =>
  ⟨s.keep b o e (fun z => m (.inr z.ow)) n, fun z => by
    rcases z with z | z
    · exact m (.inl z)
    rcases s.new b z with z | z
    · exact m (.inr z)
    · rw [e] at z; cases z⟩
theorem Stp.at_ (s : Stp α O H α' O' H') {v : V} {d : D} (a : At K (Mu B α O) H v d) : At K (Mu B α' O') H' v d := a.imp s.imp
theorem Stp.ats (s : Stp α O H α' O' H') {vs : List V} {ds : List D} (a : Ats K (Mu B α O) H vs ds) : Ats K (Mu B α' O') H' vs ds := a.imp s.imp
theorem Stp.idx (s : Stp α O H α' O' H') {k : Nat} {a : Addr} (e : α[k]? = some a) : α'[k]? = some a := by
  obtain ⟨m, h⟩ := s.pre
  rw [h, List.getElem?_append_left (List.getElem?_eq_some_iff.mp e).1]
  exact e
mutual
theorem Stp.atU (s : Stp α O H α' O' H') : ∀ {v : V} {u : U}, AtU K B α O H v u → AtU K B α' O' H' v u
  | _, _, .d a => .d (s.at_ a)
  | _, _, .o e => .o (s.idx e)
  | _, _, .t e m r => let ⟨e', m'⟩ := s.imp (B := B) _ _ m e (fun _ z => by cases z); .t e' m' (Stp.atUs s r)
theorem Stp.atUs (s : Stp α O H α' O' H') : ∀ {vs : List V} {us : List U}, AtUs K B α O H vs us → AtUs K B α' O' H' vs us
  | _, _, .nil => .nil
  | _, _, .cons a r => .cons (Stp.atU s a) (Stp.atUs s r)
end
theorem AtUs.length : ∀ {vs : List V} {us : List U}, AtUs K B α O H vs us → vs.length = us.length
  | _, _, .nil => rfl
  | _, _, .cons _ r => congrArg (· + 1) (AtUs.length r)
theorem Ow.some (w : Own G B α O H) {a : Addr} (m : Ow α O a) : ∃ o, H a = some o := by
  obtain ⟨k, o, e1, e2, l⟩ := m
  have h := w.at_ k a o e1 e2
  cases o with
  | lst ds =>
    obtain ⟨vs, e, _⟩ := h
    exact ⟨_, e⟩
  | brw ds =>
    obtain ⟨vs, e, _⟩ := h
    exact ⟨_, e⟩
  | frz d => cases l
theorem Own.mu_ne (w : Own G B α O H) {p : Addr} (hp : H p = none) : ¬ Mu B α O p := fun m => by
  obtain ⟨o, e⟩ := m.elim (w.bt p) (fun m => m.some w)
  rw [hp] at e; cases e
theorem tabs_keep (t : LamX.Tabs T H) (k : ∀ b o, H b = some o → (∃ ps, o = .tbl ps) ∨ (∃ φ, o = .ext φ) → H' b = some o) : LamX.Tabs T H' := fun p hp => by
  obtain ⟨ps, h1, h2, h3⟩ := t p hp
  refine ⟨ps, k _ _ h1 (.inl ⟨_, rfl⟩), h2, fun pos cv hc => ?_⟩
  obtain ⟨c, e1, e2⟩ := h3 pos cv hc
  exact ⟨c, e1, k _ _ e2 (.inr ⟨_, rfl⟩)⟩
/-- a new object that nobody owns -/
theorem stp_new {p : Addr} {o : HO} (hp : H p = none) : Stp α O H α O (upd H p o) :=
  ⟨⟨[], by simp⟩, fun b u e _ _ => by rw [upd_ne (ne_of_none e hp)]; exact e, fun b e => by
    by_cases hb : b = p
    · rw [hb, upd_same] at e; cases e
    · rw [upd_ne hb] at e; exact e, fun b m => .inl m, fun b m => .inl m, fun b m => .inl m⟩
theorem OAt.stp (s : Stp α O H α' O' H') {a : Addr} {o : DO} (h : OAt K (Mu B α O) H a o) (hm : live o = true → H' a = H a) : OAt K (Mu B α' O') H' a o := by
  cases o with
  | lst ds =>
    obtain ⟨vs, e, r⟩ := h
    exact ⟨vs, (hm rfl).trans e, s.ats r⟩
  | brw ds =>
    obtain ⟨vs, e, r⟩ := h
    exact ⟨vs, (hm rfl).trans e, s.ats r⟩
  | frz d => exact s.at_ h
theorem bt_new (h : ∀ a, B a → ∃ o, H a = some o) {p : Addr} {o : HO} : ∀ a, B a → ∃ u, upd H p o a = some u := fun a m => by
  by_cases e : a = p
  · exact ⟨o, by rw [e, upd_same]⟩
  · obtain ⟨u, q⟩ := h a m
    exact ⟨u, by rw [upd_ne e]; exact q⟩
theorem own_new (w : Own G B α O H) {p : Addr} {o : HO} (hp : H p = none) : Own G B α O (upd H p o) := by
  refine ⟨w.len, w.nd, fun k a u e1 e2 => (w.at_ k a u e1 e2).stp (stp_new hp) fun l => ?_, bt_new w.bt, w.nb, tabs_keep w.tabs fun b u e _ => by rw [upd_ne (ne_of_none e hp)]; exact e⟩
  obtain ⟨q, e⟩ := Ow.some w ⟨k, u, e1, e2, l⟩
  exact upd_ne (ne_of_none e hp)
theorem At.tupNew (w : Own G B α O H) {p : Addr} {vs : List V} {ds : List D} (hp : H p = none) (r : Ats G.K (Mu B α O) H vs ds) : At G.K (Mu B α O) (upd H p (.tup vs)) (.ref p) (.tup ds) :=
  .tup upd_same (w.mu_ne hp) ((stp_new hp).ats r)
theorem At.lstNew (w : Own G B α O H) {p : Addr} {vs : List V} {ds : List D} (hp : H p = none) (r : Ats G.K (Mu B α O) H vs ds) : At G.K (Mu B α O) (upd H p (.lst vs)) (.ref p) (.lst ds) :=
  .lst upd_same (w.mu_ne hp) ((stp_new hp).ats r)
/-- an owned list is written -/
theorem ow_set' {k : Nat} {o o' : DO} (e : O[k]? = some o) (l : live o = true) {b : Addr} (m : Ow α (O.set k o') b) : Ow α O b := by
  obtain ⟨j, u, e1, e2, l2⟩ := m
  by_cases hj : j = k
  · subst hj
    exact ⟨j, o, e1, e, l⟩
  · rw [List.getElem?_set_ne (Ne.symm hj)] at e2
    exact ⟨j, u, e1, e2, l2⟩
theorem ho_set' {k : Nat} {o o' : DO} (e : O[k]? = some o) (l : hot o' = true → hot o = true) {b : Addr} (m : Ho α (O.set k o') b) : Ho α O b := by
  obtain ⟨j, u, e1, e2, l2⟩ := m
  by_cases hj : j = k
  · subst hj
    rw [List.getElem?_set_self (List.getElem?_eq_some_iff.mp e).1] at e2
    cases e2
    exact ⟨j, o, e1, e, l l2⟩
  · rw [List.getElem?_set_ne (Ne.symm hj)] at e2
    exact ⟨j, u, e1, e2, l2⟩
theorem stp_set {k : Nat} {a : Addr} {o : DO} {ds' : List D} {vs : List V} (e1 : α[k]? = some a) (e2 : O[k]? = some o) (l : hot o = true) : Stp α O H α (O.set k (.lst ds')) (upd H a (.lst vs)) := by
  have mu : Ho α O a := ⟨k, _, e1, e2, l⟩
  refine ⟨⟨[], by simp⟩, fun b u e m _ => ?_, fun b e => ?_, fun b m => .inl (ow_set' e2 (hot_live l) m), fun b m => .inl (ho_set' e2 (fun _ => l) m), fun b m => .inl m⟩
  · rw [upd_ne (fun z : b = a => m (by rw [z]; exact mu))]; exact e
  · by_cases hb : b = a
    · rw [hb, upd_same] at e; cases e
    · rw [upd_ne hb] at e; exact e
theorem nodup_at {l : List Addr} (nd : l.Nodup) {i j : Nat} {a : Addr} (h1 : l[i]? = some a) (h2 : l[j]? = some a) : i = j := by
  obtain ⟨b1, e1⟩ := List.getElem?_eq_some_iff.mp h1
  obtain ⟨b2, e2⟩ := List.getElem?_eq_some_iff.mp h2
  exact (List.getElem_inj nd).mp (e1.trans e2.symm)
theorem own_set (w : Own G B α O H) {k : Nat} {a : Addr} {ds ds' : List D} {vs : List V} (e1 : α[k]? = some a) (e2 : O[k]? = some (.lst ds)) (r : Ats G.K (Mu B α O) H vs ds') : Own G B α (O.set k (.lst ds')) (upd H a (.lst vs)) := by
  obtain ⟨vs0, h0, _⟩ := w.at_ k a _ e1 e2
  have s : Stp α O H α (O.set k (.lst ds')) (upd H a (.lst vs)) := stp_set e1 e2 rfl
  refine ⟨by rw [List.length_set]; exact w.len, w.nd, fun j b u f1 f2 => ?_, bt_new w.bt, fun b m => w.nb b (ow_set' e2 rfl m), tabs_keep w.tabs fun b u e z => ?_⟩
  · by_cases hj : j = k
    · subst hj
      rw [e1] at f1; cases f1
      rw [List.getElem?_set_self (List.getElem?_eq_some_iff.mp e2).1] at f2
      cases f2
      exact ⟨vs, upd_same, s.ats r⟩
    · rw [List.getElem?_set_ne (Ne.symm hj)] at f2
      refine (w.at_ j b u f1 f2).stp s fun l => upd_ne fun z => hj (nodup_at w.nd (z ▸ f1) e1)
  · refine (upd_ne fun q => ?_).trans e
    rw [q, h0] at e
    cases e
    rcases z with ⟨_, z⟩ | ⟨_, z⟩ <;> cases z
/-- a new owned list -/
theorem get_snoc {β : Type} {l : List β} {x : β} {j : Nat} {b : β} (h : (l ++ [x])[j]? = some b) : (l[j]? = some b) ∨ (j = l.length ∧ b = x) := by
  by_cases hj : j < l.length
  · rw [List.getElem?_append_left hj] at h; exact .inl h
  · rw [List.getElem?_append_right (by omega)] at h
    obtain ⟨h1, h2⟩ := List.getElem?_eq_some_iff.mp h
    have : j - l.length = 0 := by simpa using h1
    refine .inr ⟨by omega, ?_⟩
    rw [← h2]
    simp [this]
theorem ow_snoc' (w : Own G B α O H) {p : Addr} {o : DO} {b : Addr} (m : Ow (α ++ [p]) (O ++ [o]) b) : Ow α O b ∨ b = p := by
  obtain ⟨j, u, e1, e2, l⟩ := m
  rcases get_snoc e1 with e1 | ⟨e1, eb⟩
  · rcases get_snoc e2 with e2 | ⟨e2, _⟩
    · exact .inl ⟨j, u, e1, e2, l⟩
    · exfalso
      have := (List.getElem?_eq_some_iff.mp e1).1
      rw [w.len] at this
      omega
  · exact .inr eb
theorem ho_snoc' (w : Own G B α O H) {p : Addr} {o : DO} {b : Addr} (m : Ho (α ++ [p]) (O ++ [o]) b) : Ho α O b ∨ b = p := by
  obtain ⟨j, u, e1, e2, l⟩ := m
  rcases get_snoc e1 with e1 | ⟨e1, eb⟩
  · rcases get_snoc e2 with e2 | ⟨e2, _⟩
    · exact .inl ⟨j, u, e1, e2, l⟩
    · exfalso
      have := (List.getElem?_eq_some_iff.mp e1).1
      rw [w.len] at this
      omega
  · exact .inr eb
theorem stp_own (w : Own G B α O H) {p : Addr} {ds : List D} {vs : List V} (hp : H p = none) : Stp α O H (α ++ [p]) (O ++ [.lst ds]) (upd H p (.lst vs)) :=
  ⟨⟨[p], rfl⟩, fun b u e _ _ => by rw [upd_ne (ne_of_none e hp)]; exact e, fun b e => by
    by_cases hb : b = p
    · rw [hb, upd_same] at e; cases e
    · rw [upd_ne hb] at e; exact e, fun b m => by
    rcases ow_snoc' w m with m | rfl
    · exact .inl m
    · exact .inr hp, fun b m => by
    rcases ho_snoc' w m with m | rfl
    · exact .inl m
    · exact .inr hp, fun b m => by
    rcases List.mem_append.mp m with m | m
    · exact .inl m
    · exact .inr (by rw [List.mem_singleton.mp m]; exact hp)⟩
theorem own_fresh (w : Own G B α O H) {p : Addr} (hp : H p = none) : p ∉ α := fun hm => by
  obtain ⟨k, hk, e⟩ := List.mem_iff_getElem.mp hm
  have ek : α[k]? = some p := by rw [List.getElem?_eq_getElem hk, e]
  have hk2 : k < O.length := by rw [← w.len]; exact hk
  have h := w.at_ k p O[k] ek (List.getElem?_eq_getElem hk2)
  cases q : O[k] with
  | lst es =>
    rw [q] at h
    obtain ⟨_, e2, _⟩ := h
    rw [hp] at e2; cases e2
  | brw es =>
    rw [q] at h
    obtain ⟨_, e2, _⟩ := h
    rw [hp] at e2; cases e2
  | frz d =>
    rw [q] at h
    have h2 : At G.K (Mu B α O) H (.ref p) (.lst d) := h
    cases h2 with
    | lst e _ _ => rw [hp] at e; cases e
theorem own_own (w : Own G B α O H) {p : Addr} {ds : List D} {vs : List V} (hp : H p = none) (r : Ats G.K (Mu B α O) H vs ds) : Own G B (α ++ [p]) (O ++ [.lst ds]) (upd H p (.lst vs)) := by
  have s := stp_own (ds := ds) (vs := vs) w hp
  have np := own_fresh w hp
  refine ⟨by simp [w.len], ?_, fun j b u f1 f2 => ?_, bt_new w.bt, fun b m => (ow_snoc' w m).elim (w.nb b) (fun z hb => w.mu_ne hp (.inl (z ▸ hb))), tabs_keep w.tabs fun b u e _ => by rw [upd_ne (ne_of_none e hp)]; exact e⟩
  · rw [List.nodup_append]
    refine ⟨w.nd, by simp, fun a ha b hb => ?_⟩
    rw [List.mem_singleton.mp hb]
    exact fun z => np (z ▸ ha)
  · rcases get_snoc f2 with f2 | ⟨f2, rfl⟩
    · rcases get_snoc f1 with f1 | ⟨f1, _⟩
      · refine (w.at_ j b u f1 f2).stp s fun l => ?_
        obtain ⟨q, e⟩ := Ow.some w ⟨j, u, f1, f2, l⟩
        exact upd_ne (ne_of_none e hp)
      · exfalso
        have := (List.getElem?_eq_some_iff.mp f2).1
        rw [← w.len] at this
        omega
    · rcases get_snoc f1 with f1 | ⟨_, rfl⟩
      · exfalso
        have := (List.getElem?_eq_some_iff.mp f1).1
        rw [w.len] at this
        omega
      · exact ⟨vs, upd_same, s.ats r⟩
theorem atU_own (w : Own G B α O H) {p : Addr} {O' : List DO} {H' : Hp} : AtU G.K B (α ++ [p]) O' H' (.ref p) (.o O.length) :=
  .o (by rw [← w.len]; simp)
/-- an owned list is owned no longer -/
theorem stp_frz {k : Nat} {o : DO} {d : List D} (e2 : O[k]? = some o) (l : live o = true) : Stp α O H α (O.set k (.frz d)) H :=
  ⟨⟨[], by simp⟩, fun b u e _ _ => e, fun b e => e, fun b m => .inl (ow_set' e2 l m), fun b m => .inl (ho_set' e2 (fun z => by cases z) m), fun b m => .inl m⟩
theorem own_frz (w : Own G B α O H) {k : Nat} {ds : List D} (e2 : O[k]? = some (.lst ds)) : Own G B α (O.set k (.frz ds)) H := by
  have s : Stp α O H α (O.set k (.frz ds)) H := stp_frz e2 rfl
  refine ⟨by rw [List.length_set]; exact w.len, w.nd, fun j b u f1 f2 => ?_, w.bt, fun b m => w.nb b (ow_set' e2 rfl m), w.tabs⟩
  by_cases hj : j = k
  · subst hj
    rw [List.getElem?_set_self (List.getElem?_eq_some_iff.mp e2).1] at f2
    cases f2
    obtain ⟨vs, h, r⟩ := w.at_ j b _ f1 e2
    refine .lst h (fun m => ?_) (s.ats r)
    rcases m with m | m
    · exact w.nb b ⟨j, _, f1, e2, rfl⟩ m
    obtain ⟨i, u, g1, g2, l⟩ := m
    have := nodup_at w.nd g1 f1
    subst this
    rw [List.getElem?_set_self (List.getElem?_eq_some_iff.mp e2).1] at g2
    cases g2
    cases l
  · rw [List.getElem?_set_ne (Ne.symm hj)] at f2
    exact (w.at_ j b u f1 f2).stp s fun _ => rfl
/-- the first places alone -/
theorem take_some {β : Type} {l : List β} {n j : Nat} {b : β} (h : (l.take n)[j]? = some b) : l[j]? = some b := by
  rw [List.getElem?_take] at h
  split at h
  · exact h
  · cases h
theorem ow_take {n : Nat} {b : Addr} (m : Ow (α.take n) (O.take n) b) : Ow α O b := by
  obtain ⟨j, u, e1, e2, l⟩ := m
  exact ⟨j, u, take_some e1, take_some e2, l⟩
theorem ho_take {n : Nat} {b : Addr} (m : Ho (α.take n) (O.take n) b) : Ho α O b := by
  obtain ⟨j, u, e1, e2, l⟩ := m
  exact ⟨j, u, take_some e1, take_some e2, l⟩
theorem At.less {M M' : Addr → Prop} (h : ∀ a, M' a → M a) {v : V} {d : D} (a : At K M H v d) : At K M' H v d := a.imp fun b o m e _ => ⟨e, fun z => m (h b z)⟩
theorem Ats.less {M M' : Addr → Prop} (h : ∀ a, M' a → M a) {vs : List V} {ds : List D} (a : Ats K M H vs ds) : Ats K M' H vs ds := a.imp fun b o m e _ => ⟨e, fun z => m (h b z)⟩
theorem OAt.less {M M' : Addr → Prop} (h : ∀ a, M' a → M a) {a : Addr} {o : DO} (q : OAt K M H a o) : OAt K M' H a o := by
  cases o with
  | lst ds =>
    obtain ⟨vs, e, r⟩ := q
    exact ⟨vs, e, r.less h⟩
  | brw ds =>
    obtain ⟨vs, e, r⟩ := q
    exact ⟨vs, e, r.less h⟩
  | frz d => exact At.less h q
theorem mu_take {n : Nat} {b : Addr} (m : Mu B (α.take n) (O.take n) b) : Mu B α O b := m.elim .inl fun m => .inr (ow_take m)
theorem own_take (w : Own G B α O H) (n : Nat) : Own G B (α.take n) (O.take n) H :=
  ⟨by rw [List.length_take, List.length_take, w.len], w.nd.sublist (List.take_sublist _ _), fun k a o e1 e2 => (w.at_ k a o (take_some e1) (take_some e2)).less fun _ => mu_take, w.bt, fun b m => w.nb b (ow_take m), w.tabs⟩
theorem stp_take (s : Stp α O H α' O' H') (w : Own G B α O H) : Stp α O H α (O'.take α.length) H' ∧ α'.take α.length = α := by
  obtain ⟨m, e⟩ := s.pre
  have e2 : α'.take α.length = α := by rw [e, List.take_left' rfl]
  refine ⟨⟨⟨[], by simp⟩, s.keep, s.there, fun b h => s.new b (ow_take (n := α.length) ?_), fun b h => s.hnew b (ho_take (n := α.length) ?_), fun b m => .inl m⟩, e2⟩
  · rw [e2]
    exact h
  · rw [e2]
    exact h
end
end Z

set_option Elab.async false
set_option linter.all false
set_option maxRecDepth 100000
set_option maxHeartbeats 4000000
namespace Z
open PySem PySem.Spec PyProof.Rows L2

/-! ### slots -/
def gt : List (Option U) → Nat → Option U
  | [], _ => none
  | x :: _, 0 => x
  | _ :: r, n + 1 => gt r n
def st : List (Option U) → Nat → U → List (Option U)
  | [], _, _ => []
  | _ :: r, 0, u => some u :: r
  | x :: r, n + 1, u => x :: st r n u
theorem gt_st : ∀ (ρ : List (Option U)) (i j : Nat) (u w : U), gt (st ρ i u) j = some w → (j = i ∧ w = u) ∨ (j ≠ i ∧ gt ρ j = some w)
  | [], _, _, _, _, h => by cases h
  | _ :: _, 0, 0, u, w, h => by
    have h2 : some u = some w := h
    cases h2
    exact .inl ⟨rfl, rfl⟩
  | _ :: _, 0, j + 1, u, w, h => .inr ⟨by omega, h⟩
  | _ :: _, i + 1, 0, u, w, h => .inr ⟨by omega, h⟩
  | _ :: r, i + 1, j + 1, u, w, h => by
    rcases gt_st r i j u w h with ⟨a, b⟩ | ⟨a, b⟩
    · exact .inl ⟨by omega, b⟩
    · exact .inr ⟨by omega, b⟩
def go : List DO → Nat → Option DO
  | [], _ => none
  | x :: _, 0 => some x
  | _ :: r, n + 1 => go r n
theorem go_eq : ∀ (O : List DO) (k : Nat), go O k = O[k]?
  | [], _ => by simp [go]
  | _ :: _, 0 => by simp [go]
  | _ :: r, n + 1 => by simp [go, go_eq r n]
def so : List DO → Nat → DO → List DO
  | [], _, _ => []
  | _ :: r, 0, u => u :: r
  | x :: r, n + 1, u => x :: so r n u
theorem so_eq : ∀ (O : List DO) (k : Nat) (u : DO), so O k u = O.set k u
  | [], _, _ => by simp [so]
  | _ :: _, 0, _ => by simp [so]
  | _ :: r, n + 1, u => by simp [so, so_eq r n u]
/-- .. as data that stays -/
def frzAt (O : List DO) (k : Nat) : Option D := match go O k with
  | some (.frz ds) => some (.lst ds)
  | _ => none
mutual
def toD (O : List DO) : U → Option D
  | .d x => some x
  | .o k => frzAt O k
  | .t us => match toDs O us with
    | some ds => some (.tup ds)
    | none => none
def toDs (O : List DO) : List U → Option (List D)
  | [] => some []
  | u :: us => match toD O u with
    | some d => (match toDs O us with
      | some ds => some (d :: ds)
      | none => none)
    | none => none
end
/-- a value as data -/
def nrm (O : List DO) : U → Option D
  | .d x => some x
  | .o k => match go O k with
    | some (.lst ds) => some (.lst ds)
    | some (.frz ds) => some (.lst ds)
    | some (.brw ds) => some (.lst ds)
    | none => none
  | .t us => toD O (.t us)
structure Exc where
  cls : Str
  fs : List (Str × D)
abbrev ZQ := List U → List DO → Prop
abbrev ZX := Exc → List DO → Prop
abbrev ZE := ZX → List (Option U) → List DO → ZQ → Prop

inductive Vw (K : PySem.W.Frag) (M : Addr → Prop) (H : Hp) : V → D → Prop
  | at_ {v : V} {d : D} : At K M H v d → Vw K M H v d
  | own {a : Addr} {vs : List V} {ds : List D} : H a = some (.lst vs) → Ats K M H vs ds → Vw K M H (.ref a) (.lst ds)
section
variable {K : PySem.W.Frag} {M : Addr → Prop} {H : Hp} {v : V}
theorem Vw.lst {ds : List D} (h : Vw K M H v (.lst ds)) : ∃ a vs, v = .ref a ∧ H a = some (.lst vs) ∧ Ats K M H vs ds := by
  cases h with
  | at_ h => cases h with
    | lst e m r => exact ⟨_, _, rfl, e, r⟩
  | own e r => exact ⟨_, _, rfl, e, r⟩
theorem Vw.tup {ds : List D} (h : Vw K M H v (.tup ds)) : ∃ a vs, v = .ref a ∧ H a = some (.tup vs) ∧ Ats K M H vs ds := by
  cases h with
  | at_ h => cases h with
    | tup e m r => exact ⟨_, _, rfl, e, r⟩
theorem Vw.int {i : Int} (h : Vw K M H v (.int i)) : v = .int i := by
  cases h with
  | at_ h => cases h; rfl
theorem Vw.bl {i : Bool} (h : Vw K M H v (.bl i)) : v = .bl i := by
  cases h with
  | at_ h => cases h; rfl
theorem Vw.str {i : Str} (h : Vw K M H v (.str i)) : v = .str i := by
  cases h with
  | at_ h => cases h; rfl
theorem Vw.non (h : Vw K M H v .non) : v = .non := by
  cases h with
  | at_ h => cases h; rfl
theorem Vw.scr {ns : List Int} (h : Vw K M H v (.scr ns)) : ∃ a, v = .ref a ∧ SqL K H a (ns.map V.int) := by
  cases h with
  | at_ h => cases h with
    | scr e m => exact ⟨_, rfl, .inl e⟩
    | scrK e => exact ⟨_, rfl, e H⟩
end
section
variable {G : Gx} {B : Addr → Prop} {α α' : List Addr} {O O' : List DO} {H H' : Hp}
theorem At.frz (w : Own G B α O H) {k : Nat} {a : Addr} {d : D} (e1 : α[k]? = some a) (e : frzAt O k = some d) : At G.K (Mu B α O) H (.ref a) d := by
  unfold frzAt at e
  rw [go_eq] at e
  cases q : O[k]? with
  | none => rw [q] at e; cases e
  | some o =>
    rw [q] at e
    have h := w.at_ k a o e1 q
    cases o with
    | lst ds => cases e
    | brw ds => cases e
    | frz ds =>
      cases e
      exact h
mutual
theorem At.of (w : Own G B α O H) : ∀ {u : U} {v : V} {d : D}, AtU G.K B α O H v u → toD O u = some d → At G.K (Mu B α O) H v d
  | .d x, v, d, h, e => by
    rw [toD] at e
    cases e
    cases h with
    | d a => exact a
  | .o k, v, d, h, e => by
    rw [toD] at e
    cases h with
    | o e1 => exact At.frz w e1 e
  | .t us, v, d, h, e => by
    rw [toD] at e
    cases h with
    | t e1 m r =>
      cases q : toDs O us with
      | none => rw [q] at e; cases e
      | some ds =>
        rw [q] at e
        cases e
        exact .tup e1 m (Ats.of w r q)
theorem Ats.of (w : Own G B α O H) : ∀ {us : List U} {vs : List V} {ds : List D}, AtUs G.K B α O H vs us → toDs O us = some ds → Ats G.K (Mu B α O) H vs ds
  | [], _, _, h, e => by
    rw [toDs] at e
    cases e
    cases h
    exact .nil
  | u :: us, _, _, h, e => by
    rw [toDs] at e
    cases h with
    | cons a r =>
      cases q : toD O u with
      | none => rw [q] at e; cases e
      | some d =>
        rw [q] at e
        cases q2 : toDs O us with
        | none => rw [q2] at e; cases e
        | some ds =>
          rw [q2] at e
          cases e
          exact .cons (At.of w a q) (Ats.of w r q2)
end
theorem Vw.of (w : Own G B α O H) {v : V} {u : U} {d : D} (a : AtU G.K B α O H v u) (e : nrm O u = some d) : Vw G.K (Mu B α O) H v d := by
  cases u with
  | d x =>
    cases e
    cases a with
    | d a => exact .at_ a
  | o k =>
    cases a with
    | @o _ b e1 =>
    have e' : (match go O k with
      | some (.lst ds) => some (D.lst ds)
      | some (.frz ds) => some (.lst ds)
      | some (.brw ds) => some (.lst ds)
      | none => none) = some d := e
    rw [go_eq] at e'
    cases q : O[k]? with
    | none => rw [q] at e'; cases e'
    | some o =>
      rw [q] at e'
      have h := w.at_ k b o e1 q
      cases o with
      | lst ds =>
        cases e'
        obtain ⟨vs, h1, h2⟩ := h
        exact .own h1 h2
      | brw ds =>
        cases e'
        obtain ⟨vs, h1, h2⟩ := h
        exact .own h1 h2
      | frz ds =>
        cases e'
        exact .at_ h
  | t us => exact .at_ (At.of w a e)
end

/-! ### the state against the slots; exceptions -/
structure Rep (G : Gx) (B : Addr → Prop) (α : List Addr) (σ : L2.St) (H : Hp) (ρ : List (Option U)) (O : List DO) : Prop where
  vars : ∀ i u, gt ρ i = some u → ∃ v, σ[i]? = some (some v) ∧ AtU G.K B α O H v u
  own : Own G B α O H
  len : ρ.length ≤ σ.length
def ExAt (G : Gx) (M : Addr → Prop) (x : Exc) (cls : Value) (d : Option Addr) (H : Hp) : Prop :=
  cls = .ref (He.ga G.K x.cls) ∧ ∃ dx fs, d = some dx ∧ H dx = some (.xd fs) ∧ ¬ M dx ∧ fs.map (·.1) = x.fs.map (·.1) ∧ Ats G.K M H (fs.map (·.2)) (x.fs.map (·.2))
/-- the wish E0 is served by the wish W0 from here on -/
def ELow (G : Gx) (B : Addr → Prop) (W0 : XK) (α : List Addr) (O : List DO) (H : Hp) (E0 : ZX) : Prop :=
  ∀ x O', E0 x O' → ∀ α' cls dd H', Stp α O H α' O' H' → Own G B α' O' H' → ExAt G (Mu B α' O') x cls dd H' → W0 cls dd H'
def QLow (G : Gx) (B : Addr → Prop) (α : List Addr) (O : List DO) (H : Hp) (Q0 : ZQ) (Q : VK) : Prop :=
  ∀ us O', Q0 us O' → ∃ u, us = [u] ∧ ∀ α' v H', Stp α O H α' O' H' → Own G B α' O' H' → AtU G.K B α' O' H' v u → Q v H'
def ALow (G : Gx) (B : Addr → Prop) (α : List Addr) (O : List DO) (H : Hp) (Q0 : ZQ) (Q : List V → Hp → Prop) : Prop :=
  ∀ us O', Q0 us O' → ∀ α' vs H', Stp α O H α' O' H' → Own G B α' O' H' → AtUs G.K B α' O' H' vs us → Q vs H'
def BLow (G : Gx) (B : Addr → Prop) (α : List Addr) (O : List DO) (H : Hp) (Q0 : ZQ) (Q : Bool → Hp → Prop) : Prop :=
  ∀ us O', Q0 us O' → ∃ b, us = [.d (.bl b)] ∧ ∀ α' H', Stp α O H α' O' H' → Own G B α' O' H' → Q b H'
section
variable {G : Gx} {B : Addr → Prop} {α α' : List Addr} {O O' : List DO} {H H' : Hp} {W0 : XK} {E0 : ZX} {ρ : List (Option U)} {σ : L2.St}
theorem Rep.stp (r : Rep G B α σ H ρ O) (s : Stp α O H α' O' H') (w : Own G B α' O' H') : Rep G B α' σ H' ρ O' :=
  ⟨fun i u e => let ⟨v, h1, h2⟩ := r.vars i u e; ⟨v, h1, s.atU h2⟩, w, r.len⟩
theorem ELow.stp (h : ELow G B W0 α O H E0) (s : Stp α O H α' O' H') : ELow G B W0 α' O' H' E0 :=
  fun x O2 e α2 cls dd H2 s2 w2 q => h x O2 e α2 cls dd H2 (s.trans s2) w2 q
end

/-- an expression's reading by data -/
def LfE (G : Gx) (W0 : XK) (t : ZE) : TE := fun σ H Q => ∃ B α ρ O Q0 E0, Rep G B α σ H ρ O ∧ t E0 ρ O Q0 ∧ QLow G B α O H Q0 Q ∧ ELow G B W0 α O H E0
def LfT (G : Gx) (W0 : XK) (t : ZE) : TT := fun σ H Q => ∃ B α ρ O Q0 E0, Rep G B α σ H ρ O ∧ t E0 ρ O Q0 ∧ BLow G B α O H Q0 Q ∧ ELow G B W0 α O H E0
def LfA (G : Gx) (W0 : XK) (t : ZE) : TA := fun σ H Q => ∃ B α ρ O Q0 E0, Rep G B α σ H ρ O ∧ t E0 ρ O Q0 ∧ ALow G B α O H Q0 Q ∧ ELow G B W0 α O H E0
theorem pe_imp {X : Cx} {e : Expr} {t t' : TE} (h : PE X e t) (i : ∀ σ H Q, t' σ H Q → t σ H Q) : PE X e t' := ⟨fun pins s σ H Q I q => h.run pins s σ H Q I (i σ H Q q)⟩
theorem pt_imp {X : Cx} {e : Expr} {t t' : TT} (h : PT X e t) (i : ∀ σ H Q, t' σ H Q → t σ H Q) : PT X e t' := ⟨fun pins s σ H Q I q => h.run pins s σ H Q I (i σ H Q q)⟩
theorem pw_imp {X : Cx} {e : Expr} {t t' : TT} (h : PW X e t) (i : ∀ σ H Q, t' σ H Q → t σ H Q) : PW X e t' := ⟨fun wh pins s σ H Q I q => h.run wh pins s σ H Q I (i σ H Q q)⟩
theorem pa_imp {X : Cx} {e : List Expr} {t t' : TA} (h : PA X e t) (i : ∀ σ H Q, t' σ H Q → t σ H Q) : PA X e t' := ⟨fun pos pins s σ H Q I q => h.run pos pins s σ H Q I (i σ H Q q)⟩
abbrev SE (X : Cx) (G : Gx) (W0 : XK) (e : Expr) (t : ZE) : Prop := PE X e (LfE G W0 t)
abbrev ST (X : Cx) (G : Gx) (W0 : XK) (e : Expr) (t : ZE) : Prop := PT X e (LfT G W0 t)
abbrev SA (X : Cx) (G : Gx) (W0 : XK) (e : List Expr) (t : ZE) : Prop := PA X e (LfA G W0 t)

/-! ### operations on data -/
def addD : D → D → (D → Prop) → Prop
  | .int i, .int j, Q => Q (.int (i + j))
  | .str a, .str b, Q => a.length + b.length ≤ sizeLine ∧ Q (.str (a ++ b))
  | .lst a, .lst b, Q => a.length + b.length ≤ sizeLine ∧ Q (.lst (a ++ b))
  | .tup a, .tup b, Q => a.length + b.length ≤ sizeLine ∧ Q (.tup (a ++ b))
  | _, _, _ => False
def subD : D → D → (D → Prop) → Prop
  | .int i, .int j, Q => Q (.int (i - j))
  | _, _, _ => False
/-- two factors of together less than a million bits -/
def MulOk (i j : Int) : Prop := IntMulOk i j
theorem op_mulX {X : Cx} : OpR X (binaryOp .Mult) (rI IntMulOk fun i j => .int (i * j)) := opI fun _ _ _ _ _ _ _ hc q => mul_int q hc
theorem mulOk_bits {i j : Int} {a b : Nat} (ha : i.natAbs < 2 ^ a) (hb : j.natAbs < 2 ^ b) (h0 : 0 < a) (h1 : 0 < b) (h : a + b ≤ 1000000) : MulOk i j := (wide_mul ha hb h0 h1 h).ok
theorem mulOk_r {i j : Int} (h1 : -(2 ^ 64) < j) (h2 : j < 2 ^ 64) : MulOk i j := CMul.ok (.inr ⟨h1, h2⟩)
theorem mulOk_l {i j : Int} (h1 : -(2 ^ 64) < i) (h2 : i < 2 ^ 64) : MulOk i j := CMul.ok (.inl ⟨h1, h2⟩)
def mulD : D → D → (D → Prop) → Prop
  | .int i, .int j, Q => MulOk i j ∧ Q (.int (i * j))
  | .lst a, .int k, Q => (-(2 ^ 63) ≤ k ∧ k < 2 ^ 63 ∧ a.length * k.toNat ≤ sizeLine) ∧ Q (.lst (List.replicate k.toNat a).flatten)
  | .tup a, .int k, Q => (1 ≤ k ∧ k ≤ 1000 ∧ a ≠ [] ∧ a.length ≤ 1000) ∧ Q (.tup (List.replicate k.toNat a).flatten)
  | _, _, _ => False
def DivOk (j : Int) : Prop := j ≠ 0 ∧ j.natAbs.log2 < 9000
def fdivD : D → D → (D → Prop) → Prop
  | .int i, .int j, Q => DivOk j ∧ Q (.int (i.fdiv j))
  | _, _, _ => False
def modD : D → D → (D → Prop) → Prop
  | .int i, .int j, Q => j ≠ 0 ∧ Q (.int (i.fmod j))
  | _, _, _ => False
def powD : D → D → (D → Prop) → Prop
  | .int i, .int j, Q => CPow i j ∧ Q (.int (i ^ j.toNat))
  | _, _, _ => False
def binD : Operator → D → D → (D → Prop) → Prop
  | .Add => addD
  | .Sub => subD
  | .Mult => mulD
  | .FloorDiv => fdivD
  | .Mod => modD
  | .Pow => powD
  | _ => fun _ _ _ => False
/-- an operation on values that makes new data -/
def rB (G : Gx) (op : D → D → (D → Prop) → Prop) : R2 := fun v w H Q => ∃ B α O x y Q0, Own G B α O H ∧ Vw G.K (Mu B α O) H v x ∧ Vw G.K (Mu B α O) H w y ∧ op x y Q0 ∧
  ∀ z, Q0 z → ∀ v' H', Stp α O H α O H' → Own G B α O H' → At G.K (Mu B α O) H' v' z → Q v' H'
section
variable {X : Cx} {G : Gx}
theorem rb_new {B : Addr → Prop} {α : List Addr} {O : List DO} {H : Hp} (w : Own G B α O H) {Q0 : D → Prop} {Q : VK} {z : D} (h0 : Q0 z)
    (hq : ∀ z, Q0 z → ∀ v' H', Stp α O H α O H' → Own G B α O H' → At G.K (Mu B α O) H' v' z → Q v' H') {v : V} (a : At G.K (Mu B α O) H v z) : Q v H := hq z h0 v H Stp.refl w a
theorem rb_lst {B : Addr → Prop} {α : List Addr} {O : List DO} {H : Hp} (w : Own G B α O H) {Q0 : D → Prop} {Q : VK} {ds : List D} {vs : List V} (h0 : Q0 (.lst ds))
    (hq : ∀ z, Q0 z → ∀ v' H', Stp α O H α O H' → Own G B α O H' → At G.K (Mu B α O) H' v' z → Q v' H') (r : Ats G.K (Mu B α O) H vs ds) : ∀ p, H p = none → Q (.ref p) (upd H p (.lst vs)) := fun p hp =>
  hq _ h0 _ _ (stp_new hp) (own_new w hp) (At.lstNew w hp r)
theorem rb_tup {B : Addr → Prop} {α : List Addr} {O : List DO} {H : Hp} (w : Own G B α O H) {Q0 : D → Prop} {Q : VK} {ds : List D} {vs : List V} (h0 : Q0 (.tup ds))
    (hq : ∀ z, Q0 z → ∀ v' H', Stp α O H α O H' → Own G B α O H' → At G.K (Mu B α O) H' v' z → Q v' H') (r : Ats G.K (Mu B α O) H vs ds) : ∀ p, H p = none → Q (.ref p) (upd H p (.tup vs)) := fun p hp =>
  hq _ h0 _ _ (stp_new hp) (own_new w hp) (At.tupNew w hp r)
theorem op_fdivX : OpR X (binaryOp .FloorDiv) (rI (fun _ j => DivOk j) fun i j => .int (i.fdiv j)) := opI fun _ _ _ _ _ _ _ hc q => floordiv_int hc.1 q (.inl (PyProof.noPylong_of_log2 hc.2))
/-- a quotient that is told without the long way -/
def DivQ (i j : Int) : Prop := j ≠ 0 ∧ Builtin.divisionGoesByPylong i j = false
def fdqD : D → D → (D → Prop) → Prop
  | .int i, .int j, Q => DivQ i j ∧ Q (.int (i.fdiv j))
  | _, _, _ => False
theorem op_fdq : OpR X (binaryOp .FloorDiv) (rI DivQ fun i j => .int (i.fdiv j)) := opI fun _ _ _ _ _ _ _ hc q => floordiv_int hc.1 q (.inl hc.2)
theorem ats_rep {B : Addr → Prop} {α : List Addr} {O : List DO} {H : Hp} {ds : List D} {vs : List V} (r : Ats G.K (Mu B α O) H vs ds) : ∀ k, Ats G.K (Mu B α O) H (List.replicate k vs).flatten (List.replicate k ds).flatten
  | 0 => .nil
  | k + 1 => by
    rw [List.replicate_succ, List.replicate_succ, List.flatten_cons, List.flatten_cons]
    exact r.append (ats_rep r k)
theorem opr_add (hK : X.K = G.K) : OpR X (binaryOp .Add) (rB G addD) := by
  intro pins s σ H v w v' w' Q I rv rw' ⟨B, α, O, x, y, Q0, ow, ax, ay, h, hq⟩
  cases x with
  | int i =>
    cases y with
    | int j =>
      obtain rfl := ax.int
      obtain rfl := ay.int
      exact op_add pins s σ H _ _ v' w' Q I rv rw' ⟨i, j, rfl, rfl, rb_new ow h hq (.int _)⟩
    | _ => exact h.elim
  | str i =>
    cases y with
    | str j =>
      obtain rfl := ax.str
      obtain rfl := ay.str
      exact op_add_str pins s σ H _ _ v' w' Q I rv rw' ⟨i, j, rfl, rfl, h.1, rb_new ow h.2 hq (.str _)⟩
    | _ => exact h.elim
  | lst i =>
    cases y with
    | lst j =>
      obtain ⟨a, vs, rfl, e, r⟩ := ax.lst
      obtain ⟨b, ws, rfl, e2, r2⟩ := ay.lst
      exact op_cat pins s σ H _ _ v' w' Q I rv rw' ⟨a, b, vs, ws, rfl, rfl, e, e2, by rw [r.length, r2.length]; exact h.1, rb_lst ow h.2 hq (r.append r2)⟩
    | _ => exact h.elim
  | tup i =>
    cases y with
    | tup j =>
      obtain ⟨a, vs, rfl, e, r⟩ := ax.tup
      obtain ⟨b, ws, rfl, e2, r2⟩ := ay.tup
      refine op_catA pins s σ H _ _ v' w' Q I rv rw' ⟨a, b, vs, ws, rfl, rfl, by rw [hK]; exact SqT.of e, by rw [hK]; exact SqT.of e2, by rw [r.length, r2.length]; exact h.1, fun z => ?_, fun _ z => ?_, fun _ _ => rb_tup ow h.2 hq (r.append r2)⟩
      · subst z
        cases r
        cases ay with
        | at_ ay => exact rb_new ow h.2 hq ay
      · subst z
        cases r2
        cases ax with
        | at_ ax => exact rb_new ow h.2 hq (by rw [List.append_nil]; exact ax)
    | _ => exact h.elim
  | _ => exact h.elim
theorem opr_sub (hK : X.K = G.K) : OpR X (binaryOp .Sub) (rB G subD) := by
  intro pins s σ H v w v' w' Q I rv rw' ⟨B, α, O, x, y, Q0, ow, ax, ay, h, hq⟩
  cases x with
  | int i =>
    cases y with
    | int j =>
      obtain rfl := ax.int
      obtain rfl := ay.int
      exact op_sub pins s σ H _ _ v' w' Q I rv rw' ⟨i, j, rfl, rfl, rb_new ow h hq (.int _)⟩
    | _ => exact h.elim
  | _ => exact h.elim
theorem tuple_mul1 (l : Addr) (items : Array Value) (n : Nat) (dd : Option Addr) (sl : Array (Option Value)) (u : Tok) :
    Meets (Builtin.«tuple.__mul__» ⟨[.ref l, .int 1 u], []⟩) (fun _ R s => s.heap.get? l = some { cls := .type "tuple", dict := dd, data := .seq items n, slots := sl } ∧ R (.ok (.ret (Value.ref l))) s) :=
  .of_wp fun prog w A R s h => by
    obtain ⟨hp, g, d, tk, os⟩ := s
    obtain ⟨hl, h⟩ := h
    have f1 := AutoSeq1.idx_int
    wp_walk using wpAny_loadPart' hl
    exact ⟨_, rfl, h⟩
theorem op_repT1 {X : Cx} : OpR X (binaryOp .Mult) (fun x y H Q => ∃ l xs, x = .ref l ∧ y = .int 1 ∧ SqT X.K H l xs ∧ Q (.ref l) H) := by
  intro pins s σ H x y v u Q I rx ry h
  obtain ⟨l, xs, rfl, rfl, hT, q⟩ := h
  cases rx
  obtain ⟨t, rfl⟩ := ry
  obtain ⟨its, r, ⟨⟨cls, dd, data, sl⟩, ho, hc, n, hd⟩, hs⟩ := I.tuple hT
  simp only at hc hd
  subst hc hd
  refine wpAny_binaryOp_repeat_ref (T := "tuple") (U := "int") (by decide) ⟨_, ho, rfl⟩ (fun s' => typeIs_int s' 1 t) noFill_tuple_mul F.fills_int_mul F.slot_int_rmul repeat_tuple F.slot_int_index.lookup
    (call_meets F.slot_int_rmul (typeIs_int s 1 t) F.entry_int_rmul (F.args_int_rmul_2 _ _) (int_rmul_tuple 1 t l its.toArray n dd sl)
      ⟨ho, rfl, ⟨_, ho, rfl⟩, call_meets F.slot_tuple_mul ⟨_, ho, rfl⟩ F.entry_tuple_mul (F.args_tuple_mul_2 _ _) (tuple_mul1 l its.toArray n dd sl t) ⟨ho, ?_⟩⟩)
  exact ⟨.ref l, H, I, rfl, q⟩
theorem opr_mul (hK : X.K = G.K) : OpR X (binaryOp .Mult) (rB G mulD) := by
  intro pins s σ H v w v' w' Q I rv rw' ⟨B, α, O, x, y, Q0, ow, ax, ay, h, hq⟩
  cases x with
  | int i =>
    cases y with
    | int j =>
      obtain rfl := ax.int
      obtain rfl := ay.int
      exact op_mulX pins s σ H _ _ v' w' Q I rv rw' ⟨i, j, rfl, rfl, h.1, rb_new ow h.2 hq (.int _)⟩
    | _ => exact h.elim
  | lst i =>
    cases y with
    | int j =>
      obtain ⟨a, vs, rfl, e, r⟩ := ax.lst
      obtain rfl := ay.int
      exact op_rep pins s σ H _ _ v' w' Q I rv rw' ⟨a, j, vs, rfl, rfl, e, h.1.1, h.1.2.1, by rw [r.length]; exact h.1.2.2, rb_lst ow h.2 hq (ats_rep r _)⟩
    | _ => exact h.elim
  | tup i =>
    cases y with
    | int j =>
      obtain ⟨a, vs, rfl, e, r⟩ := ax.tup
      obtain rfl := ay.int
      obtain ⟨⟨h1, h2, h3, h4⟩, h5⟩ := h
      by_cases hj : j = 1
      · subst hj
        have e1 : (List.replicate (Int.toNat 1) i).flatten = i := by
          show (List.replicate 1 i).flatten = i
          simp
        rw [e1] at h5
        refine op_repT1 pins s σ H _ _ v' w' Q I rv rw' ⟨a, vs, rfl, rfl, by rw [hK]; exact SqT.of e, ?_⟩
        cases ax with
        | at_ ax => exact rb_new ow h5 hq ax
      · refine op_repT pins s σ H _ _ v' w' Q I rv rw' ⟨a, j, vs, rfl, rfl, by rw [hK]; exact SqT.of e, fun z => ?_, by omega, h2, by rw [r.length]; exact h4, rb_tup ow h5 hq (ats_rep r _)⟩
        rw [z] at r
        cases r
        exact h3 rfl
    | _ => exact h.elim
  | _ => exact h.elim
theorem opr_fdiv (hK : X.K = G.K) : OpR X (binaryOp .FloorDiv) (rB G fdivD) := by
  intro pins s σ H v w v' w' Q I rv rw' ⟨B, α, O, x, y, Q0, ow, ax, ay, h, hq⟩
  cases x with
  | int i =>
    cases y with
    | int j =>
      obtain rfl := ax.int
      obtain rfl := ay.int
      exact op_fdivX pins s σ H _ _ v' w' Q I rv rw' ⟨i, j, rfl, rfl, h.1, rb_new ow h.2 hq (.int _)⟩
    | _ => exact h.elim
  | _ => exact h.elim
theorem opr_fdq (hK : X.K = G.K) : OpR X (binaryOp .FloorDiv) (rB G fdqD) := by
  intro pins s σ H v w v' w' Q I rv rw' ⟨B, α, O, x, y, Q0, ow, ax, ay, h, hq⟩
  cases x with
  | int i =>
    cases y with
    | int j =>
      obtain rfl := ax.int
      obtain rfl := ay.int
      exact op_fdq pins s σ H _ _ v' w' Q I rv rw' ⟨i, j, rfl, rfl, h.1, rb_new ow h.2 hq (.int _)⟩
    | _ => exact h.elim
  | _ => exact h.elim
theorem opr_mod (hK : X.K = G.K) : OpR X (binaryOp .Mod) (rB G modD) := by
  intro pins s σ H v w v' w' Q I rv rw' ⟨B, α, O, x, y, Q0, ow, ax, ay, h, hq⟩
  cases x with
  | int i =>
    cases y with
    | int j =>
      obtain rfl := ax.int
      obtain rfl := ay.int
      exact op_modN pins s σ H _ _ v' w' Q I rv rw' ⟨i, j, rfl, rfl, h.1, rb_new ow h.2 hq (.int _)⟩
    | _ => exact h.elim
  | _ => exact h.elim
theorem opr_pow (hK : X.K = G.K) : OpR X (binaryOp .Pow) (rB G powD) := by
  intro pins s σ H v w v' w' Q I rv rw' ⟨B, α, O, x, y, Q0, ow, ax, ay, h, hq⟩
  cases x with
  | int i =>
    cases y with
    | int j =>
      obtain rfl := ax.int
      obtain rfl := ay.int
      exact op_pow pins s σ H _ _ v' w' Q I rv rw' ⟨i, j, rfl, rfl, h.1, rb_new ow h.2 hq (.int _)⟩
    | _ => exact h.elim
  | _ => exact h.elim
theorem opr_bin (hK : X.K = G.K) : ∀ op, OpR X (binaryOp op) (rB G (binD op))
  | .Add => opr_add hK
  | .Sub => opr_sub hK
  | .Mult => opr_mul hK
  | .FloorDiv => opr_fdiv hK
  | .Mod => opr_mod hK
  | .Pow => opr_pow hK
  | .MatMult => fun _ _ _ _ _ _ _ _ _ _ _ _ ⟨_, _, _, _, _, _, _, _, _, h, _⟩ => h.elim
  | .Div => fun _ _ _ _ _ _ _ _ _ _ _ _ ⟨_, _, _, _, _, _, _, _, _, h, _⟩ => h.elim
  | .LShift => fun _ _ _ _ _ _ _ _ _ _ _ _ ⟨_, _, _, _, _, _, _, _, _, h, _⟩ => h.elim
  | .RShift => fun _ _ _ _ _ _ _ _ _ _ _ _ ⟨_, _, _, _, _, _, _, _, _, h, _⟩ => h.elim
  | .BitOr => fun _ _ _ _ _ _ _ _ _ _ _ _ ⟨_, _, _, _, _, _, _, _, _, h, _⟩ => h.elim
  | .BitXor => fun _ _ _ _ _ _ _ _ _ _ _ _ ⟨_, _, _, _, _, _, _, _, _, h, _⟩ => h.elim
  | .BitAnd => fun _ _ _ _ _ _ _ _ _ _ _ _ ⟨_, _, _, _, _, _, _, _, _, h, _⟩ => h.elim
end
end Z

set_option Elab.async false
set_option linter.all false
set_option maxRecDepth 100000
set_option maxHeartbeats 4000000
namespace Z
open PySem PySem.Spec PyProof.Rows L2

/-! ### equality -/
mutual
def toP : D → PyData
  | .non => .none
  | .bl b => .bool b
  | .int i => .int i
  | .str x => .str x
  | .tup ds => .tuple (toPs ds)
  | .lst ds => .list (toPs ds)
  | .dct _ _ => .dict []
  | .obj _ _ _ => .dict []
  | .scr _ => .dict []
def toPs : List D → List PyData
  | [] => []
  | d :: ds => toP d :: toPs ds
end
section
variable {K : PySem.W.Frag} {M : Addr → Prop} {H : Hp}
mutual
theorem At.dp : ∀ {d : D} {v : V}, At K M H v d → (toP d).canLay0 = true → Dp K H v (toP d)
  | .non, _, h, _ => by cases h; exact .non
  | .bl b, _, h, _ => by cases h; exact .bl b
  | .int i, _, h, _ => by cases h; exact .int i
  | .str x, _, h, _ => by cases h; exact .str x
  | .tup ds, _, h, c => by
    cases h with
    | tup e m r => exact .tup (SqT.of e) (Ats.dp r c)
  | .lst ds, _, h, c => by
    cases h with
    | lst e m r => exact .lst (SqL.of e) (Ats.dp r c)
  | .dct _ _, _, h, c => by cases c
  | .obj _ _ _, _, h, c => by cases c
  | .scr _, _, h, c => by cases c
theorem Ats.dp : ∀ {ds : List D} {vs : List V}, Ats K M H vs ds → PyData.canLayAll0 (toPs ds) = true → DpAll K H vs (toPs ds)
  | [], _, h, _ => by cases h; exact .nil
  | d :: ds, _, h, c => by
    cases h with
    | cons a r =>
      have c' : ((toP d).canLay0 && PyData.canLayAll0 (toPs ds)) = true := c
      rw [Bool.and_eq_true] at c'
      exact .cons (At.dp a c'.1) (Ats.dp r c'.2)
end
theorem Vw.dp {d : D} {v : V} (h : Vw K M H v d) (c : (toP d).canLay0 = true) : Dp K H v (toP d) := by
  cases h with
  | at_ h => exact h.dp c
  | own e r => exact .lst (SqL.of e) (r.dp c)
end
def Shp (d : D) : Prop := SeqAt.shaped (toP d) = true
def eqD : D → D → (Bool → Prop) → Prop
  | .int i, .int j, Q => Q (decide (i = j))
  | .str a, .str b, Q => Q (decide (a = b))
  | x, y, Q => Shp x ∧ Shp y ∧ Q (PyData.eqv (toP x) (toP y))
def flat : D → Bool
  | .non => true
  | .bl _ => true
  | .int _ => true
  | .str _ => true
  | _ => false
def toV : D → V
  | .non => .non
  | .bl b => .bl b
  | .int i => .int i
  | .str x => .str x
  | _ => .non
def inD : D → D → (Bool → Prop) → Prop
  | .str x, .str z, Q => ∃ c : Nat, x = ⟨#[c]⟩ ∧ Q (decide (c ∈ z.cps.toList))
  | x, .lst ds, Q => flat x = true ∧ ds.all flat = true ∧ Q (inV (toV x) (ds.map toV))
  | x, .tup ds, Q => flat x = true ∧ ds.all flat = true ∧ Q (inV (toV x) (ds.map toV))
  | _, _, _ => False
def isD : D → D → (Bool → Prop) → Prop
  | .non, .non, Q => Q true
  | _, .non, Q => Q false
  | _, _, _ => False
def cmpD : CmpOp → D → D → (Bool → Prop) → Prop
  | .Eq, x, y, Q => eqD x y Q
  | .NotEq, x, y, Q => eqD x y fun b => Q (!b)
  | .Lt, .int i, .int j, Q => Q (decide (i < j))
  | .LtE, .int i, .int j, Q => Q (decide (i ≤ j))
  | .Gt, .int i, .int j, Q => Q (decide (j < i))
  | .GtE, .int i, .int j, Q => Q (decide (j ≤ i))
  | .Lt, .str i, .str j, Q => Q (decide (i.cps.toList < j.cps.toList))
  | .Is, x, y, Q => isD x y Q
  | .IsNot, x, y, Q => isD x y fun b => Q (!b)
  | .In, x, y, Q => inD x y Q
  | .NotIn, x, y, Q => inD x y fun b => Q (!b)
  | _, _, _, _ => False
/-- a comparison on values -/
def rC (G : Gx) (op : D → D → (Bool → Prop) → Prop) : R2 := fun v w H Q => ∃ B α O x y Q0, Own G B α O H ∧ Vw G.K (Mu B α O) H v x ∧ Vw G.K (Mu B α O) H w y ∧ op x y Q0 ∧ ∀ b, Q0 b → Q (.bl b) H
section
variable {X : Cx} {G : Gx}
theorem flat_v {K : PySem.W.Frag} {M : Addr → Prop} {H : Hp} {v : V} {x : D} (h : At K M H v x) (f : flat x = true) : v = toV x ∧ flatV (toV x) = true := by
  cases h <;> first | exact ⟨rfl, rfl⟩ | cases f
theorem flat_vw {K : PySem.W.Frag} {M : Addr → Prop} {H : Hp} {v : V} {x : D} (h : Vw K M H v x) (f : flat x = true) : v = toV x ∧ flatV (toV x) = true := by
  cases h with
  | at_ h => exact flat_v h f
  | own _ _ => cases f
theorem flat_vs {K : PySem.W.Frag} {M : Addr → Prop} {H : Hp} : ∀ {vs : List V} {ds : List D}, Ats K M H vs ds → ds.all flat = true → vs = ds.map toV ∧ (ds.map toV).all flatV = true
  | _, _, .nil, _ => ⟨rfl, rfl⟩
  | _, _, .cons a r, f => by
    rw [List.all_cons, Bool.and_eq_true] at f
    obtain ⟨e1, e2⟩ := flat_v a f.1
    obtain ⟨e3, e4⟩ := flat_vs r f.2
    refine ⟨by rw [e1, e3] <;> rfl, ?_⟩
    rw [List.map_cons, List.all_cons, Bool.and_eq_true]
    exact ⟨e2, e4⟩
theorem eq_deep (hu : X.A.units + 64 < cLine) (hK : X.K = G.K) {pins : List (Addr × Obj)} {s : Shared} {σ : L2.St} {H : Hp} {v w : V} {v' w' : Value} {Q : VK} (I : Inv X pins σ H s) (rv : RelV v v') (rw' : RelV w w') {M : Addr → Prop} {x y : D}
    (ax : Vw G.K M H v x) (ay : Vw G.K M H w y) {Q0 : Bool → Prop} (h : Shp x ∧ Shp y ∧ Q0 (PyData.eqv (toP x) (toP y))) (hq : ∀ b, Q0 b → Q (.bl b) H) : wpAny (model X.prog X.w) X.A (compareOp .Eq v' w') (EP X pins σ Q) X.xe s :=
  op_eqD hu pins s σ H v w v' w' Q I rv rw' ⟨_, _, by rw [hK]; exact ax.dp (SeqAt.canLay_of_shaped h.1), by rw [hK]; exact ay.dp (SeqAt.canLay_of_shaped h.2.1), h.1, h.2.1, hq _ h.2.2⟩
theorem ne_deep (hu : X.A.units + 64 < cLine) (hK : X.K = G.K) {pins : List (Addr × Obj)} {s : Shared} {σ : L2.St} {H : Hp} {v w : V} {v' w' : Value} {Q : VK} (I : Inv X pins σ H s) (rv : RelV v v') (rw' : RelV w w') {M : Addr → Prop} {x y : D}
    (ax : Vw G.K M H v x) (ay : Vw G.K M H w y) {Q0 : Bool → Prop} (h : Shp x ∧ Shp y ∧ Q0 (!PyData.eqv (toP x) (toP y))) (hq : ∀ b, Q0 b → Q (.bl b) H) : wpAny (model X.prog X.w) X.A (compareOp .NotEq v' w') (EP X pins σ Q) X.xe s :=
  op_neD hu pins s σ H v w v' w' Q I rv rw' ⟨_, _, by rw [hK]; exact ax.dp (SeqAt.canLay_of_shaped h.1), by rw [hK]; exact ay.dp (SeqAt.canLay_of_shaped h.2.1), h.1, h.2.1, hq _ h.2.2⟩
theorem eqD_split {x y : D} {Q : Bool → Prop} (h : eqD x y Q) : (∃ i j, x = .int i ∧ y = .int j ∧ Q (decide (i = j))) ∨ (∃ i j, x = .str i ∧ y = .str j ∧ Q (decide (i = j))) ∨ (Shp x ∧ Shp y ∧ Q (PyData.eqv (toP x) (toP y))) := by
  unfold eqD at h
  split at h
  · exact .inl ⟨_, _, rfl, rfl, h⟩
  · exact .inr (.inl ⟨_, _, rfl, rfl, h⟩)
  · exact .inr (.inr h)
theorem opc_eq (hu : X.A.units + 64 < cLine) (hK : X.K = G.K) : OpR X (compareOp .Eq) (rC G eqD) := by
  intro pins s σ H v w v' w' Q I rv rw' ⟨B, α, O, x, y, Q0, ow, ax, ay, h, hq⟩
  rcases eqD_split h with ⟨i, j, rfl, rfl, h⟩ | ⟨i, j, rfl, rfl, h⟩ | h
  · obtain rfl := ax.int
    obtain rfl := ay.int
    exact op_eq pins s σ H _ _ v' w' Q I rv rw' ⟨rfl, by have := hq _ h; simpa using this⟩
  · obtain rfl := ax.str
    obtain rfl := ay.str
    exact op_eq pins s σ H _ _ v' w' Q I rv rw' ⟨rfl, by have := hq _ h; simpa using this⟩
  · exact eq_deep hu hK I rv rw' ax ay h hq
theorem opc_ne (hu : X.A.units + 64 < cLine) (hK : X.K = G.K) : OpR X (compareOp .NotEq) (rC G fun x y Q => eqD x y fun b => Q (!b)) := by
  intro pins s σ H v w v' w' Q I rv rw' ⟨B, α, O, x, y, Q0, ow, ax, ay, h, hq⟩
  rcases eqD_split h with ⟨i, j, rfl, rfl, h⟩ | ⟨i, j, rfl, rfl, h⟩ | h
  · obtain rfl := ax.int
    obtain rfl := ay.int
    exact op_ne pins s σ H _ _ v' w' Q I rv rw' ⟨rfl, by have := hq _ h; simpa using this⟩
  · obtain rfl := ax.str
    obtain rfl := ay.str
    exact op_ne pins s σ H _ _ v' w' Q I rv rw' ⟨rfl, by have := hq _ h; simpa using this⟩
  · exact ne_deep hu hK I rv rw' ax ay h hq
theorem isD_split {x y : D} {Q : Bool → Prop} (h : isD x y Q) : y = .non ∧ ((x = .non ∧ Q true) ∨ (x ≠ .non ∧ Q false)) := by
  unfold isD at h
  split at h
  · exact ⟨rfl, .inl ⟨rfl, h⟩⟩
  · rename_i z
    exact ⟨rfl, .inr ⟨z, h⟩⟩
  · exact h.elim
theorem vw_nonnon {K : PySem.W.Frag} {M : Addr → Prop} {H : Hp} {v : V} {x : D} (h : Vw K M H v x) (n : x ≠ .non) : v ≠ .non := by
  cases h with
  | at_ h => cases h <;> first | exact absurd rfl n | (intro z; cases z)
  | own _ _ => intro z; cases z
theorem opc_is (hK : X.K = G.K) : OpR X (compareOp .Is) (rC G isD) := by
  intro pins s σ H v w v' w' Q I rv rw' ⟨B, α, O, x, y, Q0, ow, ax, ay, h, hq⟩
  obtain ⟨rfl, h2⟩ := isD_split h
  obtain rfl := ay.non
  rcases h2 with ⟨rfl, h⟩ | ⟨n, h⟩
  · obtain rfl := ax.non
    exact op_isN pins s σ H _ _ v' w' Q I rv rw' ⟨rfl, by have := hq _ h; simpa using this⟩
  · exact op_isN pins s σ H _ _ v' w' Q I rv rw' ⟨rfl, by rw [decide_eq_false (vw_nonnon ax n)]; exact hq _ h⟩
theorem opc_isnot (hK : X.K = G.K) : OpR X (compareOp .IsNot) (rC G fun x y Q => isD x y fun b => Q (!b)) := by
  intro pins s σ H v w v' w' Q I rv rw' ⟨B, α, O, x, y, Q0, ow, ax, ay, h, hq⟩
  obtain ⟨rfl, h2⟩ := isD_split h
  obtain rfl := ay.non
  rcases h2 with ⟨rfl, h⟩ | ⟨n, h⟩
  · obtain rfl := ax.non
    exact op_notN pins s σ H _ _ v' w' Q I rv rw' ⟨rfl, by have := hq _ h; simpa using this⟩
  · exact op_notN pins s σ H _ _ v' w' Q I rv rw' ⟨rfl, by rw [decide_eq_false (vw_nonnon ax n)]; exact hq _ h⟩
theorem inD_split {x y : D} {Q : Bool → Prop} (h : inD x y Q) : (∃ (c : Nat) (z : Str), x = .str ⟨#[c]⟩ ∧ y = .str z ∧ Q (decide (c ∈ z.cps.toList))) ∨ (∃ ds, (y = .lst ds ∨ y = .tup ds) ∧ flat x = true ∧ ds.all flat = true ∧ Q (inV (toV x) (ds.map toV))) := by
  unfold inD at h
  split at h
  · obtain ⟨c, rfl, h⟩ := h
    exact .inl ⟨c, _, rfl, rfl, h⟩
  · exact .inr ⟨_, .inl rfl, h⟩
  · exact .inr ⟨_, .inr rfl, h⟩
  · exact h.elim
theorem vw_seq {K : PySem.W.Frag} {M : Addr → Prop} {H : Hp} {v : V} {y : D} {ds : List D} (h : Vw K M H v y) (e : y = .lst ds ∨ y = .tup ds) : ∃ a vs, v = .ref a ∧ (SqL K H a vs ∨ SqT K H a vs) ∧ Ats K M H vs ds := by
  rcases e with rfl | rfl
  · obtain ⟨a, vs, rfl, e, r⟩ := h.lst
    exact ⟨a, vs, rfl, .inl (SqL.of e), r⟩
  · obtain ⟨a, vs, rfl, e, r⟩ := h.tup
    exact ⟨a, vs, rfl, .inr (SqT.of e), r⟩
theorem opc_in (hK : X.K = G.K) : OpR X (compareOp .In) (rC G inD) := by
  intro pins s σ H v w v' w' Q I rv rw' ⟨B, α, O, x, y, Q0, ow, ax, ay, h, hq⟩
  rcases inD_split h with ⟨c, z, rfl, rfl, h2⟩ | ⟨ds, e, f1, f2, h⟩
  · obtain rfl := ax.str
    obtain rfl := ay.str
    exact op_in_sign pins s σ H _ _ v' w' Q I rv rw' ⟨c, z, rfl, rfl, hq _ h2⟩
  · obtain ⟨a, vs, rfl, hs, r⟩ := vw_seq ay e
    obtain ⟨rfl, g1⟩ := flat_vw ax f1
    obtain ⟨rfl, g2⟩ := flat_vs r f2
    exact op_in_seq pins s σ H _ _ v' w' Q I rv rw' ⟨a, _, rfl, by rw [hK]; exact hs, g1, g2, hq _ h⟩
theorem opc_notin (hK : X.K = G.K) : OpR X (compareOp .NotIn) (rC G fun x y Q => inD x y fun b => Q (!b)) := by
  intro pins s σ H v w v' w' Q I rv rw' ⟨B, α, O, x, y, Q0, ow, ax, ay, h, hq⟩
  rcases inD_split h with ⟨c, z, rfl, rfl, h2⟩ | ⟨ds, e, f1, f2, h⟩
  · obtain rfl := ax.str
    obtain rfl := ay.str
    exact op_notIn_sign pins s σ H _ _ v' w' Q I rv rw' ⟨c, z, rfl, rfl, hq _ h2⟩
  · obtain ⟨a, vs, rfl, hs, r⟩ := vw_seq ay e
    obtain ⟨rfl, g1⟩ := flat_vw ax f1
    obtain ⟨rfl, g2⟩ := flat_vs r f2
    exact op_notIn_seq pins s σ H _ _ v' w' Q I rv rw' ⟨a, _, rfl, by rw [hK]; exact hs, g1, g2, hq _ h⟩
theorem opc_int {op : CmpOp} {p : Int → Int → Bool} (o : OpR X (compareOp op) (rI0 fun i j => .bl (p i j))) {f : D → D → (Bool → Prop) → Prop} (hf : ∀ x y Q, f x y Q → ∃ i j, x = .int i ∧ y = .int j ∧ Q (p i j)) : OpR X (compareOp op) (rC G f) := by
  intro pins s σ H v w v' w' Q I rv rw' ⟨B, α, O, x, y, Q0, ow, ax, ay, h, hq⟩
  obtain ⟨i, j, rfl, rfl, h2⟩ := hf _ _ _ h
  obtain rfl := ax.int
  obtain rfl := ay.int
  exact o pins s σ H _ _ v' w' Q I rv rw' ⟨i, j, rfl, rfl, hq _ h2⟩
theorem opc_lt : OpR X (compareOp .Lt) (rC G (cmpD .Lt)) := by
  intro pins s σ H v w v' w' Q I rv rw' ⟨B, α, O, x, y, Q0, ow, ax, ay, h, hq⟩
  cases x with
  | int i =>
    cases y with
    | int j =>
      obtain rfl := ax.int
      obtain rfl := ay.int
      exact op_lt pins s σ H _ _ v' w' Q I rv rw' ⟨i, j, rfl, rfl, hq _ h⟩
    | _ => exact h.elim
  | str i =>
    cases y with
    | str j =>
      obtain rfl := ax.str
      obtain rfl := ay.str
      exact op_lt_str pins s σ H _ _ v' w' Q I rv rw' ⟨i, j, rfl, rfl, hq _ h⟩
    | _ => exact h.elim
  | _ => exact h.elim
theorem opc_all (hu : X.A.units + 64 < cLine) (hK : X.K = G.K) : ∀ op, OpR X (compareOp op) (rC G (cmpD op))
  | .Eq => opc_eq hu hK
  | .NotEq => opc_ne hu hK
  | .Lt => opc_lt
  | .LtE => opc_int op_le fun x y Q h => by cases x <;> cases y <;> first | exact h.elim | exact ⟨_, _, rfl, rfl, h⟩
  | .Gt => opc_int op_gt fun x y Q h => by cases x <;> cases y <;> first | exact h.elim | exact ⟨_, _, rfl, rfl, h⟩
  | .GtE => opc_int op_ge fun x y Q h => by cases x <;> cases y <;> first | exact h.elim | exact ⟨_, _, rfl, rfl, h⟩
  | .Is => opc_is hK
  | .IsNot => opc_isnot hK
  | .In => opc_in hK
  | .NotIn => opc_notin hK
end

/-! ### places and cuts -/
def ixD : D → D → (D → Prop) → Prop
  | .lst ds, .int i, Q => ∃ d, atI ds i = some d ∧ Q d
  | .tup ds, .int i, Q => ∃ d, atI ds i = some d ∧ Q d
  | .str z, .int i, Q => ∃ c, z.length ≤ sizeLine ∧ atI z.cps.toList i = some c ∧ Q (.str ⟨#[c]⟩)
  | _, _, _ => False
def cutL {β : Type} (xs : List β) (lo hi : Option Int) : List β := (xs.drop (HT.sIx xs.length 0 lo)).take (HT.sIx xs.length xs.length hi - HT.sIx xs.length 0 lo)
def slD : D → Option Int → Option Int → (D → Prop) → Prop
  | .lst ds, lo, hi, Q => Q (.lst (cutL ds lo hi))
  | .tup ds, lo, hi, Q => Q (.tup (cutL ds lo hi))
  | .scr ns, lo, hi, Q => Q (.lst ((cutL ns lo hi).map .int))
  | .str z, lo, hi, Q => z.length ≤ sizeLine ∧ Q (.str (cutS z lo hi))
  | _, _, _, _ => False
section
variable {X : Cx} {G : Gx} {K : PySem.W.Frag} {M : Addr → Prop} {H : Hp}
theorem Ats.atI {vs : List V} {ds : List D} (r : Ats K M H vs ds) {i : Int} {d : D} (e : atI ds i = some d) : ∃ v, L2.atI vs i = some v ∧ At K M H v d := by
  unfold L2.atI at e ⊢
  rw [r.length]
  cases q : ixN ds.length i with
  | none => rw [q] at e; cases e
  | some j =>
    rw [q] at e
    exact r.get' (i := j) e
theorem Ats.cut {vs : List V} {ds : List D} (r : Ats K M H vs ds) (lo hi : Option Int) : Ats K M H (cutV vs lo hi) (cutL ds lo hi) := by
  unfold cutV cutL
  rw [r.length]
  exact (r.drop _).take _
theorem ix_r (hK : X.K = G.K) : IxR X (rB G ixD) := by
  intro value slice pins s σ H v w v' w' Q I rv rw' ⟨B, α, O, x, y, Q0, ow, ax, ay, h, hq⟩ hsub
  cases y with
  | int i =>
    obtain rfl := ay.int
    cases x with
    | lst ds =>
      obtain ⟨a, vs, rfl, e, r⟩ := ax.lst
      obtain ⟨d, e2, h⟩ := h
      obtain ⟨u, e3, au⟩ := r.atI e2
      exact ix_list value slice pins s σ H _ _ v' w' Q I rv rw' ⟨a, vs, i, u, rfl, rfl, SqL.of e, e3, rb_new ow h hq au⟩ hsub
    | tup ds =>
      obtain ⟨a, vs, rfl, e, r⟩ := ax.tup
      obtain ⟨d, e2, h⟩ := h
      obtain ⟨u, e3, au⟩ := r.atI e2
      exact ix_tup value slice pins s σ H _ _ v' w' Q I rv rw' ⟨a, vs, i, u, rfl, rfl, SqT.of e, e3, rb_new ow h hq au⟩ hsub
    | str z =>
      obtain rfl := ax.str
      obtain ⟨c, hz, e2, h⟩ := h
      exact ix_str value slice pins s σ H _ _ v' w' Q I rv rw' ⟨z, i, c, rfl, rfl, hz, e2, rb_new ow h hq (.str _)⟩ hsub
    | _ => exact h.elim
  | _ => cases x <;> exact h.elim
def rS (G : Gx) : V → Option Int → Option Int → Hp → VK → Prop := fun v lo hi H Q => ∃ B α O x Q0, Own G B α O H ∧ Vw G.K (Mu B α O) H v x ∧ slD x lo hi Q0 ∧
  ∀ z, Q0 z → ∀ v' H', Stp α O H α O H' → Own G B α O H' → At G.K (Mu B α O) H' v' z → Q v' H'
theorem cut_whole {β : Type} {xs : List β} {lo hi : Option Int} (h : HT.sIx xs.length 0 lo = 0 ∧ HT.sIx xs.length xs.length hi = xs.length) : cutL xs lo hi = xs := by
  unfold cutL
  rw [h.1, h.2]
  simp
theorem cut_map {β γ : Type} (f : β → γ) (xs : List β) (lo hi : Option Int) : cutL (xs.map f) lo hi = (cutL xs lo hi).map f := by
  unfold cutL
  rw [List.length_map, List.map_take, List.map_drop]
theorem sl_r (hK : X.K = G.K) : SlR X (rS G) := by
  intro pins s σ H v v' vl vu lo hi sl Q I rv hs pl pu ⟨B, α, O, x, Q0, ow, ax, h, hq⟩
  cases x with
  | lst ds =>
    obtain ⟨a, vs, rfl, e, r⟩ := ax.lst
    exact sl_list pins s σ H _ v' vl vu lo hi sl Q I rv hs pl pu ⟨a, vs, rfl, SqL.of e, rb_lst ow h hq (r.cut lo hi)⟩
  | scr ns =>
    obtain ⟨a, rfl, e⟩ := ax.scr
    refine sl_list pins s σ H _ v' vl vu lo hi sl Q I rv hs pl pu ⟨a, _, rfl, by rw [hK]; exact e, rb_lst ow h hq ?_⟩
    have : cutV (ns.map V.int) lo hi = (cutL ns lo hi).map V.int := cut_map V.int ns lo hi
    rw [this]
    exact Ats.ints _
  | tup ds =>
    obtain ⟨a, vs, rfl, e, r⟩ := ax.tup
    refine sl_tupA pins s σ H _ v' vl vu lo hi sl Q I rv hs pl pu ⟨a, vs, rfl, SqT.of e, ?_⟩
    first
      | exact ⟨fun z => (by
          have z' := z
          rw [r.length] at z'
          have e2 := cut_whole z'
          cases ax with
          | at_ ax => exact rb_new ow h hq (by rw [e2]; exact ax)), fun _ => rb_tup ow h hq (r.cut lo hi)⟩
  | str z =>
    obtain rfl := ax.str
    exact sl_str pins s σ H _ v' vl vu lo hi sl Q I rv hs pl pu ⟨z, rfl, h.1, rb_new ow h.2 hq (.str _)⟩
  | _ => exact h.elim
end

/-! ### built-ins on data -/
def lenD : List D → (D → Prop) → Prop
  | [.lst ds], Q => Q (.int ds.length)
  | [.tup ds], Q => Q (.int ds.length)
  | [.scr ns], Q => Q (.int ns.length)
  | [.str z], Q => z.length ≤ sizeLine ∧ Q (.int z.length)
  | _, _ => False
def absD : List D → (D → Prop) → Prop
  | [.int i], Q => Q (.int (i.natAbs : Nat))
  | _, _ => False
def intD : List D → (D → Prop) → Prop
  | [.int i], Q => Q (.int i)
  | [.bl b], Q => Q (.int (if b = true then 1 else 0))
  | _, _ => False
def listD : List D → (D → Prop) → Prop
  | [.lst ds], Q => Q (.lst ds)
  | [.tup ds], Q => Q (.lst ds)
  | [.scr ns], Q => Q (.lst (ns.map .int))
  | _, _ => False
def tupleD : List D → (D → Prop) → Prop
  | [.lst ds], Q => Q (.tup ds)
  | [.tup ds], Q => Q (.tup ds)
  | _, _ => False
def sumD : List D → (D → Prop) → Prop
  | [.lst ds], Q => ∃ ns : List Int, ds = ns.map .int ∧ Q (.int ns.sum)
  | _, _ => False
def allD : List D → (D → Prop) → Prop
  | [.lst ds], Q => ∃ bs : List Bool, ds = bs.map .bl ∧ Q (.bl (bs.all id))
  | _, _ => False
def anyD : List D → (D → Prop) → Prop
  | [.lst ds], Q => ∃ bs : List Bool, ds = bs.map .bl ∧ Q (.bl (bs.any id))
  | _, _ => False
def minD : List D → (D → Prop) → Prop
  | [.int i, .int j], Q => Q (.int (min i j))
  | _, _ => False
def maxD : List D → (D → Prop) → Prop
  | [.int i, .int j], Q => Q (.int (max i j))
  | _, _ => False
def rL (G : Gx) (op : List D → (D → Prop) → Prop) : List V → Hp → VK → Prop := fun vs H Q => ∃ B α O ds Q0, Own G B α O H ∧ Paired (Vw G.K (Mu B α O) H) vs ds ∧ op ds Q0 ∧
  ∀ z, Q0 z → ∀ v' H', Stp α O H α O H' → Own G B α O H' → At G.K (Mu B α O) H' v' z → Q v' H'
theorem paired1 {β γ : Type} {F : β → γ → Prop} {vs : List β} {d : γ} (h : Paired F vs [d]) : ∃ v, vs = [v] ∧ F v d := by
  cases h with
  | cons a r => cases r; exact ⟨_, rfl, a⟩
theorem paired2 {β γ : Type} {F : β → γ → Prop} {vs : List β} {d e : γ} (h : Paired F vs [d, e]) : ∃ v w, vs = [v, w] ∧ F v d ∧ F w e := by
  cases h with
  | cons a r =>
    obtain ⟨w, rfl, b⟩ := paired1 r
    exact ⟨_, w, rfl, a, b⟩
section
variable {X : Cx} {G : Gx} {K : PySem.W.Frag} {M : Addr → Prop} {H : Hp}
theorem Ats.toInts : ∀ {ns : List Int} {vs : List V}, Ats K M H vs (ns.map .int) → vs = ns.map V.int
  | [], _, h => by cases h; rfl
  | n :: ns, _, h => by
    cases h with
    | cons a r => cases a; rw [Ats.toInts r]; rfl
theorem Ats.toBls : ∀ {ns : List Bool} {vs : List V}, Ats K M H vs (ns.map .bl) → vs = ns.map V.bl
  | [], _, h => by cases h; rfl
  | n :: ns, _, h => by
    cases h with
    | cons a r => cases a; rw [Ats.toBls r]; rfl
theorem Ats.int1 (ns : List Int) : Ats K M H (ns.map V.int) (ns.map .int) := Ats.ints ns
theorem cb_len (hK : X.K = G.K) : CallR X (.builtin "len") (rL G lenD) := by
  intro pins s σ H vs us Q I r ⟨B, α, O, ds, Q0, ow, ap, h, hq⟩
  unfold lenD at h
  split at h
  · obtain ⟨v, rfl, a⟩ := paired1 ap
    obtain ⟨p, ws, rfl, e, q⟩ := a.lst
    exact call_len pins s σ H _ us Q I r ⟨_, _, rfl, .inl ⟨ws, SqL.of e, rfl⟩, by rw [q.length]; exact rb_new ow h hq (.int _)⟩
  · obtain ⟨v, rfl, a⟩ := paired1 ap
    obtain ⟨p, ws, rfl, e, q⟩ := a.tup
    exact call_len pins s σ H _ us Q I r ⟨_, _, rfl, .inr ⟨ws, SqT.of e, rfl⟩, by rw [q.length]; exact rb_new ow h hq (.int _)⟩
  · obtain ⟨v, rfl, a⟩ := paired1 ap
    obtain ⟨p, rfl, e⟩ := a.scr
    exact call_len pins s σ H _ us Q I r ⟨_, _, rfl, .inl ⟨_, by rw [hK]; exact e, rfl⟩, by rw [List.length_map]; exact rb_new ow h hq (.int _)⟩
  · obtain ⟨v, rfl, a⟩ := paired1 ap
    obtain rfl := a.str
    exact call_len pins s σ H _ us Q I r ⟨_, _, rfl, ⟨h.1, rfl⟩, rb_new ow h.2 hq (.int _)⟩
  · exact h.elim
theorem cb_abs (hK : X.K = G.K) : CallR X (.builtin "abs") (rL G absD) := by
  intro pins s σ H vs us Q I r ⟨B, α, O, ds, Q0, ow, ap, h, hq⟩
  unfold absD at h
  split at h
  · rename_i i
    obtain ⟨v, rfl, a⟩ := paired1 ap
    obtain rfl := a.int
    refine call_abs pins s σ H _ us Q I r ⟨_, rfl, ?_⟩
    have e : (if i < 0 then -i else i) = ((i.natAbs : Nat) : Int) := by split <;> omega
    rw [e]
    exact rb_new ow h hq (.int _)
  · exact h.elim
theorem cb_int (hK : X.K = G.K) : CallR X (.type "int") (rL G intD) := by
  intro pins s σ H vs us Q I r ⟨B, α, O, ds, Q0, ow, ap, h, hq⟩
  unfold intD at h
  split at h
  · obtain ⟨v, rfl, a⟩ := paired1 ap
    obtain rfl := a.int
    exact call_int1 pins s σ H _ us Q I r (.inl ⟨_, rfl, rb_new ow h hq (.int _)⟩)
  · obtain ⟨v, rfl, a⟩ := paired1 ap
    obtain rfl := a.bl
    exact call_int1 pins s σ H _ us Q I r (.inr ⟨_, rfl, rb_new ow h hq (.int _)⟩)
  · exact h.elim
theorem cb_list (hK : X.K = G.K) : CallR X (.type "list") (rL G listD) := by
  intro pins s σ H vs us Q I r ⟨B, α, O, ds, Q0, ow, ap, h, hq⟩
  unfold listD at h
  split at h
  · obtain ⟨v, rfl, a⟩ := paired1 ap
    obtain ⟨p, ws, rfl, e, q⟩ := a.lst
    exact call_list_of pins s σ H _ us Q I r ⟨_, _, rfl, .inl (SqL.of e), rb_lst ow h hq q⟩
  · obtain ⟨v, rfl, a⟩ := paired1 ap
    obtain ⟨p, ws, rfl, e, q⟩ := a.tup
    exact call_list_of pins s σ H _ us Q I r ⟨_, _, rfl, .inr (SqT.of e), rb_lst ow h hq q⟩
  · obtain ⟨v, rfl, a⟩ := paired1 ap
    obtain ⟨p, rfl, e⟩ := a.scr
    exact call_list_of pins s σ H _ us Q I r ⟨_, _, rfl, .inl (by rw [hK]; exact e), rb_lst ow h hq (Ats.ints _)⟩
  · exact h.elim
theorem cb_tuple (hK : X.K = G.K) : CallR X (.type "tuple") (rL G tupleD) := by
  intro pins s σ H vs us Q I r ⟨B, α, O, ds, Q0, ow, ap, h, hq⟩
  unfold tupleD at h
  split at h
  · obtain ⟨v, rfl, a⟩ := paired1 ap
    obtain ⟨p, ws, rfl, e, q⟩ := a.lst
    exact call_tuple_of pins s σ H _ us Q I r ⟨_, _, rfl, .inl ⟨SqL.of e, rb_tup ow h hq q⟩⟩
  · obtain ⟨v, rfl, a⟩ := paired1 ap
    obtain ⟨p, ws, rfl, e, q⟩ := a.tup
    refine call_tuple_of pins s σ H _ us Q I r ⟨_, _, rfl, .inr ⟨SqT.of e, ?_⟩⟩
    cases a with
    | at_ a => exact rb_new ow h hq a
  · exact h.elim
theorem cb_sum (hK : X.K = G.K) (hc : X.calm = true) : CallR X (.builtin "sum") (rL G sumD) := by
  intro pins s σ H vs us Q I r ⟨B, α, O, ds, Q0, ow, ap, h, hq⟩
  unfold sumD at h
  split at h
  · obtain ⟨v, rfl, a⟩ := paired1 ap
    obtain ⟨p, ws, rfl, e, q⟩ := a.lst
    obtain ⟨ns, rfl, h⟩ := h
    obtain rfl := q.toInts
    exact cr_sum hc pins s σ H _ us Q I r ⟨_, ns, rfl, SqL.of e, rb_new ow h hq (.int _)⟩
  · exact h.elim
theorem cb_all (hK : X.K = G.K) (hc : X.calm = true) : CallR X (.builtin "all") (rL G allD) := by
  intro pins s σ H vs us Q I r ⟨B, α, O, ds, Q0, ow, ap, h, hq⟩
  unfold allD at h
  split at h
  · obtain ⟨v, rfl, a⟩ := paired1 ap
    obtain ⟨p, ws, rfl, e, q⟩ := a.lst
    obtain ⟨ns, rfl, h⟩ := h
    obtain rfl := q.toBls
    exact cr_all hc pins s σ H _ us Q I r ⟨_, ns, rfl, SqL.of e, rb_new ow h hq (.bl _)⟩
  · exact h.elim
theorem cb_any (hK : X.K = G.K) (hc : X.calm = true) : CallR X (.builtin "any") (rL G anyD) := by
  intro pins s σ H vs us Q I r ⟨B, α, O, ds, Q0, ow, ap, h, hq⟩
  unfold anyD at h
  split at h
  · obtain ⟨v, rfl, a⟩ := paired1 ap
    obtain ⟨p, ws, rfl, e, q⟩ := a.lst
    obtain ⟨ns, rfl, h⟩ := h
    obtain rfl := q.toBls
    exact cr_any hc pins s σ H _ us Q I r ⟨_, ns, rfl, SqL.of e, rb_new ow h hq (.bl _)⟩
  · exact h.elim
theorem cb_min (hK : X.K = G.K) (hc : X.calm = true) : CallR X (.builtin "min") (rL G minD) := by
  intro pins s σ H vs us Q I r ⟨B, α, O, ds, Q0, ow, ap, h, hq⟩
  unfold minD at h
  split at h
  · rename_i i j
    obtain ⟨v, w, rfl, a, b⟩ := paired2 ap
    obtain rfl := a.int
    obtain rfl := b.int
    refine call_min2 hc pins s σ H _ us Q I r ⟨_, _, rfl, ?_⟩
    have e : (if j < i then j else i) = min i j := by split <;> omega
    rw [e]
    exact rb_new ow h hq (.int _)
  · exact h.elim
theorem cb_max (hK : X.K = G.K) (hc : X.calm = true) : CallR X (.builtin "max") (rL G maxD) := by
  intro pins s σ H vs us Q I r ⟨B, α, O, ds, Q0, ow, ap, h, hq⟩
  unfold maxD at h
  split at h
  · rename_i i j
    obtain ⟨v, w, rfl, a, b⟩ := paired2 ap
    obtain rfl := a.int
    obtain rfl := b.int
    refine call_max2 hc pins s σ H _ us Q I r ⟨_, _, rfl, ?_⟩
    have e : (if j > i then j else i) = max i j := by split <;> omega
    rw [e]
    exact rb_new ow h hq (.int _)
  · exact h.elim
end
end Z

set_option Elab.async false
set_option linter.all false
set_option maxRecDepth 100000
set_option maxHeartbeats 4000000
namespace Z
open PySem PySem.Spec PyProof.Rows L2

/-! ### the resolved text -/
/-- a target: a slot; a tuple of targets -/
inductive T1 where
  | nm (i : Nat) | tp (r : T1) | nil | cons (a r : T1)
/-- built-ins that take data -/
inductive BF where
  | len | abs | int | list | tuple | sum | all | any | min | max
def BF.name : BF → Str
  | .len => "len" | .abs => "abs" | .int => "int" | .list => "list" | .tuple => "tuple" | .sum => "sum" | .all => "all" | .any => "any" | .min => "min" | .max => "max"
def BF.op : BF → List D → (D → Prop) → Prop
  | .len => lenD | .abs => absD | .int => intD | .list => listD | .tuple => tupleD | .sum => sumD | .all => allD | .any => anyD | .min => minD | .max => maxD
inductive Y where
  | var (i : Nat) | int (i : Int) | bl (b : Bool) | non | str (x : Str) | gint (x : Str) (i : Int) | gstr (x z : Str)
  | bin (op : Operator) (a b : Y) | neg (a : Y) | not (a : Y) | and (a b : Y) | or (a b : Y) | one (a : Y)
  | cmp (op : CmpOp) (a b : Y) | chain (o p : CmpOp) (a b c : Y) | ite (c a b : Y)
  | tup (es : Y) | tupU (es : Y) | lst (own : Bool) (es : Y)
  | call (g : Nat) (es : Y) | blt (f : BF) (es : Y) | lis (z : Y) | isi (a : Y) (cs : List String)
  | ix (a b : Y) | sl (a lo hi : Y) | rep (a b : Y)
  | comp (own : Bool) (vs : List Nat) (tg : T1) (src tst elt : Y)
  | app (r z : Y) | fz (z : Y) | fdq (a b : Y) | ins (r i z : Y) | lnt (z : Y)
  | nil | cons (a r : Y) | star (a r : Y) | nop | sm (a : Y) | yes
  | seq (z : Y) | rng (a : Y) | rng2 (a b : Y) | enm (z : Y) | zip (a b : Y) | rev (z : Y)

/-! ### calls of defs by data -/
abbrev ZSp := List U → List DO → (U → List DO → Prop) → ZX → Prop
mutual
def shU (f : Nat → Nat) : U → U
  | .d x => .d x
  | .o k => .o (f k)
  | .t us => .t (shUs f us)
def shUs (f : Nat → Nat) : List U → List U
  | [] => []
  | u :: us => shU f u :: shUs f us
end
/-- the arguments of a call: owned places are lent (the first to be written, the others to be read), all else is data that stays -/
def lendU (O : List DO) : Bool → List U → Nat → Option (List U × List Nat × List DO)
  | _, [], _ => some ([], [], [])
  | fst, u :: us, j => match u with
    | .o k => (match go O k with
      | some (.lst ds) => (match lendU O false us (j + 1) with
        | some (r, ks, L) => some (.o j :: r, k :: ks, (if fst = true then .lst ds else .brw ds) :: L)
        | none => none)
      | some (.brw ds) => (match lendU O false us (j + 1) with
        | some (r, ks, L) => some (.o j :: r, k :: ks, .brw ds :: L)
        | none => none)
      | some (.frz ds) => (match lendU O false us j with
        | some (r, ks, L) => some (.d (.lst ds) :: r, ks, L)
        | none => none)
      | none => none)
    | u => (match toD O u with
      | some d => (match lendU O false us j with
        | some (r, ks, L) => some (.d d :: r, ks, L)
        | none => none)
      | none => none)
/-- the lent places come back -/
def mrg : List Nat → List DO → List DO → List DO → Option (List DO)
  | [], [], A, O => some (O ++ A)
  | k :: ks, .lst _ :: L, a :: A, O => mrg ks L A (so O k a)
  | _ :: ks, .brw _ :: L, .brw _ :: A, O => mrg ks L A O
  | _, _, _, _ => none
def ren : List Nat → Nat → Nat → Nat
  | [], n, j => n + j
  | k :: _, _, 0 => k
  | _ :: ks, n, j + 1 => ren ks n j
def callZ (P : ZSp) (us : List U) (O : List DO) (Q : U → List DO → Prop) (E : ZX) : Prop :=
  ∃ r ks L, lendU O true us 0 = some (r, ks, L) ∧ ks.Nodup ∧
    P r L (fun u O' => ∃ O2, mrg ks L O' O = some O2 ∧ Q (shU (ren ks O.length) u) O2) (fun x O' => ∃ O2, mrg ks L O' O = some O2 ∧ E x (O2.take O.length))

/-! ### what is to be shown -/
def oneK (us : List U) (k : U → Prop) : Prop := match us with
  | [u] => k u
  | _ => False
def boolK (us : List U) (k : Bool → Prop) : Prop := match us with
  | [.d (.bl b)] => k b
  | _ => False
def nrK (O : List DO) (u : U) (k : D → Prop) : Prop := match nrm O u with
  | some x => k x
  | none => False
def toK (O : List DO) (u : U) (k : D → Prop) : Prop := match toD O u with
  | some x => k x
  | none => False
def tosK (O : List DO) (us : List U) (k : List D → Prop) : Prop := match toDs O us with
  | some ds => k ds
  | none => False
def nrs (O : List DO) : List U → Option (List D)
  | [] => some []
  | u :: us => match nrm O u with
    | some d => (match nrs O us with
      | some ds => some (d :: ds)
      | none => none)
    | none => none
def nrsK (O : List DO) (us : List U) (k : List D → Prop) : Prop := match nrs O us with
  | some ds => k ds
  | none => False
/-- read for a walk: an owned list is borrowed -/
def brK (O : List DO) (u : U) (k : D → List DO → Prop) : Prop := match u with
  | .o j => (match go O j with
    | some (.lst ds) => k (.lst ds) (so O j (.brw ds))
    | some (.brw ds) => k (.lst ds) O
    | some (.frz ds) => k (.lst ds) O
    | none => False)
  | u => (match toD O u with
    | some x => k x O
    | none => False)
/-- .. and given back -/
def unb1 : DO → DO → DO
  | .lst _, .brw ds => .lst ds
  | _, x => x
def unb : List DO → List DO → List DO
  | [], s => s
  | _ :: _, [] => []
  | o :: r, x :: s => unb1 o x :: unb r s
/-- the kind of a value -/
def tyD : D → Option String
  | .non => some "NoneType" | .bl _ => some "bool" | .int _ => some "int" | .str _ => some "str" | .tup _ => some "tuple" | .lst _ => some "list" | .scr _ => none | .dct _ _ => some "dict" | .obj _ _ _ => none
def tyU (O : List DO) : U → Option String
  | .d x => tyD x
  | .o k => match go O k with
    | some _ => some "list"
    | none => none
  | .t _ => some "tuple"
def isiB (t : String) (cs : List String) : Option Bool := match cs with
  | [] => some false
  | c :: r => match kitB t c with
    | some true => some true
    | some false => isiB t r
    | none => none
mutual
def bindT : T1 → D → List (Option U) → (List (Option U) → Prop) → Prop
  | .nm i, d, ρ, k => k (st ρ i (.d d))
  | .tp r, d, ρ, k => match d with
    | .tup ds => bindTs r ds ρ k
    | _ => False
  | .nil, _, _, _ => False
  | .cons _ _, _, _, _ => False
def bindTs : T1 → List D → List (Option U) → (List (Option U) → Prop) → Prop
  | .nil, ds, ρ, k => match ds with
    | [] => k ρ
    | _ :: _ => False
  | .cons a r, ds, ρ, k => match ds with
    | d :: ds => bindT a d ρ fun ρ1 => bindTs r ds ρ1 k
    | [] => False
  | .nm _, _, _, _ => False
  | .tp _, _, _, _ => False
end
def wipeR (ρ : List (Option U)) : List Nat → List (Option U)
  | [] => ρ
  | v :: vs => rm (wipeR ρ vs) v
where rm : List (Option U) → Nat → List (Option U)
  | [], _ => []
  | _ :: r, 0 => none :: r
  | x :: r, n + 1 => x :: rm r n
/-- a comprehension's turns -/
def compR (tg : T1) (vt ve : List (Option U) → List DO → ZQ → Prop) (ρ0 : List (Option U)) (n : Nat) : List D → List D → List DO → (List D → List DO → Prop) → Prop
  | [], acc, O, Q => Q acc O
  | d :: ds, acc, O, Q => bindT tg d ρ0 fun ρ1 => vt ρ1 O fun us O1 => boolK us fun b =>
    (b = true → ve ρ1 O1 fun ws O2 => oneK ws fun w => toK O2 w fun x => compR tg vt ve ρ0 n ds (acc ++ [x]) (O2.take n) Q) ∧
    (b = false → compR tg vt ve ρ0 n ds acc (O1.take n) Q)
def newL (own : Bool) (ds : List D) (O : List DO) (Q : ZQ) : Prop := match own with
  | true => Q [.o O.length] (O ++ [.lst ds])
  | false => Q [.d (.lst ds)] O
/-- an end of a slice -/
def partK (us : List U) (k : Option Int → Prop) : Prop := match us with
  | [] => k none
  | [.d (.int i)] => k (some i)
  | _ => False
def ofInts (ns : List Int) : List D := ns.map .int
def vc (Γ : List (Str × ZSp)) : Y → ZE
  | .var i => fun _ ρ O Q => match gt ρ i with
    | some u => Q [u] O
    | none => False
  | .int i => fun _ _ O Q => Q [.d (.int i)] O
  | .bl b => fun _ _ O Q => Q [.d (.bl b)] O
  | .non => fun _ _ O Q => Q [.d .non] O
  | .str x => fun _ _ O Q => Q [.d (.str x)] O
  | .gint _ i => fun _ _ O Q => Q [.d (.int i)] O
  | .gstr _ z => fun _ _ O Q => Q [.d (.str z)] O
  | .bin op a b => fun E ρ O Q => vc Γ a E ρ O fun us O1 => oneK us fun u => vc Γ b E ρ O1 fun ws O2 => oneK ws fun w => nrK O2 u fun x => nrK O2 w fun y => binD op x y fun z => Q [.d z] O2
  | .neg a => fun E ρ O Q => vc Γ a E ρ O fun us O1 => oneK us fun u => nrK O1 u fun x => match x with
    | .int i => Q [.d (.int (-i))] O1
    | _ => False
  | .not a => fun E ρ O Q => vc Γ a E ρ O fun us O1 => boolK us fun b => Q [.d (.bl (!b))] O1
  | .and a b => fun E ρ O Q => vc Γ a E ρ O fun us O1 => boolK us fun t => (t = true → vc Γ b E ρ O1 Q) ∧ (t = false → Q [.d (.bl false)] O1)
  | .or a b => fun E ρ O Q => vc Γ a E ρ O fun us O1 => boolK us fun t => (t = true → Q [.d (.bl true)] O1) ∧ (t = false → vc Γ b E ρ O1 Q)
  | .one a => vc Γ a
  | .cmp op a b => fun E ρ O Q => vc Γ a E ρ O fun us O1 => oneK us fun u => vc Γ b E ρ O1 fun ws O2 => oneK ws fun w => nrK O2 u fun x => nrK O2 w fun y => cmpD op x y fun t => Q [.d (.bl t)] O2
  | .chain o p a b c => fun E ρ O Q => vc Γ a E ρ O fun us O1 => oneK us fun u => vc Γ b E ρ O1 fun ws O2 => oneK ws fun w => nrK O2 u fun x => nrK O2 w fun y => cmpD o x y fun t =>
    (t = true → vc Γ c E ρ O2 fun vs O3 => oneK vs fun v => nrK O3 w fun y2 => nrK O3 v fun z => cmpD p y2 z fun t2 => Q [.d (.bl t2)] O3) ∧ (t = false → Q [.d (.bl false)] O2)
  | .ite c a b => fun E ρ O Q => vc Γ c E ρ O fun us O1 => boolK us fun t => (t = true → vc Γ a E ρ O1 Q) ∧ (t = false → vc Γ b E ρ O1 Q)
  | .tup es => fun E ρ O Q => vc Γ es E ρ O fun us O1 => tosK O1 us fun ds => ds.length ≤ sizeLine ∧ Q [.d (.tup ds)] O1
  | .tupU es => fun E ρ O Q => vc Γ es E ρ O fun us O1 => us.length ≤ sizeLine ∧ Q [.t us] O1
  | .lst own es => fun E ρ O Q => vc Γ es E ρ O fun us O1 => tosK O1 us fun ds => ds.length ≤ sizeLine ∧ newL own ds O1 Q
  | .call g es => fun E ρ O Q => vc Γ es E ρ O fun us O1 => match Γ[g]? with
    | some (_, P) => callZ P us O1 (fun u O2 => Q [u] O2) E
    | none => False
  | .blt f es => fun E ρ O Q => vc Γ es E ρ O fun us O1 => nrsK O1 us fun ds => f.op ds fun z => Q [.d z] O1
  | .lis z => fun E ρ O Q => vc Γ z E ρ O fun us O1 => oneK us fun u => nrK O1 u fun x => listD [x] fun y => match y with
    | .lst ds => newL true ds O1 Q
    | _ => False
  | .isi a cs => fun E ρ O Q => vc Γ a E ρ O fun us O1 => oneK us fun u => match tyU O1 u with
    | some t => ∃ b, isiB t cs = some b ∧ Q [.d (.bl b)] O1
    | none => False
  | .ix a b => fun E ρ O Q => vc Γ a E ρ O fun us O1 => oneK us fun u => vc Γ b E ρ O1 fun ws O2 => oneK ws fun w => nrK O2 w fun y => match u with
    | .t vs => (match y with
      | .int i => ∃ v, atI vs i = some v ∧ Q [v] O2
      | _ => False)
    | u => nrK O2 u fun x => ixD x y fun z => Q [.d z] O2
  | .sl a lo hi => fun E ρ O Q => vc Γ a E ρ O fun us O1 => oneK us fun u => vc Γ lo E ρ O1 fun ls O2 => partK ls fun l => vc Γ hi E ρ O2 fun hs O3 => partK hs fun h =>
    nrK O3 u fun x => slD x l h fun z => Q [.d z] O3
  | .rep a b => fun E ρ O Q => vc Γ a E ρ O fun us O1 => oneK us fun u => vc Γ b E ρ O1 fun ws O2 => oneK ws fun w => nrK O2 u fun x => nrK O2 w fun y => mulD x y fun z => match z with
    | .lst ds => newL true ds O2 Q
    | _ => False
  | .comp own vs tg src tst elt => fun E ρ O Q => vc Γ src E ρ O fun us O1 => ∃ ds, us = ds.map .d ∧ ds.length ≤ sizeLine ∧
    compR tg (vc Γ tst fun _ _ => False) (vc Γ elt fun _ _ => False) (wipeR ρ vs) O1.length ds [] O1 fun acc O2 => newL own acc (unb O O2) Q
  | .app r z => fun E ρ O Q => vc Γ r E ρ O fun rs O0 => oneK rs fun r => match r with
    | .o k => vc Γ z E ρ O0 fun us O1 => oneK us fun u => toK O1 u fun x => (match go O1 k with
      | some (.lst ds) => ds.length < sizeLine ∧ Q [.d .non] (so O1 k (.lst (ds ++ [x])))
      | _ => False)
    | _ => False
  | .fdq a b => fun E ρ O Q => vc Γ a E ρ O fun us O1 => oneK us fun u => vc Γ b E ρ O1 fun ws O2 => oneK ws fun w => nrK O2 u fun x => nrK O2 w fun y => fdqD x y fun z => Q [.d z] O2
  | .ins r i z => fun E ρ O Q => vc Γ r E ρ O fun rs O0 => oneK rs fun r => match r with
    | .o k => vc Γ i E ρ O0 fun is O1 => oneK is fun i => vc Γ z E ρ O1 fun us O2 => oneK us fun u => toK O2 u fun x => (match go O2 k, i with
      | some (.lst ds), .d (.int j) => (ds.length < sizeLine ∧ 0 ≤ j ∧ j < 2 ^ 63) ∧ Q [.d .non] (so O2 k (.lst (ds.take j.toNat ++ [x] ++ ds.drop j.toNat)))
      | _, _ => False)
    | _ => False
  | .lnt z => fun E ρ O Q => vc Γ z E ρ O fun us O1 => oneK us fun u => match u with
    | .t vs => Q [.d (.int vs.length)] O1
    | _ => False
  | .fz z => fun E ρ O Q => vc Γ z E ρ O fun us O1 => oneK us fun u => match u with
    | .o k => (match go O1 k with
      | some (.lst ds) => Q [.d (.lst ds)] (so O1 k (.frz ds))
      | _ => False)
    | u => Q [u] O1
  | .nil => fun _ _ O Q => Q [] O
  | .cons a r => fun E ρ O Q => vc Γ a E ρ O fun us O1 => oneK us fun u => vc Γ r E ρ O1 fun ws O2 => Q (u :: ws) O2
  | .star a r => fun E ρ O Q => vc Γ a E ρ O fun us O1 => oneK us fun u => nrK O1 u fun x => match x with
    | .lst ds => vc Γ r E ρ O1 fun ws O2 => Q (ds.map .d ++ ws) O2
    | .tup ds => vc Γ r E ρ O1 fun ws O2 => Q (ds.map .d ++ ws) O2
    | _ => False
  | .nop => fun _ _ O Q => Q [] O
  | .sm a => fun E ρ O Q => vc Γ a E ρ O fun us O1 => oneK us fun u => Q [u] O1
  | .yes => fun _ _ O Q => Q [.d (.bl true)] O
  | .seq z => fun E ρ O Q => vc Γ z E ρ O fun us O1 => oneK us fun u => brK O1 u fun x O2 => match x with
    | .lst ds => Q (ds.map .d) O2
    | .tup ds => Q (ds.map .d) O2
    | _ => False
  | .rng a => fun E ρ O Q => vc Γ a E ρ O fun us O1 => oneK us fun u => nrK O1 u fun x => match x with
    | .int j => (-(2 ^ 62) ≤ j ∧ j < 2 ^ 62) ∧ Q (((List.range j.toNat).map fun (i : Nat) => D.int (0 + (i : Int))).map .d) O1
    | _ => False
  | .rng2 a b => fun E ρ O Q => vc Γ a E ρ O fun us O1 => oneK us fun u => vc Γ b E ρ O1 fun ws O2 => oneK ws fun w => nrK O2 u fun x => nrK O2 w fun y => match x, y with
    | .int i, .int j => (-(2 ^ 62) ≤ i ∧ i < 2 ^ 62 ∧ -(2 ^ 62) ≤ j ∧ j < 2 ^ 62) ∧ Q (((List.range (j - i).toNat).map fun (m : Nat) => D.int (i + (m : Int))).map .d) O2
    | _, _ => False
  | .enm z => fun E ρ O Q => vc Γ z E ρ O fun us O1 => oneK us fun u => brK O1 u fun x O2 => match x with
    | .lst ds => Q ((ds.mapIdx fun (i : Nat) d => D.tup [.int (i : Int), d]).map .d) O2
    | .tup ds => Q ((ds.mapIdx fun (i : Nat) d => D.tup [.int (i : Int), d]).map .d) O2
    | _ => False
  | .zip a b => fun E ρ O Q => vc Γ a E ρ O fun us O1 => oneK us fun u => vc Γ b E ρ O1 fun ws O2 => oneK ws fun w => brK O2 u fun x O3 => brK O3 w fun y O4 => match x, y with
    | .lst ds, .lst es => Q ((List.zipWith (fun d e => D.tup [d, e]) ds es).map .d) O4
    | .tup ds, .tup es => Q ((List.zipWith (fun d e => D.tup [d, e]) ds es).map .d) O4
    | .lst ds, .tup es => Q ((List.zipWith (fun d e => D.tup [d, e]) ds es).map .d) O4
    | _, _ => False
  | .rev z => fun E ρ O Q => vc Γ z E ρ O fun us O1 => oneK us fun u => brK O1 u fun x O2 => match x with
    | .lst ds => Q (ds.reverse.map .d) O2
    | _ => False
end Z

set_option Elab.async false
set_option linter.all false
set_option maxRecDepth 100000
set_option maxHeartbeats 4000000
namespace Z
open PySem PySem.Spec PyProof.Rows L2

/-! ### the text is the resolved one -/
structure Sx where
  N : List Str
  sc : Scope
  so : Scope
structure Ck where
  E : Expr → Bool := fun _ => false
  T : Expr → Bool := fun _ => false
  A : List Expr → Bool := fun _ => false
  I : Expr → Expr → Bool := fun _ _ => false
  O : Option Expr → Bool := fun _ => false
def visB (sc : Scope) (x : Str) : Bool := match sc.names.lookup x with
  | some .local => true
  | some .cell => true
  | some .free => true
  | _ => false
def gloB (sc : Scope) (x : Str) : Bool := decide (sc.names.lookup x = some .globalImplicit)
def oknB (x : Str) : Bool := !(x == ("__debug__" : Str)) && !(x == ("__classdict__" : Str))
def ownB (sc : Scope) (x : Str) : Bool := match sc.names.lookup x with
  | some .local => true
  | some .cell => true
  | _ => false
def plainT : Expr → Bool
  | .UnaryOp .Not _ _ => false
  | .BoolOp _ _ _ => false
  | .IfExp _ _ _ _ => false
  | .Compare _ _ _ _ => false
  | _ => true
def noStar : Expr → Bool
  | .Starred _ _ => false
  | _ => true
def noSet : Expr → Bool
  | .Set _ _ _ => false
  | _ => true
def noSlice : Expr → Bool
  | .Slice _ _ _ _ => false
  | _ => true
def plainO : Expr → Bool
  | .Name _ _ => true
  | .Subscript _ _ _ => true
  | _ => false
def isTup : Expr → Bool
  | .Tuple _ _ _ => true
  | _ => false
mutual
def ckG (S : Sx) : T1 → Expr → Bool
  | .nm i, .Name x _ => decide (S.N[i]? = some x) && ownB S.so x
  | .tp r, .Tuple es _ _ => ckGs S r es
  | _, _ => false
def ckGs (S : Sx) : T1 → List Expr → Bool
  | .nil, [] => true
  | .cons a r, e :: es => noStar e && ckG S a e && ckGs S r es
  | _, _ => false
end
mutual
def slots : T1 → List Nat
  | .nm i => [i]
  | .tp r => slots r
  | .nil => []
  | .cons a r => slots a ++ slots r
end
def cE (f : Expr → Bool) : Ck := { E := f, T := fun e => plainT e && f e, O := fun _ => false }
def ownN (N : List Str) (vs : List Nat) : List (Str × Nat) := vs.map fun i => (N.getD i Str.empty, i)
def tyB (sc : Scope) (t : Str) (n : String) : Bool := decide (t = Str.ofString n) && gloB sc t && ["int", "bool", "str", "list", "tuple", "dict"].contains n
def tysB (sc : Scope) : List Expr → List String → Bool
  | [], [] => true
  | .Name t _ :: ts, n :: ns => tyB sc t n && tysB sc ts ns
  | _, _ => false
def isiC (sc : Scope) : Expr → List String → Bool
  | .Name t _, [n] => tyB sc t n
  | .Tuple ts _ _, ns => tysB sc ts ns
  | _, _ => false
def compC (Γt Γe : Sx → Ck) (Γs : Ck) (S : Sx) (vs : List Nat) (tg : T1) (yes : Bool) : Expr → Bool
  | .ListComp e [⟨t, it, ifs, 0⟩] scope _ => blkC S.N S.sc scope (ownN S.N vs) && ckG ⟨S.N, relS scope S.sc, scope⟩ tg t && (slots tg).all (fun i => vs.contains i) && Γs.I t it && noSet it &&
      (match ifs with
        | [] => yes
        | [c] => !yes && (Γt ⟨S.N, relS scope S.sc, scope⟩).T c
        | _ => false) && (Γe ⟨S.N, relS scope S.sc, scope⟩).E e
  | _ => false
def isYes : Y → Bool
  | .yes => true
  | _ => false
def notC (f : Expr → Bool) : Expr → Bool
  | .UnaryOp .Not x _ => f x
  | _ => false
def andC (f g : Expr → Bool) : Expr → Bool
  | .BoolOp .And (x :: y :: r) p => f x && g (.BoolOp .And (y :: r) p)
  | _ => false
def orC (f g : Expr → Bool) : Expr → Bool
  | .BoolOp .Or (x :: y :: r) p => f x && g (.BoolOp .Or (y :: r) p)
  | _ => false
def oneC (f : Expr → Bool) : Expr → Bool
  | .BoolOp _ [x] _ => f x
  | _ => false
def cmpC (op : CmpOp) (f g : Expr → Bool) : Expr → Bool
  | .Compare l [o] [r] _ => decide (op = o) && f l && g r && noSet r
  | _ => false
def chainC (o p : CmpOp) (f g h : Expr → Bool) : Expr → Bool
  | .Compare l [o1, p1] [m, r] _ => decide (o = o1) && decide (p = p1) && f l && g m && h r && noSet m && noSet r
  | _ => false
def iteC (f g h : Expr → Bool) : Expr → Bool
  | .IfExp t x y _ => f t && g x && h y
  | _ => false
def nilC : List Expr → Bool
  | [] => true
  | _ => false
def consC (f : Expr → Bool) (g : List Expr → Bool) : List Expr → Bool
  | e :: es => noStar e && f e && g es
  | _ => false
def starC (f : Expr → Bool) (g : List Expr → Bool) : List Expr → Bool
  | .Starred e _ :: es => f e && g es
  | _ => false
def nopC : Option Expr → Bool
  | none => true
  | _ => false
def smC (f : Expr → Bool) : Option Expr → Bool
  | some e => f e
  | _ => false
def rngC (sc : Scope) (f : Expr → Bool) : Expr → Bool
  | .Call (.Name n _) [x] [] _ => decide (n = "range") && gloB sc n && noStar x && f x
  | _ => false
def rng2C (sc : Scope) (f g : Expr → Bool) : Expr → Bool
  | .Call (.Name n _) [x, y] [] _ => decide (n = "range") && gloB sc n && noStar x && noStar y && f x && g y
  | _ => false
def enmC (sc : Scope) (f : Expr → Bool) (t : Expr) : Expr → Bool
  | .Call (.Name n _) [x] [] _ => isTup t && decide (n = "enumerate") && gloB sc n && noStar x && f x
  | _ => false
def zipC (sc : Scope) (f g : Expr → Bool) (t : Expr) : Expr → Bool
  | .Call (.Name n _) [x, y] [] _ => isTup t && decide (n = "zip") && gloB sc n && noStar x && noStar y && f x && g y
  | _ => false
def revC (sc : Scope) (f : Expr → Bool) : Expr → Bool
  | .Call (.Name n _) [x] [] _ => decide (n = "reversed") && gloB sc n && noStar x && f x
  | _ => false
def ck (Γn : List Str) : Y → Sx → Ck
  | .var i, S => cE (fun | .Name x _ => decide (S.N[i]? = some x) && visB S.sc x && oknB x | _ => false)
  | .int i, S => cE (fun | .Constant (.int j) _ _ => decide (i = j) | _ => false)
  | .bl b, S => cE (fun | .Constant (.bool c) _ _ => decide (b = c) | _ => false)
  | .non, S => cE (fun | .Constant .none _ _ => true | _ => false)
  | .str x, S => cE (fun | .Constant (.str y) _ _ => decide (x = y) | _ => false)
  | .gint _ _, S => {}
  | .gstr _ _, S => {}
  | .bin op a b, S => cE (fun | .BinOp l o r _ => decide (op = o) && (ck Γn a S).E l && (ck Γn b S).E r | _ => false)
  | .neg a, S => cE (fun | .UnaryOp .USub x _ => (ck Γn a S).E x | _ => false)
  | .not a, S => { E := notC (ck Γn a S).E, T := notC (ck Γn a S).T }
  | .and a b, S => { E := andC (ck Γn a S).E (ck Γn b S).E, T := andC (ck Γn a S).T (ck Γn b S).T }
  | .or a b, S => { E := orC (ck Γn a S).E (ck Γn b S).E, T := orC (ck Γn a S).T (ck Γn b S).T }
  | .one a, S => { E := oneC (ck Γn a S).E, T := oneC (ck Γn a S).T }
  | .cmp op a b, S => { E := cmpC op (ck Γn a S).E (ck Γn b S).E, T := cmpC op (ck Γn a S).E (ck Γn b S).E }
  | .chain o p a b c, S => { E := chainC o p (ck Γn a S).E (ck Γn b S).E (ck Γn c S).E, T := chainC o p (ck Γn a S).E (ck Γn b S).E (ck Γn c S).E }
  | .ite c a b, S => { E := iteC (ck Γn c S).T (ck Γn a S).E (ck Γn b S).E }
  | .tup es, S => cE (fun | .Tuple xs _ _ => (ck Γn es S).A xs | _ => false)
  | .tupU es, S => cE (fun | .Tuple xs _ _ => (ck Γn es S).A xs | _ => false)
  | .lst _ es, S => cE (fun | .List xs _ => (ck Γn es S).A xs | _ => false)
  | .call g es, S => cE (fun | .Call (.Name f _) (x :: xs) [] _ => decide (Γn[g]? = some f) && gloB S.sc f && oknB f && noStar x && xs.all noStar && (ck Γn es S).A (x :: xs) | _ => false)
  | .blt b es, S => cE (fun | .Call (.Name f _) (x :: xs) [] _ => decide (f = b.name) && gloB S.sc f && noStar x && xs.all noStar && (ck Γn es S).A (x :: xs) | _ => false)
  | .lis z, S => cE (fun | .Call (.Name f _) [x] [] _ => decide (f = "list") && gloB S.sc f && noStar x && (ck Γn z S).E x | _ => false)
  | .isi a cs, S => cE (fun | .Call (.Name f _) [x, c] [] _ => decide (f = "isinstance") && gloB S.sc f && noStar x && noStar c && (ck Γn a S).E x && isiC S.sc c cs && decide (cs.length ≤ 20) | _ => false)
  | .ix a b, S => cE (fun | .Subscript x i _ => (ck Γn a S).E x && (ck Γn b S).E i && noSlice i | _ => false)
  | .sl a lo hi, S => cE (fun | .Subscript x (.Slice l h none _) _ => (ck Γn a S).E x && (ck Γn lo S).O l && (ck Γn hi S).O h | _ => false)
  | .rep a b, S => cE (fun | .BinOp l .Mult r _ => (ck Γn a S).E l && (ck Γn b S).E r | _ => false)
  | .comp _ vs tg src tst elt, S => cE (compC (ck Γn tst) (ck Γn elt) (ck Γn src S) S vs tg (isYes tst))
  | .app r z, S => cE (fun | .Call (.Attribute o m ap) [e] [] cp => (ap.endLine == cp.line) && decide (m = "append") && plainO o && noStar e && (ck Γn r S).E o && (ck Γn z S).E e | _ => false)
  | .fdq a b, S => cE (fun | .BinOp l o r _ => decide (Operator.FloorDiv = o) && (ck Γn a S).E l && (ck Γn b S).E r | _ => false)
  | .ins r i z, S => cE (fun | .Call (.Attribute o m ap) [x, e] [] cp => (ap.endLine == cp.line) && decide (m = "insert") && plainO o && noStar x && noStar e && (ck Γn r S).E o && (ck Γn i S).E x && (ck Γn z S).E e | _ => false)
  | .lnt z, S => cE (fun | .Call (.Name f _) [x] [] _ => decide (f = "len") && gloB S.sc f && noStar x && (ck Γn z S).E x | _ => false)
  | .fz z, S => cE (ck Γn z S).E
  | .nil, _ => { A := nilC }
  | .cons a r, S => { A := consC (ck Γn a S).E (ck Γn r S).A }
  | .star a r, S => { A := starC (ck Γn a S).E (ck Γn r S).A }
  | .nop, _ => { O := nopC }
  | .sm a, S => { O := smC (ck Γn a S).E }
  | .yes, _ => {}
  | .seq z, S => { I := fun _ e => (ck Γn z S).E e }
  | .rng a, S => { I := fun _ e => rngC S.sc (ck Γn a S).E e }
  | .rng2 a b, S => { I := fun _ e => rng2C S.sc (ck Γn a S).E (ck Γn b S).E e }
  | .enm z, S => { I := fun t e => enmC S.sc (ck Γn z S).E t e }
  | .zip a b, S => { I := fun t e => zipC S.sc (ck Γn a S).E (ck Γn b S).E t e }
  | .rev z, S => { I := fun _ e => revC S.sc (ck Γn z S).E e }
end Z

set_option Elab.async false
set_option linter.all false
set_option maxRecDepth 100000
set_option maxHeartbeats 4000000
namespace Z
open PySem PySem.Spec PyProof.Rows L2

/-- a def's promise by data, as a promise of the layer -/
def lowSp (G : Gx) (P : ZSp) : Sp := fun vs H Q E => ∃ B α O us Q0 E0, Own G B α O H ∧ AtUs G.K B α O H vs us ∧ P us O Q0 E0 ∧
  (∀ u O', Q0 u O' → ∀ α' v H', Stp α O H α' O' H' → Own G B α' O' H' → AtU G.K B α' O' H' v u → Q v H') ∧ ELow G B E α O H E0
section
variable {G : Gx} {B : Addr → Prop} {α α' β : List Addr} {O O' N : List DO} {H H' : Hp} {W0 : XK} {E0 : ZX}
theorem Own.tracked (w : Own G B α O H) {a : Addr} (h : a ∈ α) : ∃ o, H a = some o := by
  cases q : H a with
  | some o => exact ⟨o, rfl⟩
  | none => exact absurd h (own_fresh w q)
theorem ow_app (hl : α.length = O.length) {b : Addr} (m : Ow (α ++ β) (O ++ N) b) : Ow α O b ∨ Ow β N b := by
  obtain ⟨k, o, e1, e2, l⟩ := m
  by_cases hk : k < α.length
  · rw [List.getElem?_append_left hk] at e1
    rw [List.getElem?_append_left (by omega)] at e2
    exact .inl ⟨k, o, e1, e2, l⟩
  · rw [List.getElem?_append_right (by omega)] at e1
    rw [List.getElem?_append_right (by omega)] at e2
    rw [hl] at e1
    exact .inr ⟨k - O.length, o, e1, e2, l⟩
theorem ow_appL {b : Addr} (m : Ow α O b) : Ow (α ++ β) (O ++ N) b := by
  obtain ⟨k, o, e1, e2, l⟩ := m
  exact ⟨k, o, by rw [List.getElem?_append_left (List.getElem?_eq_some_iff.mp e1).1]; exact e1, by rw [List.getElem?_append_left (List.getElem?_eq_some_iff.mp e2).1]; exact e2, l⟩
theorem ow_appR (hl : α.length = O.length) {b : Addr} (m : Ow β N b) : Ow (α ++ β) (O ++ N) b := by
  obtain ⟨k, o, e1, e2, l⟩ := m
  refine ⟨O.length + k, o, ?_, ?_, l⟩
  · rw [List.getElem?_append_right (by omega), hl]
    rw [show O.length + k - O.length = k by omega]
    exact e1
  · rw [List.getElem?_append_right (by omega)]
    rw [show O.length + k - O.length = k by omega]
    exact e2
mutual
theorem AtU.sh {B2 : Addr → Prop} {α2 : List Addr} {O2 : List DO} {f : Nat → Nat} (hm : ∀ a, Mu B2 α2 O2 a → Mu B α O a) (hi : ∀ k a, α[k]? = some a → α2[f k]? = some a) : ∀ {u : U} {v : V}, AtU G.K B α O H v u → AtU G.K B2 α2 O2 H v (shU f u)
  | .d x, _, .d a => by rw [shU]; exact .d (a.less hm)
  | .o k, _, .o e => by rw [shU]; exact .o (hi _ _ e)
  | .t us, _, .t e m r => by rw [shU]; exact .t e (fun z => m (hm _ z)) (AtUs.sh hm hi r)
theorem AtUs.sh {B2 : Addr → Prop} {α2 : List Addr} {O2 : List DO} {f : Nat → Nat} (hm : ∀ a, Mu B2 α2 O2 a → Mu B α O a) (hi : ∀ k a, α[k]? = some a → α2[f k]? = some a) : ∀ {us : List U} {vs : List V}, AtUs G.K B α O H vs us → AtUs G.K B2 α2 O2 H vs (shUs f us)
  | [], _, .nil => by rw [shUs]; exact .nil
  | _ :: _, _, .cons a r => by rw [shUs]; exact .cons (AtU.sh hm hi a) (AtUs.sh hm hi r)
end

/-- what is lent: places of ours, in some order -/
structure Lent (α : List Addr) (O : List DO) (ks : List Nat) (L : List DO) : Prop where
  len : ks.length = L.length
  ok : ∀ (j k : Nat), ks[j]? = some k → ∃ o o', O[k]? = some o ∧ L[j]? = some o' ∧ live o = true ∧ live o' = true ∧ (hot o' = true → hot o = true) ∧ (o' = o ∨ ∃ ds, o = .lst ds ∧ o' = .brw ds)
theorem lendU_ok (w : Own G B α O H) : ∀ {us r : List U} {vs : List V} {ks : List Nat} {L : List DO} {f : Bool} {j0 : Nat}, lendU O f us j0 = some (r, ks, L) → AtUs G.K B α O H vs us → Lent α O ks L ∧
    ∀ (B2 : Addr → Prop) (α2 : List Addr) (O2 : List DO), (∀ a, Mu B2 α2 O2 a → Mu B α O a) → (∀ (i k : Nat) a, ks[i]? = some k → α[k]? = some a → α2[j0 + i]? = some a) → AtUs G.K B2 α2 O2 H vs r
  | [], r, [], ks, L, f, j0, e, a => by
    rw [lendU] at e
    cases e
    exact ⟨⟨rfl, fun j k e => by simp at e⟩, fun _ _ _ _ _ => .nil⟩
  | u :: us, r, _ :: vs, ks, L, f, j0, e, .cons au ar => by
    have cons1 : ∀ {k : Nat} {o o' : DO} {r' : List U} {ks' : List Nat} {L' : List DO} {vs' : List V} {p : Addr}, O[k]? = some o → live o = true → live o' = true → (hot o' = true → hot o = true) → (o' = o ∨ ∃ ds, o = .lst ds ∧ o' = .brw ds) → α[k]? = some p →
        (Lent α O ks' L' ∧ ∀ (B2 : Addr → Prop) (α2 : List Addr) (O2 : List DO), (∀ a, Mu B2 α2 O2 a → Mu B α O a) → (∀ (i k : Nat) a, ks'[i]? = some k → α[k]? = some a → α2[(j0 + 1) + i]? = some a) → AtUs G.K B2 α2 O2 H vs' r') →
        Lent α O (k :: ks') (o' :: L') ∧ ∀ (B2 : Addr → Prop) (α2 : List Addr) (O2 : List DO), (∀ a, Mu B2 α2 O2 a → Mu B α O a) → (∀ (i k' : Nat) a, (k :: ks')[i]? = some k' → α[k']? = some a → α2[j0 + i]? = some a) → AtUs G.K B2 α2 O2 H (.ref p :: vs') (.o j0 :: r') := by
      intro k o o' r' ks' L' vs' p h1 h2 h3 h4 h5 h6 ⟨ih1, ih2⟩
      refine ⟨⟨by rw [List.length_cons, List.length_cons, ih1.len], fun j k' e => ?_⟩, fun B2 α2 O2 hm hi => .cons (.o (hi 0 k p rfl h6)) (ih2 B2 α2 O2 hm fun i k' a e1 e2 => ?_)⟩
      · cases j with
        | zero =>
          cases e
          exact ⟨o, o', h1, rfl, h2, h3, h4, h5⟩
        | succ j =>
          obtain ⟨o1, o2, g⟩ := ih1.ok j k' (by simpa using e)
          exact ⟨o1, o2, g.1, by simpa using g.2.1, g.2.2⟩
      · have := hi (i + 1) k' a (by simpa using e1) e2
        rw [← this]
        congr 1
        omega
    have cons0 : ∀ {d : D} {r' : List U} {ks' : List Nat} {L' : List DO} {v : V} {vs' : List V}, At G.K (Mu B α O) H v d →
        (Lent α O ks' L' ∧ ∀ (B2 : Addr → Prop) (α2 : List Addr) (O2 : List DO), (∀ a, Mu B2 α2 O2 a → Mu B α O a) → (∀ (i k : Nat) a, ks'[i]? = some k → α[k]? = some a → α2[j0 + i]? = some a) → AtUs G.K B2 α2 O2 H vs' r') →
        Lent α O ks' L' ∧ ∀ (B2 : Addr → Prop) (α2 : List Addr) (O2 : List DO), (∀ a, Mu B2 α2 O2 a → Mu B α O a) → (∀ (i k' : Nat) a, ks'[i]? = some k' → α[k']? = some a → α2[j0 + i]? = some a) → AtUs G.K B2 α2 O2 H (v :: vs') (.d d :: r') := by
      intro d r' ks' L' v vs' ha ⟨ih1, ih2⟩
      exact ⟨ih1, fun B2 α2 O2 hm hi => .cons (.d (ha.less hm)) (ih2 B2 α2 O2 hm hi)⟩
    have dat : (match toD O u with
      | some d => (match lendU O false us j0 with
        | some (r, ks, L) => some (.d d :: r, ks, L)
        | none => none)
      | none => none) = some (r, ks, L) → Lent α O ks L ∧ ∀ (B2 : Addr → Prop) (α2 : List Addr) (O2 : List DO), (∀ a, Mu B2 α2 O2 a → Mu B α O a) → (∀ (i k : Nat) a, ks[i]? = some k → α[k]? = some a → α2[j0 + i]? = some a) → AtUs G.K B2 α2 O2 H _ r := fun e => by
      cases q : toD O u with
      | none => rw [q] at e; cases e
      | some d =>
        rw [q] at e
        cases q2 : lendU O false us j0 with
        | none => rw [q2] at e; cases e
        | some p =>
          rw [q2] at e
          obtain ⟨r', ks', L'⟩ := p
          cases e
          exact cons0 (At.of w au q) (lendU_ok w q2 ar)
    cases u with
    | d x => exact dat e
    | t x => exact dat e
    | o k =>
      rw [lendU] at e
      cases au with
      | @o _ p ep =>
      rw [go_eq] at e
      cases q : O[k]? with
      | none => rw [q] at e; cases e
      | some o =>
        rw [q] at e
        cases o with
        | lst ds =>
          cases q2 : lendU O false us (j0 + 1) with
          | none => simp only [q2] at e; cases e
          | some t =>
            obtain ⟨r', ks', L'⟩ := t
            simp only [q2] at e
            cases e
            refine cons1 q rfl ?_ (fun _ => rfl) ?_ ep (lendU_ok w q2 ar)
            · cases f <;> rfl
            · cases f
              · exact .inr ⟨ds, rfl, rfl⟩
              · exact .inl rfl
        | brw ds =>
          cases q2 : lendU O false us (j0 + 1) with
          | none => simp only [q2] at e; cases e
          | some t =>
            obtain ⟨r', ks', L'⟩ := t
            simp only [q2] at e
            cases e
            exact cons1 q rfl rfl id (.inl rfl) ep (lendU_ok w q2 ar)
        | frz ds =>
          cases q2 : lendU O false us j0 with
          | none => simp only [q2] at e; cases e
          | some t =>
            obtain ⟨r', ks', L'⟩ := t
            simp only [q2] at e
            cases e
            have h := w.at_ k p _ ep q
            exact cons0 h (lendU_ok w q2 ar)
/-- what comes back -/
theorem mrg_ok : ∀ {ks : List Nat} {L A O O2 : List DO}, mrg ks L A O = some O2 → ks.Nodup → (∀ k ∈ ks, k < O.length) →
    ∃ A0 rest M, A = A0 ++ rest ∧ A0.length = ks.length ∧ O2 = M ++ rest ∧ M.length = O.length ∧ (∀ i, i ∉ ks → M[i]? = O[i]?) ∧
      ∀ (j k : Nat), ks[j]? = some k → M[k]? = A0[j]? ∨ (M[k]? = O[k]? ∧ ∃ ds ds', L[j]? = some (.brw ds) ∧ A0[j]? = some (.brw ds'))
  | [], [], A, O, O2, e, _, _ => by
    rw [mrg] at e
    cases e
    exact ⟨[], A, O, rfl, rfl, rfl, rfl, fun _ _ => rfl, fun j k e => by simp at e⟩
  | [], _ :: _, A, O, O2, e, _, _ => by simp [mrg] at e
  | k :: ks, [], A, O, O2, e, _, _ => by simp [mrg] at e
  | k :: ks, .frz _ :: L, A, O, O2, e, _, _ => by simp [mrg] at e
  | k :: ks, .lst _ :: L, [], O, O2, e, _, _ => by simp [mrg] at e
  | k :: ks, .brw _ :: L, [], O, O2, e, _, _ => by simp [mrg] at e
  | k :: ks, .brw _ :: L, .lst _ :: A, O, O2, e, _, _ => by simp [mrg] at e
  | k :: ks, .brw _ :: L, .frz _ :: A, O, O2, e, _, _ => by simp [mrg] at e
  | k :: ks, .lst d0 :: L, a :: A, O, O2, e, nd, hk => by
    rw [mrg, so_eq] at e
    have nd' := List.nodup_cons.mp nd
    obtain ⟨A0, rest, M, h1, h2, h3, h4, h5, h6⟩ := mrg_ok e nd'.2 (fun k' hk' => by rw [List.length_set]; exact hk k' (List.mem_cons_of_mem _ hk'))
    refine ⟨a :: A0, rest, M, by rw [h1]; rfl, by rw [List.length_cons, h2]; rfl, h3, by rw [h4, List.length_set], fun i hi => ?_, fun j k' ej => ?_⟩
    · rw [h5 i (fun z => hi (List.mem_cons_of_mem _ z)), List.getElem?_set_ne (fun z => hi (by rw [z]; exact List.mem_cons_self))]
    · cases j with
      | zero =>
        have ej : k = k' := by simpa using ej
        subst ej
        left
        rw [h5 k nd'.1, List.getElem?_set_self (hk k List.mem_cons_self)]
        rfl
      | succ j =>
        have ej : ks[j]? = some k' := by simpa using ej
        have hne : k ≠ k' := fun z => nd'.1 (by rw [z]; exact List.mem_of_getElem? ej)
        rcases h6 j k' ej with g | ⟨g, ds, ds', g2, g3⟩
        · exact .inl (by rw [g]; simp)
        · exact .inr ⟨by rw [g, List.getElem?_set_ne hne], ds, ds', by simpa using g2, by simpa using g3⟩
  | k :: ks, .brw d0 :: L, .brw d1 :: A, O, O2, e, nd, hk => by
    rw [mrg] at e
    have nd' := List.nodup_cons.mp nd
    obtain ⟨A0, rest, M, h1, h2, h3, h4, h5, h6⟩ := mrg_ok e nd'.2 (fun k' hk' => hk k' (List.mem_cons_of_mem _ hk'))
    refine ⟨.brw d1 :: A0, rest, M, by rw [h1]; rfl, by rw [List.length_cons, h2]; rfl, h3, h4, fun i hi => h5 i (fun z => hi (List.mem_cons_of_mem _ z)), fun j k' ej => ?_⟩
    cases j with
    | zero =>
      have ej : k = k' := by simpa using ej
      subst ej
      exact .inr ⟨h5 k nd'.1, d0, d1, rfl, rfl⟩
    | succ j =>
      have ej : ks[j]? = some k' := by simpa using ej
      rcases h6 j k' ej with g | ⟨g, ds, ds', g2, g3⟩
      · exact .inl (by rw [g]; simp)
      · exact .inr ⟨g, ds, ds', by simpa using g2, by simpa using g3⟩
theorem ren_lt : ∀ {ks : List Nat} {n j k : Nat}, ks[j]? = some k → ren ks n j = k
  | [], _, _, _, h => by simp at h
  | _ :: _, _, 0, _, h => by simpa [ren] using h
  | _ :: ks, n, j + 1, k, h => by
    rw [ren]
    exact ren_lt (by simpa using h)
theorem ren_ge : ∀ {ks : List Nat} {n j : Nat}, ks.length ≤ j → ren ks n j = n + (j - ks.length)
  | [], _, _, _ => rfl
  | _ :: _, _, 0, h => by simp at h
  | _ :: ks, n, j + 1, h => by
    rw [ren, ren_ge (by simpa using h), List.length_cons]
    congr 1
    omega
/-- our places, those that are lent -/
def pick (α : List Addr) (ks : List Nat) : List Addr := ks.map fun k => α.getD k 0
theorem pick_at {α : List Addr} {ks : List Nat} {j k : Nat} {a : Addr} (h : ks[j]? = some k) (e : α[k]? = some a) : (pick α ks)[j]? = some a := by
  unfold pick
  rw [List.getElem?_map, h]
  show some (α.getD k 0) = some a
  rw [List.getD_eq_getElem?_getD, e]
  rfl
theorem call_key {ks : List Nat} {L : List DO} (w : Own G B α O H) (nd : ks.Nodup) (l : Lent α O ks L) : ∃ B' : Addr → Prop, Own G B' (pick α ks) L H ∧ (∀ b, Mu B' (pick α ks) L b → Mu B α O b) ∧
    ∀ {γ : List Addr} {N O2 : List DO} {H' : Hp}, mrg ks L N O = some O2 → Stp (pick α ks) L H γ N H' → Own G B' γ N H' → ∃ α2, Stp α O H α2 O2 H' ∧ Own G B α2 O2 H' ∧ (∀ b, Mu B α2 O2 b → Mu B' γ N b) ∧ (∀ (j : Nat) a, γ[j]? = some a → α2[ren ks O.length j]? = some a) := by
  have hk : ∀ (j k : Nat), ks[j]? = some k → ∃ a, α[k]? = some a ∧ (pick α ks)[j]? = some a := fun j k e => by
    obtain ⟨o, o', h1, _⟩ := l.ok j k e
    have hlt : k < α.length := by rw [w.len]; exact (List.getElem?_eq_some_iff.mp h1).1
    exact ⟨α[k], List.getElem?_eq_getElem hlt, pick_at e (List.getElem?_eq_getElem hlt)⟩
  have hpl : (pick α ks).length = ks.length := by unfold pick; rw [List.length_map]
  have hpk : ∀ (j : Nat) a, (pick α ks)[j]? = some a → ∃ k, ks[j]? = some k ∧ α[k]? = some a := fun j a e => by
    have hlt := (List.getElem?_eq_some_iff.mp e).1
    rw [hpl] at hlt
    have e1 : ks[j]? = some ks[j] := List.getElem?_eq_getElem hlt
    obtain ⟨b, h1, h2⟩ := hk j _ e1
    rw [e] at h2
    cases h2
    exact ⟨_, e1, h1⟩
  have hmem : ∀ a, a ∈ pick α ks → ∃ j k, ks[j]? = some k ∧ α[k]? = some a := fun a m => by
    obtain ⟨j, hj, e⟩ := List.mem_iff_getElem.mp m
    obtain ⟨k, h1, h2⟩ := hpk j a (by rw [List.getElem?_eq_getElem hj, e])
    exact ⟨j, k, h1, h2⟩
  have owp : ∀ a, a ∈ pick α ks → Ow α O a := fun a m => by
    obtain ⟨j, k, h1, h2⟩ := hmem a m
    obtain ⟨o, o', g1, _, g3, _⟩ := l.ok j k h1
    exact ⟨k, o, h2, g1, g3⟩
  have owL : ∀ a, a ∈ pick α ks → Ow (pick α ks) L a := fun a m => by
    obtain ⟨j, k, h1, h2⟩ := hmem a m
    obtain ⟨o, o', g1, g2, g3, g4, _⟩ := l.ok j k h1
    exact ⟨j, o', pick_at h1 h2, g2, g4⟩
  have owm : ∀ a, Ow (pick α ks) L a → a ∈ pick α ks := fun a ⟨j, o, e1, _⟩ => List.mem_of_getElem? e1
  have hoL : ∀ a, Ho (pick α ks) L a → Ho α O a := fun a ⟨j, o', e1, e2, h⟩ => by
    obtain ⟨k, h1, h2⟩ := hpk j a e1
    obtain ⟨o, o2, g1, g2, _, _, g5, _⟩ := l.ok j k h1
    rw [e2] at g2
    cases g2
    exact ⟨k, o, h2, g1, g5 h⟩
  obtain ⟨B', hB⟩ : ∃ B' : Addr → Prop, B' = fun b => Mu B α O b ∧ b ∉ pick α ks := ⟨_, rfl⟩
  have hm : ∀ b, Mu B' (pick α ks) L b → Mu B α O b := fun b m => by
    rw [hB] at m
    rcases m with m | m
    · exact m.1
    · exact .inr (owp b (owm b m))
  have ndp : (pick α ks).Nodup := by
    refine List.pairwise_iff_getElem.mpr fun i j hi hj hij e => ?_
    obtain ⟨k1, h1, h2⟩ := hpk i _ (List.getElem?_eq_getElem hi)
    obtain ⟨k2, h3, h4⟩ := hpk j _ (List.getElem?_eq_getElem hj)
    rw [← e] at h4
    have := nodup_at w.nd h2 h4
    subst this
    obtain ⟨a1, b1⟩ := List.getElem?_eq_some_iff.mp h1
    obtain ⟨a2, b2⟩ := List.getElem?_eq_some_iff.mp h3
    have := (List.getElem_inj nd).mp (b1.trans b2.symm)
    omega
  have W1 : Own G B' (pick α ks) L H := by
    refine ⟨by rw [hpl, l.len], ndp, fun j a o' e1 e2 => ?_, fun b m => ?_, fun b m z => ?_, w.tabs⟩
    · obtain ⟨k, h1, h2⟩ := hpk j a e1
      obtain ⟨o, o2, g1, g2, _, _, _, g6⟩ := l.ok j k h1
      rw [e2] at g2
      cases g2
      have h := (w.at_ k a o h2 g1).less hm
      rcases g6 with rfl | ⟨ds, rfl, rfl⟩
      · exact h
      · exact h
    · rw [hB] at m
      rcases m.1 with m | m
      · exact w.bt b m
      · exact m.some w
    · rw [hB] at z
      exact z.2 (owm b m)
  refine ⟨B', W1, hm, fun {γ N O2 H'} e s w' => ?_⟩
  obtain ⟨A0, rest, M, rfl, hA, rfl, hM, hMi, hMk⟩ := mrg_ok e nd fun k hk' => by
    obtain ⟨j, hj, ej⟩ := List.mem_iff_getElem.mp hk'
    obtain ⟨o, _, h1, _⟩ := l.ok j k (by rw [List.getElem?_eq_getElem hj, ej])
    exact (List.getElem?_eq_some_iff.mp h1).1
  obtain ⟨more, rfl⟩ := s.pre
  have hAp : A0.length = (pick α ks).length := by rw [hA, hpl]
  have hlm : more.length = rest.length := by
    have := w'.len
    rw [List.length_append, List.length_append] at this
    omega
  have hMα : α.length = M.length := by rw [hM]; exact w.len
  have nf : ∀ b, b ∈ more → H b = none := fun b hb => by
    rcases s.fresh b (List.mem_append_right _ hb) with z | z
    · have := (List.nodup_append.mp w'.nd).2.2 b z b hb
      exact absurd rfl this
    · exact z
  -- places of the new state
  have here : ∀ (i : Nat) (a : Addr) (o : DO), (α ++ more)[i]? = some a → (M ++ rest)[i]? = some o →
      (i ∉ ks ∧ α[i]? = some a ∧ O[i]? = some o ∧ a ∉ pick α ks) ∨
      (∃ j : Nat, ks[j]? = some i ∧ α[i]? = some a ∧ (pick α ks ++ more)[j]? = some a ∧ (A0 ++ rest)[j]? = some o) ∨
      (∃ j : Nat, ks[j]? = some i ∧ α[i]? = some a ∧ O[i]? = some o ∧ ∃ ds ds', L[j]? = some (DO.brw ds) ∧ (pick α ks ++ more)[j]? = some a ∧ (A0 ++ rest)[j]? = some (DO.brw ds')) ∨
      (∃ j : Nat, (pick α ks ++ more)[j]? = some a ∧ (A0 ++ rest)[j]? = some o ∧ a ∈ more) := by
    intro i a o e1 e2
    by_cases hi : i < α.length
    · rw [List.getElem?_append_left hi] at e1
      rw [List.getElem?_append_left (by rw [← hMα]; exact hi)] at e2
      by_cases hk' : i ∈ ks
      · obtain ⟨j, hj, ej⟩ := List.mem_iff_getElem.mp hk'
        have ej : ks[j]? = some i := by rw [List.getElem?_eq_getElem hj, ej]
        have hjp : j < (pick α ks).length := by rw [hpl]; exact hj
        have p1 : (pick α ks ++ more)[j]? = some a := by rw [List.getElem?_append_left hjp]; exact pick_at ej e1
        rcases hMk j i ej with g | ⟨g, ds, ds', g2, g3⟩
        · refine .inr (.inl ⟨j, ej, e1, p1, ?_⟩)
          rw [List.getElem?_append_left (by rw [hAp]; exact hjp), ← g]
          exact e2
        · refine .inr (.inr (.inl ⟨j, ej, e1, by rw [← g]; exact e2, ds, ds', g2, p1, ?_⟩))
          rw [List.getElem?_append_left (by rw [hAp]; exact hjp)]
          exact g3
      · refine .inl ⟨hk', e1, by rw [← hMi i hk']; exact e2, fun m => ?_⟩
        obtain ⟨j, k, h1, h2⟩ := hmem a m
        exact hk' (by rw [nodup_at w.nd e1 h2]; exact List.mem_of_getElem? h1)
    · rw [List.getElem?_append_right (by omega)] at e1
      rw [List.getElem?_append_right (by omega), ← hMα] at e2
      refine .inr (.inr (.inr ⟨(pick α ks).length + (i - α.length), ?_, ?_, List.mem_of_getElem? e1⟩))
      · rw [List.getElem?_append_right (by omega), show (pick α ks).length + (i - α.length) - (pick α ks).length = i - α.length by omega]; exact e1
      · rw [List.getElem?_append_right (by omega), show (pick α ks).length + (i - α.length) - A0.length = i - α.length by omega]; exact e2
  have nL : ∀ b, ¬ Ho α O b → ¬ Ho (pick α ks) L b := fun b m z => m (hoL b z)
  have S : Stp α O H (α ++ more) (M ++ rest) H' := by
    refine ⟨⟨more, rfl⟩, fun b o e m n => s.keep b o e (nL b m) n, s.there, fun b ⟨i, o, e1, e2, lo⟩ => ?_, fun b ⟨i, o, e1, e2, lo⟩ => ?_, fun b m => ?_⟩
    · rcases here i b o e1 e2 with ⟨_, g1, g2, _⟩ | ⟨j, _, g1, g2, g3⟩ | ⟨j, _, g1, g2, _⟩ | ⟨j, g1, g2, g3⟩
      · exact .inl ⟨i, o, g1, g2, lo⟩
      · rcases s.new b ⟨j, o, g2, g3, lo⟩ with z | z
        · exact .inl (owp b (owm b z))
        · exact .inr z
      · exact .inl ⟨i, o, g1, g2, lo⟩
      · exact .inr (nf b g3)
    · rcases here i b o e1 e2 with ⟨_, g1, g2, _⟩ | ⟨j, _, g1, g2, g3⟩ | ⟨j, _, g1, g2, _⟩ | ⟨j, g1, g2, g3⟩
      · exact .inl ⟨i, o, g1, g2, lo⟩
      · rcases s.hnew b ⟨j, o, g2, g3, lo⟩ with z | z
        · exact .inl (hoL b z)
        · exact .inr z
      · exact .inl ⟨i, o, g1, g2, lo⟩
      · exact .inr (nf b g3)
    · rcases List.mem_append.mp m with m | m
      · exact .inl m
      · exact .inr (nf b m)
  have hm2 : ∀ b, Mu B (α ++ more) (M ++ rest) b → Mu B' (pick α ks ++ more) (A0 ++ rest) b := fun b m => by
    rcases m with m | ⟨i, o, e1, e2, lo⟩
    · exact .inl (by rw [hB]; exact ⟨.inl m, fun z => w.nb b (owp b z) m⟩)
    · rcases here i b o e1 e2 with ⟨_, g1, g2, g3⟩ | ⟨j, _, g1, g2, g3⟩ | ⟨j, _, g1, g2, ds, ds', _, g4, g5⟩ | ⟨j, g1, g2, g3⟩
      · exact .inl (by rw [hB]; exact ⟨.inr ⟨i, o, g1, g2, lo⟩, g3⟩)
      · exact .inr ⟨j, o, g2, g3, lo⟩
      · exact .inr ⟨j, _, g4, g5, rfl⟩
      · exact .inr ⟨j, o, g1, g2, lo⟩
  have same : ∀ (i : Nat) (a : Addr) (o : DO), α[i]? = some a → O[i]? = some o → live o = true → ¬ Ho (pick α ks) L a → H' a = H a := fun i a o e1 e2 lo nh => by
    obtain ⟨q, e⟩ := Ow.some w ⟨i, o, e1, e2, lo⟩
    rw [e]
    refine s.keep a q e nh fun ps z => ?_
    have h := w.at_ i a o e1 e2
    cases o with
    | lst ds =>
      obtain ⟨vs, h, _⟩ := h
      rw [e, z] at h; cases h
    | brw ds =>
      obtain ⟨vs, h, _⟩ := h
      rw [e, z] at h; cases h
    | frz ds => cases lo
  have W2 : Own G B (α ++ more) (M ++ rest) H' := by
    refine ⟨by rw [List.length_append, List.length_append, hMα, hlm], ?_, fun i a o e1 e2 => ?_, fun b m => ?_, fun b ⟨i, o, e1, e2, lo⟩ => ?_, w'.tabs⟩
    · rw [List.nodup_append]
      refine ⟨w.nd, (List.nodup_append.mp w'.nd).2.1, fun x hx y hy z => ?_⟩
      obtain ⟨o, q⟩ := w.tracked hx
      rw [z, nf y hy] at q; cases q
    · rcases here i a o e1 e2 with ⟨_, g1, g2, g3⟩ | ⟨j, _, g1, g2, g3⟩ | ⟨j, hj, g1, g2, ds, ds', gL, g4, g5⟩ | ⟨j, g1, g2, g3⟩
      · exact (w.at_ i a o g1 g2).stp S fun lo => same i a o g1 g2 lo fun z => g3 (owm a z.ow)
      · exact (w'.at_ j a o g2 g3).less hm2
      · refine (w.at_ i a o g1 g2).stp S fun lo => same i a o g1 g2 lo fun ⟨j', o', z1, z2, z3⟩ => ?_
        have : (pick α ks)[j]? = some a := pick_at hj g1
        have := nodup_at ndp z1 this
        subst this
        rw [gL] at z2
        cases z2
        cases z3
      · exact (w'.at_ j a o g1 g2).less hm2
    · obtain ⟨o, e⟩ := w.bt b m
      cases q : H' b with
      | some o => exact ⟨o, rfl⟩
      | none => rw [s.there b q] at e; cases e
    · rcases here i b o e1 e2 with ⟨_, g1, g2, g3⟩ | ⟨j, _, g1, g2, g3⟩ | ⟨j, _, g1, g2, _⟩ | ⟨j, g1, g2, g3⟩
      · exact w.nb b ⟨i, o, g1, g2, lo⟩
      · obtain ⟨o1, _, k1, _, k3, _⟩ := l.ok j i (by assumption)
        exact w.nb b ⟨i, o1, g1, k1, k3⟩
      · exact w.nb b ⟨i, o, g1, g2, lo⟩
      · intro z
        obtain ⟨q, e⟩ := w.bt b z
        rw [nf b g3] at e; cases e
  refine ⟨α ++ more, S, W2, hm2, fun j a e => ?_⟩
  by_cases hj : j < (pick α ks).length
  · rw [List.getElem?_append_left hj] at e
    obtain ⟨k, h1, h2⟩ := hpk j a e
    rw [ren_lt h1, List.getElem?_append_left (List.getElem?_eq_some_iff.mp h2).1]
    exact h2
  · rw [List.getElem?_append_right (by omega)] at e
    rw [ren_ge (by omega), ← w.len, List.getElem?_append_right (by omega), show α.length + (j - ks.length) - α.length = j - ks.length by omega, ← hpl]
    exact e
/-- a call by data is a call -/
theorem call_low {P : ZSp} {us : List U} {vs : List V} {Q0 : U → List DO → Prop} {Q : VK} (w : Own G B α O H) (a : AtUs G.K B α O H vs us) (h : callZ P us O Q0 E0)
    (hq : ∀ u O', Q0 u O' → ∀ α' v H', Stp α O H α' O' H' → Own G B α' O' H' → AtU G.K B α' O' H' v u → Q v H') (he : ELow G B W0 α O H E0) : lowSp G P vs H Q W0 := by
  obtain ⟨r, ks, L, e, nd, h⟩ := h
  obtain ⟨l, hr⟩ := lendU_ok w e a
  obtain ⟨B', W1, hm, key⟩ := call_key w nd l
  refine ⟨B', pick α ks, L, r, _, _, W1, hr B' _ L hm fun i k a e1 e2 => by rw [Nat.zero_add]; exact pick_at e1 e2, h, fun u N q γ v H' s w' a' => ?_, fun x N q γ cls dd H' s w' a' => ?_⟩
  · obtain ⟨O2, e2, q⟩ := q
    obtain ⟨α2, S, W2, hm2, hi⟩ := key e2 s w'
    exact hq _ _ q _ _ _ S W2 (a'.sh hm2 hi)
  · obtain ⟨O2, e2, q⟩ := q
    obtain ⟨α2, S, W2, hm2, hi⟩ := key e2 s w'
    have S3 := stp_take S w
    have W3 := own_take W2 α.length
    rw [S3.2] at W3
    have S3 := S3.1
    rw [w.len] at S3 W3
    refine he x _ q α cls dd H' S3 W3 ?_
    obtain ⟨h1, dx, fs, h2, h3, h4, h5, h6⟩ := a'
    have hm3 : ∀ b, Mu B α (O2.take O.length) b → Mu B' γ N b := fun b m => hm2 b (by
      rcases m with m | ⟨j, o, e1, e2, lo⟩
      · exact .inl m
      · obtain ⟨mm, e⟩ := S.pre
        refine .inr ⟨j, o, ?_, take_some e2, lo⟩
        rw [e, List.getElem?_append_left (List.getElem?_eq_some_iff.mp e1).1]; exact e1)
    exact ⟨h1, dx, fs, h2, h3, fun m => h4 (hm3 _ m), h5, h6.less hm3⟩
end
end Z

set_option Elab.async false
set_option linter.all false
set_option maxRecDepth 100000
set_option maxHeartbeats 4000000
namespace Z
open PySem PySem.Spec PyProof.Rows L2

/-- the def x keeps the promise P -/
def FnK (X : Cx) (G : Gx) (k : Nat) (x : Str) (P : ZSp) : Prop := ∃ f fd ps, X.mg x = some (.ref f) ∧ PySem.W.keepIn X.K (.ref f) = true ∧ FnOk X.prog X.w X.K X.mg X.base (L2.CX X.prog X.w) k f fd ps (lowSp G P) ∧ Binds X.K fd ps []
def bnames : List Str := ["len", "abs", "int", "list", "tuple", "sum", "all", "any", "min", "max", "isinstance", "range", "enumerate", "zip", "reversed", "bool", "str", "dict", "sorted"]
structure Good (X : Cx) (G : Gx) (W0 : XK) (k : Nat) (S : Sx) (Γ : List (Str × ZSp)) : Prop where
  hN : X.N = S.N
  nd : X.N.Nodup
  sc : X.env.scope = S.sc
  calm : X.calm = true
  hK : X.K = G.K
  takes : Takes X fun c d _ H => W0 c d H
  room : Room k X.A
  fns : ∀ (i : Nat) (x : Str) (P : ZSp), Γ[i]? = some (x, P) → FnK X G k x P
  free : ∀ x ∈ bnames, X.mg x = none
  sto : ∀ x, ownB S.so x = true → Loc X.env.scope x ∧ (X.fn x = true ∨ X.env.scope.names.lookup x = some .local)
def LfO (G : Gx) (W0 : XK) (t : ZE) : TO := fun σ H Q => ∃ B α ρ O Q0 E0, Rep G B α σ H ρ O ∧ t E0 ρ O Q0 ∧
  (∀ us O', Q0 us O' → ∃ l, ((us = [] ∧ l = none) ∨ ∃ i, us = [.d (.int i)] ∧ l = some i) ∧ ∀ α' H', Stp α O H α' O' H' → Own G B α' O' H' → Q l H') ∧ ELow G B W0 α O H E0
/-- what a loop walks, by data -/
structure WalkD (G : Gx) (B : Addr → Prop) (α : List Addr) (O : List DO) (H : Hp) (J : It) (ds : List D) : Prop where
  ex : ∃ Gd Yy, L2.Walk J ds.length Gd Yy ∧
    ∀ (B2 : Addr → Prop) (α2 : List Addr) (O2 : List DO) (H2 : Hp), (∀ b, Mu B2 α2 O2 b → Mu B α O b ∨ H b = none) → (∀ b o, H b = some o → ¬ Ho α O b → (∀ ps, o ≠ .tbl ps) → H2 b = some o) → Own G B2 α2 O2 H2 →
      Gd H2 ∧ ∀ (i : Nat) x H3, i < ds.length → Yy i H2 x H3 → ∃ d, ds[i]? = some d ∧ (H3 = H2 ∨ ∃ p vs, H2 p = none ∧ H3 = upd H2 p (.tup vs)) ∧ At G.K (Mu B2 α2 O2) H3 x d
def LfI (G : Gx) (W0 : XK) (t : ZE) : TI := fun σ H R => ∃ B α ρ O Q0 E0, Rep G B α σ H ρ O ∧ t E0 ρ O Q0 ∧
  (∀ us O', Q0 us O' → ∃ ds, us = List.map U.d ds ∧ ∀ α' H' J, Stp α O H α' O' H' → Own G B α' O' H' → WalkD G B α' O' H' J ds → R J H') ∧ ELow G B W0 α O H E0
theorem pi_imp {X : Cx} {tg e : Expr} {t t' : TI} (h : PI X tg e t) (i : ∀ σ H Q, t' σ H Q → t σ H Q) : PI X tg e t' := ⟨fun pins s σ H Q I q => h.run pins s σ H Q I (i σ H Q q)⟩
theorem po_imp {X : Cx} {e : Option Expr} {t t' : TO} (h : PO X e t) (i : ∀ σ H Q, t' σ H Q → t σ H Q) : PO X e t' := ⟨fun pins s σ H Q I q => h.run pins s σ H Q I (i σ H Q q)⟩

structure Sd (G : Gx) (k : Nat) (Γ : List (Str × ZSp)) (z : Y) : Prop where
  E : ∀ X W0 S, Good X G W0 k S Γ → ∀ e, (ck (Γ.map (·.1)) z S).E e = true → SE X G W0 e (vc Γ z)
  T : ∀ X W0 S, Good X G W0 k S Γ → ∀ e, (ck (Γ.map (·.1)) z S).T e = true → ST X G W0 e (vc Γ z)
  W : ∀ X W0 S, Good X G W0 k S Γ → ∀ op xs p, (ck (Γ.map (·.1)) z S).T (.BoolOp op xs p) = true → PW X (.BoolOp op xs p) (LfT G W0 (vc Γ z))
  A : ∀ X W0 S, Good X G W0 k S Γ → ∀ es, (ck (Γ.map (·.1)) z S).A es = true → SA X G W0 es (vc Γ z)
  I : ∀ X W0 S, Good X G W0 k S Γ → ∀ tg e, (ck (Γ.map (·.1)) z S).I tg e = true → PI X tg e (LfI G W0 (vc Γ z))
  O : ∀ X W0 S, Good X G W0 k S Γ → ∀ e, (ck (Γ.map (·.1)) z S).O e = true → PO X e (LfO G W0 (vc Γ z))

section
variable {G : Gx} {B : Addr → Prop} {α : List Addr} {O : List DO} {H : Hp} {σ : L2.St} {ρ : List (Option U)} {W0 : XK} {E0 : ZX} {t : ZE}
theorem oneK_of {us : List U} {k : U → Prop} (h : oneK us k) : ∃ u, us = [u] ∧ k u := by
  unfold oneK at h
  split at h
  · exact ⟨_, rfl, h⟩
  · exact h.elim
theorem boolK_of {us : List U} {k : Bool → Prop} (h : boolK us k) : ∃ b, us = [.d (.bl b)] ∧ k b := by
  unfold boolK at h
  split at h
  · exact ⟨_, rfl, h⟩
  · exact h.elim
theorem nrK_of {u : U} {k : D → Prop} (h : nrK O u k) : ∃ x, nrm O u = some x ∧ k x := by
  unfold nrK at h
  split at h
  · exact ⟨_, by assumption, h⟩
  · exact h.elim
theorem toK_of {u : U} {k : D → Prop} (h : toK O u k) : ∃ x, toD O u = some x ∧ k x := by
  unfold toK at h
  split at h
  · exact ⟨_, by assumption, h⟩
  · exact h.elim
theorem tosK_of {us : List U} {k : List D → Prop} (h : tosK O us k) : ∃ x, toDs O us = some x ∧ k x := by
  unfold tosK at h
  split at h
  · exact ⟨_, by assumption, h⟩
  · exact h.elim
theorem nrsK_of {us : List U} {k : List D → Prop} (h : nrsK O us k) : ∃ x, nrs O us = some x ∧ k x := by
  unfold nrsK at h
  split at h
  · exact ⟨_, by assumption, h⟩
  · exact h.elim
theorem seqE {F : U → List DO → Prop} {Q : VK} (R : Rep G B α σ H ρ O) (h : t E0 ρ O fun us O1 => oneK us fun u => F u O1) (he : ELow G B W0 α O H E0)
    (k : ∀ u O1, F u O1 → ∀ α1 v H1, Stp α O H α1 O1 H1 → Own G B α1 O1 H1 → AtU G.K B α1 O1 H1 v u → Q v H1) : LfE G W0 t σ H Q :=
  ⟨B, α, ρ, O, _, E0, R, h, fun us O1 q => by
    obtain ⟨u, e, q⟩ := oneK_of q
    exact ⟨u, e, k u O1 q⟩, he⟩
theorem seqB {F : Bool → List DO → Prop} {Q : VK} (R : Rep G B α σ H ρ O) (h : t E0 ρ O fun us O1 => boolK us fun u => F u O1) (he : ELow G B W0 α O H E0)
    (k : ∀ b O1, F b O1 → ∀ α1 H1, Stp α O H α1 O1 H1 → Own G B α1 O1 H1 → Q (.bl b) H1) : LfE G W0 t σ H Q :=
  ⟨B, α, ρ, O, _, E0, R, h, fun us O1 q => by
    obtain ⟨b, e, q⟩ := boolK_of q
    refine ⟨_, e, fun α1 v H1 s w a => ?_⟩
    cases a with
    | d a => cases a; exact k b O1 q α1 H1 s w, he⟩
theorem seqT {F : Bool → List DO → Prop} {Q : Bool → Hp → Prop} (R : Rep G B α σ H ρ O) (h : t E0 ρ O fun us O1 => boolK us fun u => F u O1) (he : ELow G B W0 α O H E0)
    (k : ∀ b O1, F b O1 → ∀ α1 H1, Stp α O H α1 O1 H1 → Own G B α1 O1 H1 → Q b H1) : LfT G W0 t σ H Q :=
  ⟨B, α, ρ, O, _, E0, R, h, fun us O1 q => by
    obtain ⟨b, e, q⟩ := boolK_of q
    exact ⟨_, e, k b O1 q⟩, he⟩
theorem seqA {F : List U → List DO → Prop} {Q : List V → Hp → Prop} (R : Rep G B α σ H ρ O) (h : t E0 ρ O F) (he : ELow G B W0 α O H E0)
    (k : ∀ us O1, F us O1 → ∀ α1 vs H1, Stp α O H α1 O1 H1 → Own G B α1 O1 H1 → AtUs G.K B α1 O1 H1 vs us → Q vs H1) : LfA G W0 t σ H Q :=
  ⟨B, α, ρ, O, F, E0, R, h, k, he⟩
/-- the end: a value -/
theorem QLow.to {Q0 : ZQ} {Q : VK} (hq : QLow G B α O H Q0 Q) {u : U} {O' : List DO} (h : Q0 [u] O') {α' : List Addr} {v : V} {H' : Hp} (s : Stp α O H α' O' H') (w : Own G B α' O' H') (a : AtU G.K B α' O' H' v u) : Q v H' := by
  obtain ⟨u', e, k⟩ := hq _ _ h
  cases e
  exact k α' v H' s w a
theorem QLow.stp {Q0 : ZQ} {Q : VK} (hq : QLow G B α O H Q0 Q) {α' : List Addr} {O' : List DO} {H' : Hp} (s : Stp α O H α' O' H') : QLow G B α' O' H' Q0 Q := fun us O2 h =>
  let ⟨u, e, k⟩ := hq us O2 h; ⟨u, e, fun α2 v H2 s2 w a => k α2 v H2 (s.trans s2) w a⟩
theorem BLow.stp {Q0 : ZQ} {Q : Bool → Hp → Prop} (hq : BLow G B α O H Q0 Q) {α' : List Addr} {O' : List DO} {H' : Hp} (s : Stp α O H α' O' H') : BLow G B α' O' H' Q0 Q := fun us O2 h =>
  let ⟨u, e, k⟩ := hq us O2 h; ⟨u, e, fun α2 H2 s2 w => k α2 H2 (s.trans s2) w⟩
theorem BLow.to {Q0 : ZQ} {Q : Bool → Hp → Prop} (hq : BLow G B α O H Q0 Q) {b : Bool} {O' : List DO} (h : Q0 [.d (.bl b)] O') {α' : List Addr} {H' : Hp} (s : Stp α O H α' O' H') (w : Own G B α' O' H') : Q b H' := by
  obtain ⟨u', e, k⟩ := hq _ _ h
  cases e
  exact k α' H' s w
/-- a test by its value -/
theorem st_of {X : Cx} {e : Expr} (h : SE X G W0 e t) (p : plainT e = true) : ST X G W0 e t := by
  have he : ∀ whole, isTrue e X.env whole = (do let v ← whole; standAt e.pos; holding [v] (truthy v)) := by
    intro whole
    cases e with
    | UnaryOp op a pos => cases op <;> first | rfl | cases p
    | BoolOp _ _ _ => cases p
    | IfExp _ _ _ _ => cases p
    | Compare _ _ _ _ => cases p
    | _ => rfl
  refine pt_imp (pt_truth h he) fun σ H Q ⟨B, α, ρ, O, Q0, E0, R, h, hq, hl⟩ => ⟨B, α, ρ, O, Q0, E0, R, h, fun us O' q => ?_, hl⟩
  obtain ⟨b, e, k⟩ := hq us O' q
  refine ⟨_, e, fun α' v H' s w a => ?_⟩
  cases a with
  | d a => cases a; exact ⟨b, rfl, k α' H' s w⟩
end
section
variable {G : Gx} {k : Nat} {Γ : List (Str × ZSp)} {z : Y}
theorem Sd.ofE (f : Sx → Expr → Bool) (hf : ∀ S, ck (Γ.map (·.1)) z S = cE (f S)) (h : ∀ X W0 S, Good X G W0 k S Γ → ∀ e, f S e = true → SE X G W0 e (vc Γ z)) : Sd G k Γ z where
  E := fun X W0 S g e c => h X W0 S g e (by rw [hf S] at c; exact c)
  T := fun X W0 S g e c => by
    rw [hf S] at c
    have c' : (plainT e && f S e) = true := c
    rw [Bool.and_eq_true] at c'
    exact st_of (h X W0 S g e c'.2) c'.1
  W := fun X W0 S g op xs p c => by
    rw [hf S] at c
    have c' : (false && f S (.BoolOp op xs p)) = true := c
    cases c'
  A := fun X W0 S g es c => by rw [hf S] at c; cases c
  I := fun X W0 S g tg e c => by rw [hf S] at c; cases c
  O := fun X W0 S g e c => by rw [hf S] at c; cases c
end
theorem ba {a b : Bool} (h : (a && b) = true) : a = true ∧ b = true := Bool.and_eq_true_iff.mp h
theorem vis_of {sc : Scope} {x : Str} (h : visB sc x = true) : Vis sc x := by
  unfold visB at h
  split at h
  · exact .inl (by assumption)
  · exact .inr (.inl (by assumption))
  · exact .inr (.inr (by assumption))
  · cases h
theorem okn_of {x : Str} (h : oknB x = true) : (x == ("__debug__" : Str)) = false ∧ (x == ("__classdict__" : Str)) = false := by
  obtain ⟨a, b⟩ := ba h
  exact ⟨by simpa using a, by simpa using b⟩
section
variable {G : Gx} {k : Nat} {Γ : List (Str × ZSp)}
theorem pe_name {X : Cx} {W0 : XK} {S : Sx} (g : Good X G W0 k S Γ) {x : Str} {i : Nat} {pos : Pos} (c : (decide (S.N[i]? = some x) && visB S.sc x && oknB x) = true) : PE X (.Name x pos) (tVar i) := by
  obtain ⟨c1, c3⟩ := ba c
  obtain ⟨c1, c2⟩ := ba c1
  exact pe_var (by rw [g.hN]; exact of_decide_eq_true c1) (by rw [g.sc]; exact vis_of c2) (okn_of c3).1 (okn_of c3).2
theorem sd_var (i : Nat) : Sd G k Γ (.var i) := .ofE _ (fun _ => rfl) fun X W0 S g e c => by
  split at c
  · refine pe_imp (pe_name g c) fun σ H Q ⟨B, α, ρ, O, Q0, E0, R, h, hq, hl⟩ => ?_
    have h' : (match gt ρ i with | some u => Q0 [u] O | none => False) := h
    cases q : gt ρ i with
    | none => rw [q] at h'; exact h'.elim
    | some u =>
      rw [q] at h'
      obtain ⟨v, e, a⟩ := R.vars i u q
      exact ⟨v, e, hq.to h' Stp.refl R.own a⟩
  · cases c
theorem sd_int (i : Int) : Sd G k Γ (.int i) := .ofE _ (fun _ => rfl) fun X W0 S g e c => by
  split at c
  · rw [of_decide_eq_true c]
    exact pe_imp pe_int fun σ H Q ⟨B, α, ρ, O, Q0, E0, R, h, hq, hl⟩ => hq.to h Stp.refl R.own (.d (.int _))
  · cases c
theorem sd_bl (i : Bool) : Sd G k Γ (.bl i) := .ofE _ (fun _ => rfl) fun X W0 S g e c => by
  split at c
  · rw [of_decide_eq_true c]
    exact pe_imp pe_bl fun σ H Q ⟨B, α, ρ, O, Q0, E0, R, h, hq, hl⟩ => hq.to h Stp.refl R.own (.d (.bl _))
  · cases c
theorem sd_non : Sd G k Γ .non := .ofE _ (fun _ => rfl) fun X W0 S g e c => by
  split at c
  · exact pe_imp pe_non fun σ H Q ⟨B, α, ρ, O, Q0, E0, R, h, hq, hl⟩ => hq.to h Stp.refl R.own (.d .non)
  · cases c
theorem sd_str (i : Str) : Sd G k Γ (.str i) := .ofE _ (fun _ => rfl) fun X W0 S g e c => by
  split at c
  · rw [of_decide_eq_true c]
    exact pe_imp pe_str fun σ H Q ⟨B, α, ρ, O, Q0, E0, R, h, hq, hl⟩ => hq.to h Stp.refl R.own (.d (.str _))
  · cases c
theorem sd_none (z : Y) (h : ∀ S, ck (Γ.map (·.1)) z S = {}) : Sd G k Γ z where
  E := fun X W0 S g e c => by rw [h S] at c; cases c
  T := fun X W0 S g e c => by rw [h S] at c; cases c
  W := fun X W0 S g op xs p c => by rw [h S] at c; cases c
  A := fun X W0 S g es c => by rw [h S] at c; cases c
  I := fun X W0 S g tg e c => by rw [h S] at c; cases c
  O := fun X W0 S g e c => by rw [h S] at c; cases c
/-- two operands -/
theorem seq2 {W0 : XK} {ta tb : ZE} {B : Addr → Prop} {α : List Addr} {O : List DO} {H : Hp} {σ : L2.St} {ρ : List (Option U)} {E0 : ZX} {F : U → U → List DO → Prop} {Q : V → V → Hp → Prop} (R : Rep G B α σ H ρ O)
    (h : ta E0 ρ O fun us O1 => oneK us fun u => tb E0 ρ O1 fun ws O2 => oneK ws fun w => F u w O2) (he : ELow G B W0 α O H E0)
    (kk : ∀ u w O2, F u w O2 → ∀ α2 v v2 H2, Stp α O H α2 O2 H2 → Own G B α2 O2 H2 → AtU G.K B α2 O2 H2 v u → AtU G.K B α2 O2 H2 v2 w → Q v v2 H2) :
    LfE G W0 ta σ H fun v H1 => LfE G W0 tb σ H1 fun v2 H2 => Q v v2 H2 :=
  seqE R h he fun u O1 f α1 v H1 s1 w1 a1 => seqE (R.stp s1 w1) f (he.stp s1) fun w O2 f2 α2 v2 H2 s2 w2 a2 => kk u w O2 f2 α2 v v2 H2 (s1.trans s2) w2 (s2.atU a1) a2
theorem sd_bin (op : Operator) {a b : Y} (da : Sd G k Γ a) (db : Sd G k Γ b) : Sd G k Γ (.bin op a b) := .ofE _ (fun _ => rfl) fun X W0 S g e c => by
  split at c
  · obtain ⟨c, c3⟩ := ba c
    obtain ⟨c1, c2⟩ := ba c
    rw [← of_decide_eq_true c1]
    refine pe_imp (pe_op (opr_bin g.hK op) (da.E X W0 S g _ c2) (db.E X W0 S g _ c3)) fun σ H Q ⟨B, α, ρ, O, Q0, E0, R, h, hq, hl⟩ => ?_
    refine seq2 R h hl fun u w O2 f α2 v v2 H2 s2 w2 a1 a2 => ?_
    obtain ⟨x, e1, f⟩ := nrK_of f
    obtain ⟨y, e2, f⟩ := nrK_of f
    exact ⟨B, α2, O2, x, y, _, w2, Vw.of w2 a1 e1, Vw.of w2 a2 e2, f, fun z q v' H' s' w' a' => hq.to q (s2.trans s') w' (.d a')⟩
  · cases c
theorem sd_fdq {a b : Y} (da : Sd G k Γ a) (db : Sd G k Γ b) : Sd G k Γ (.fdq a b) := .ofE _ (fun _ => rfl) fun X W0 S g e c => by
  split at c
  · obtain ⟨c, c3⟩ := ba c
    obtain ⟨c1, c2⟩ := ba c
    rw [← of_decide_eq_true c1]
    refine pe_imp (pe_op (opr_fdq g.hK) (da.E X W0 S g _ c2) (db.E X W0 S g _ c3)) fun σ H Q ⟨B, α, ρ, O, Q0, E0, R, h, hq, hl⟩ => ?_
    refine seq2 R h hl fun u w O2 f α2 v v2 H2 s2 w2 a1 a2 => ?_
    obtain ⟨x, e1, f⟩ := nrK_of f
    obtain ⟨y, e2, f⟩ := nrK_of f
    exact ⟨B, α2, O2, x, y, _, w2, Vw.of w2 a1 e1, Vw.of w2 a2 e2, f, fun z q v' H' s' w' a' => hq.to q (s2.trans s') w' (.d a')⟩
  · cases c
theorem sd_neg {a : Y} (da : Sd G k Γ a) : Sd G k Γ (.neg a) := .ofE _ (fun _ => rfl) fun X W0 S g e c => by
  split at c
  · refine pe_imp (pe_un un_neg (da.E X W0 S g _ c)) fun σ H Q ⟨B, α, ρ, O, Q0, E0, R, h, hq, hl⟩ => ?_
    refine seqE R h hl fun u O1 f α1 v H1 s1 w1 a1 => ?_
    obtain ⟨x, e1, f⟩ := nrK_of f
    have av := Vw.of w1 a1 e1
    cases x with
    | int i =>
      obtain rfl := av.int
      exact ⟨i, rfl, hq.to f s1 w1 (.d (.int _))⟩
    | _ => exact f.elim
  · cases c
theorem marks_of {op : CmpOp} {r : Expr} (h : noSet r = true) : behindInMarks op r = false := by
  cases r <;> first | rfl | cases h
theorem sd_cmp (op : CmpOp) {a b : Y} (da : Sd G k Γ a) (db : Sd G k Γ b) : Sd G k Γ (.cmp op a b) where
  E := fun X W0 S g e c => by
    have c' : cmpC op (ck (Γ.map (·.1)) a S).E (ck (Γ.map (·.1)) b S).E e = true := c
    unfold cmpC at c'
    split at c'
    · obtain ⟨c, c4⟩ := ba c'
      obtain ⟨c, c3⟩ := ba c
      obtain ⟨c1, c2⟩ := ba c
      rw [← of_decide_eq_true c1]
      refine pe_imp (pe_cmpR (opc_all g.room.units g.hK op) (da.E X W0 S g _ c2) (db.E X W0 S g _ c3) (marks_of c4)) fun σ H Q ⟨B, α, ρ, O, Q0, E0, R, h, hq, hl⟩ => ?_
      refine seq2 R h hl fun u w O2 f α2 v v2 H2 s2 w2 a1 a2 => ?_
      obtain ⟨x, e1, f⟩ := nrK_of f
      obtain ⟨y, e2, f⟩ := nrK_of f
      exact ⟨B, α2, O2, x, y, _, w2, Vw.of w2 a1 e1, Vw.of w2 a2 e2, f, fun t q => hq.to q s2 w2 (.d (.bl _))⟩
    · cases c'
  T := fun X W0 S g e c => by
    have c' : cmpC op (ck (Γ.map (·.1)) a S).E (ck (Γ.map (·.1)) b S).E e = true := c
    unfold cmpC at c'
    split at c'
    · obtain ⟨c, c4⟩ := ba c'
      obtain ⟨c, c3⟩ := ba c
      obtain ⟨c1, c2⟩ := ba c
      rw [← of_decide_eq_true c1]
      refine pt_imp (pt_cmpR (opc_all g.room.units g.hK op) (da.E X W0 S g _ c2) (db.E X W0 S g _ c3) (marks_of c4)) fun σ H Q ⟨B, α, ρ, O, Q0, E0, R, h, hq, hl⟩ => ?_
      refine seq2 R h hl fun u w O2 f α2 v v2 H2 s2 w2 a1 a2 => ?_
      obtain ⟨x, e1, f⟩ := nrK_of f
      obtain ⟨y, e2, f⟩ := nrK_of f
      exact ⟨B, α2, O2, x, y, _, w2, Vw.of w2 a1 e1, Vw.of w2 a2 e2, f, fun t q => ⟨t, rfl, hq.to q s2 w2⟩⟩
    · cases c'
  W := fun X W0 S g op xs p c => by cases c
  A := fun X W0 S g es c => by cases c
  I := fun X W0 S g tg e c => by cases c
  O := fun X W0 S g e c => by cases c
/-- a op b op c, the reading -/
theorem chain_low {o p : CmpOp} {X : Cx} {W0 : XK} {a b c : Y} {σ : L2.St} {H : Hp} {Q : VK} {B : Addr → Prop} {α : List Addr} {ρ : List (Option U)} {O : List DO} {Q0 : ZQ} {E0 : ZX} (hK : X.K = G.K) (R : Rep G B α σ H ρ O) (h : vc Γ (.chain o p a b c) E0 ρ O Q0)
    (hq : ∀ b O', Q0 [.d (.bl b)] O' → ∀ α' H', Stp α O H α' O' H' → Own G B α' O' H' → Q (.bl b) H') (hl : ELow G B W0 α O H E0) : tChain (rC G (cmpD o)) (rC G (cmpD p)) (LfE G W0 (vc Γ a)) (LfE G W0 (vc Γ b)) (LfE G W0 (vc Γ c)) σ H Q := by
  refine seq2 R h hl fun u w O2 f α2 v v2 H2 s2 w2 a1 a2 => ?_
  obtain ⟨x, e1, f⟩ := nrK_of f
  obtain ⟨y, e2, f⟩ := nrK_of f
  refine ⟨B, α2, O2, x, y, _, w2, Vw.of w2 a1 e1, Vw.of w2 a2 e2, f, fun t f => ⟨t, rfl, ?_⟩⟩
  cases t with
  | true =>
    rw [if_pos rfl]
    refine seqE (R.stp s2 w2) (f.1 rfl) (hl.stp s2) fun u3 O3 f3 α3 v3 H3 s3 w3 a3 => ?_
    obtain ⟨y2, e3, f3⟩ := nrK_of f3
    obtain ⟨z, e4, f3⟩ := nrK_of f3
    exact ⟨B, α3, O3, y2, z, _, w3, Vw.of w3 (s3.atU a2) e3, Vw.of w3 a3 e4, f3, fun t q => hq t O3 q α3 H3 (s2.trans s3) w3⟩
  | false =>
    rw [if_neg (by decide)]
    exact hq false O2 (f.2 rfl) α2 H2 s2 w2
theorem sd_chain (o p : CmpOp) {a b c : Y} (da : Sd G k Γ a) (db : Sd G k Γ b) (dc : Sd G k Γ c) : Sd G k Γ (.chain o p a b c) where
  E := fun X W0 S g e ch => by
    have c' : chainC o p (ck (Γ.map (·.1)) a S).E (ck (Γ.map (·.1)) b S).E (ck (Γ.map (·.1)) c S).E e = true := ch
    unfold chainC at c'
    split at c'
    · obtain ⟨c', c7⟩ := ba c'
      obtain ⟨c', c6⟩ := ba c'
      obtain ⟨c', c5⟩ := ba c'
      obtain ⟨c', c4⟩ := ba c'
      obtain ⟨c', c3⟩ := ba c'
      obtain ⟨c1, c2⟩ := ba c'
      rw [← of_decide_eq_true c1, ← of_decide_eq_true c2]
      refine pe_imp (pe_chain (opc_all g.room.units g.hK o) (opc_all g.room.units g.hK p) (da.E X W0 S g _ c3) (db.E X W0 S g _ c4) (dc.E X W0 S g _ c5) (marks_of c7)) fun σ H Q ⟨B, α, ρ, O, Q0, E0, R, h, hq, hl⟩ => ?_
      exact chain_low (X := X) g.hK R h (fun b O' q α' H' s w => hq.to q s w (.d (.bl _))) hl
    · cases c'
  T := fun X W0 S g e ch => by
    have c' : chainC o p (ck (Γ.map (·.1)) a S).E (ck (Γ.map (·.1)) b S).E (ck (Γ.map (·.1)) c S).E e = true := ch
    unfold chainC at c'
    split at c'
    · obtain ⟨c', c7⟩ := ba c'
      obtain ⟨c', c6⟩ := ba c'
      obtain ⟨c', c5⟩ := ba c'
      obtain ⟨c', c4⟩ := ba c'
      obtain ⟨c', c3⟩ := ba c'
      obtain ⟨c1, c2⟩ := ba c'
      rw [← of_decide_eq_true c1, ← of_decide_eq_true c2]
      refine pt_imp (pt_chain (opc_all g.room.units g.hK o) (opc_all g.room.units g.hK p) (da.E X W0 S g _ c3) (db.E X W0 S g _ c4) (dc.E X W0 S g _ c5) (marks_of c7)) fun σ H Q ⟨B, α, ρ, O, Q0, E0, R, h, hq, hl⟩ => ?_
      exact chain_low (X := X) g.hK R h (fun b O' q α' H' s w => ⟨b, rfl, hq.to q s w⟩) hl
    · cases c'
  W := fun X W0 S g op xs p c => by cases c
  A := fun X W0 S g es c => by cases c
  I := fun X W0 S g tg e c => by cases c
  O := fun X W0 S g e c => by cases c
theorem sd_not {a : Y} (da : Sd G k Γ a) : Sd G k Γ (.not a) where
  E := fun X W0 S g e c => by
    have c' : notC (ck (Γ.map (·.1)) a S).E e = true := c
    unfold notC at c'
    split at c'
    · refine pe_imp (pe_not (da.E X W0 S g _ c')) fun σ H Q ⟨B, α, ρ, O, Q0, E0, R, h, hq, hl⟩ => ?_
      exact seqB R h hl fun b O1 f α1 H1 s1 w1 => ⟨b, rfl, hq.to f s1 w1 (.d (.bl _))⟩
    · cases c'
  T := fun X W0 S g e c => by
    have c' : notC (ck (Γ.map (·.1)) a S).T e = true := c
    unfold notC at c'
    split at c'
    · refine pt_imp (pt_not (da.T X W0 S g _ c')) fun σ H Q ⟨B, α, ρ, O, Q0, E0, R, h, hq, hl⟩ => ?_
      exact seqT R h hl fun b O1 f α1 H1 s1 w1 => hq.to f s1 w1
    · cases c'
  W := fun X W0 S g op xs p c => by cases c
  A := fun X W0 S g es c => by cases c
  I := fun X W0 S g tg e c => by cases c
  O := fun X W0 S g e c => by cases c
theorem sd_one {a : Y} (da : Sd G k Γ a) : Sd G k Γ (.one a) where
  E := fun X W0 S g e c => by
    have c' : oneC (ck (Γ.map (·.1)) a S).E e = true := c
    unfold oneC at c'
    split at c'
    · exact pe_one (da.E X W0 S g _ c')
    · cases c'
  T := fun X W0 S g e c => by
    have c' : oneC (ck (Γ.map (·.1)) a S).T e = true := c
    unfold oneC at c'
    split at c'
    · rename_i op x p
      cases op with
      | And => exact (pw_and1 (da.T X W0 S g _ c')).pt
      | Or => exact (pw_or1 (da.T X W0 S g _ c')).pt
    · cases c'
  W := fun X W0 S g op xs p c => by
    have c' : oneC (ck (Γ.map (·.1)) a S).T (.BoolOp op xs p) = true := c
    unfold oneC at c'
    split at c'
    · rename_i e
      cases e
      cases op with
      | And => exact pw_and1 (da.T X W0 S g _ c')
      | Or => exact pw_or1 (da.T X W0 S g _ c')
    · cases c'
  A := fun X W0 S g es c => by cases c
  I := fun X W0 S g tg e c => by cases c
  O := fun X W0 S g e c => by cases c
theorem and_low {W0 : XK} {a b : Y} {σ : L2.St} {H : Hp} {Q : Bool → Hp → Prop} (h : LfT G W0 (vc Γ (.and a b)) σ H Q) : tAnd (LfT G W0 (vc Γ a)) (LfT G W0 (vc Γ b)) σ H Q := by
  obtain ⟨B, α, ρ, O, Q0, E0, R, h, hq, hl⟩ := h
  refine seqT R h hl fun t O1 f α1 H1 s1 w1 => ?_
  cases t with
  | true => rw [if_pos rfl]; exact ⟨B, α1, ρ, O1, Q0, E0, R.stp s1 w1, f.1 rfl, hq.stp s1, hl.stp s1⟩
  | false => rw [if_neg (by decide)]; exact hq.to (f.2 rfl) s1 w1
theorem or_low {W0 : XK} {a b : Y} {σ : L2.St} {H : Hp} {Q : Bool → Hp → Prop} (h : LfT G W0 (vc Γ (.or a b)) σ H Q) : tOr (LfT G W0 (vc Γ a)) (LfT G W0 (vc Γ b)) σ H Q := by
  obtain ⟨B, α, ρ, O, Q0, E0, R, h, hq, hl⟩ := h
  refine seqT R h hl fun t O1 f α1 H1 s1 w1 => ?_
  cases t with
  | true => rw [if_pos rfl]; exact hq.to (f.1 rfl) s1 w1
  | false => rw [if_neg (by decide)]; exact ⟨B, α1, ρ, O1, Q0, E0, R.stp s1 w1, f.2 rfl, hq.stp s1, hl.stp s1⟩
theorem sd_and {a b : Y} (da : Sd G k Γ a) (db : Sd G k Γ b) : Sd G k Γ (.and a b) where
  E := fun X W0 S g e c => by
    have c' : andC (ck (Γ.map (·.1)) a S).E (ck (Γ.map (·.1)) b S).E e = true := c
    unfold andC at c'
    split at c'
    · obtain ⟨c1, c2⟩ := ba c'
      refine pe_imp (pe_and (da.E X W0 S g _ c1) (db.E X W0 S g _ c2)) fun σ H Q ⟨B, α, ρ, O, Q0, E0, R, h, hq, hl⟩ => ?_
      refine seqB R h hl fun t O1 f α1 H1 s1 w1 => ⟨t, rfl, ?_⟩
      cases t with
      | true => rw [if_pos rfl]; exact ⟨B, α1, ρ, O1, Q0, E0, R.stp s1 w1, f.1 rfl, hq.stp s1, hl.stp s1⟩
      | false => rw [if_neg (by decide)]; exact hq.to (f.2 rfl) s1 w1 (.d (.bl _))
    · cases c'
  T := fun X W0 S g e c => by
    have c' : andC (ck (Γ.map (·.1)) a S).T (ck (Γ.map (·.1)) b S).T e = true := c
    unfold andC at c'
    split at c'
    · obtain ⟨c1, c2⟩ := ba c'
      exact pt_imp (pw_and (da.T X W0 S g _ c1) (db.W X W0 S g _ _ _ c2)).pt fun σ H Q h => and_low h
    · cases c'
  W := fun X W0 S g op xs p c => by
    have c' : andC (ck (Γ.map (·.1)) a S).T (ck (Γ.map (·.1)) b S).T (.BoolOp op xs p) = true := c
    unfold andC at c'
    split at c'
    · rename_i e
      cases e
      obtain ⟨c1, c2⟩ := ba c'
      exact pw_imp (pw_and (da.T X W0 S g _ c1) (db.W X W0 S g _ _ _ c2)) fun σ H Q h => and_low h
    · cases c'
  A := fun X W0 S g es c => by cases c
  I := fun X W0 S g tg e c => by cases c
  O := fun X W0 S g e c => by cases c
theorem sd_or {a b : Y} (da : Sd G k Γ a) (db : Sd G k Γ b) : Sd G k Γ (.or a b) where
  E := fun X W0 S g e c => by
    have c' : orC (ck (Γ.map (·.1)) a S).E (ck (Γ.map (·.1)) b S).E e = true := c
    unfold orC at c'
    split at c'
    · obtain ⟨c1, c2⟩ := ba c'
      refine pe_imp (pe_or (da.E X W0 S g _ c1) (db.E X W0 S g _ c2)) fun σ H Q ⟨B, α, ρ, O, Q0, E0, R, h, hq, hl⟩ => ?_
      refine seqB R h hl fun t O1 f α1 H1 s1 w1 => ⟨t, rfl, ?_⟩
      cases t with
      | true => rw [if_pos rfl]; exact hq.to (f.1 rfl) s1 w1 (.d (.bl _))
      | false => rw [if_neg (by decide)]; exact ⟨B, α1, ρ, O1, Q0, E0, R.stp s1 w1, f.2 rfl, hq.stp s1, hl.stp s1⟩
    · cases c'
  T := fun X W0 S g e c => by
    have c' : orC (ck (Γ.map (·.1)) a S).T (ck (Γ.map (·.1)) b S).T e = true := c
    unfold orC at c'
    split at c'
    · obtain ⟨c1, c2⟩ := ba c'
      exact pt_imp (pw_or (da.T X W0 S g _ c1) (db.W X W0 S g _ _ _ c2)).pt fun σ H Q h => or_low h
    · cases c'
  W := fun X W0 S g op xs p c => by
    have c' : orC (ck (Γ.map (·.1)) a S).T (ck (Γ.map (·.1)) b S).T (.BoolOp op xs p) = true := c
    unfold orC at c'
    split at c'
    · rename_i e
      cases e
      obtain ⟨c1, c2⟩ := ba c'
      exact pw_imp (pw_or (da.T X W0 S g _ c1) (db.W X W0 S g _ _ _ c2)) fun σ H Q h => or_low h
    · cases c'
  A := fun X W0 S g es c => by cases c
  I := fun X W0 S g tg e c => by cases c
  O := fun X W0 S g e c => by cases c
theorem sd_ite {c a b : Y} (dc : Sd G k Γ c) (da : Sd G k Γ a) (db : Sd G k Γ b) : Sd G k Γ (.ite c a b) where
  E := fun X W0 S g e ch => by
    have c' : iteC (ck (Γ.map (·.1)) c S).T (ck (Γ.map (·.1)) a S).E (ck (Γ.map (·.1)) b S).E e = true := ch
    unfold iteC at c'
    split at c'
    · obtain ⟨c', c3⟩ := ba c'
      obtain ⟨c1, c2⟩ := ba c'
      refine pe_imp (pe_ifExp (dc.T X W0 S g _ c1) (da.E X W0 S g _ c2) (db.E X W0 S g _ c3)) fun σ H Q ⟨B, α, ρ, O, Q0, E0, R, h, hq, hl⟩ => ?_
      refine seqT R h hl fun t O1 f α1 H1 s1 w1 => ?_
      cases t with
      | true => rw [if_pos rfl]; exact ⟨B, α1, ρ, O1, Q0, E0, R.stp s1 w1, f.1 rfl, hq.stp s1, hl.stp s1⟩
      | false => rw [if_neg (by decide)]; exact ⟨B, α1, ρ, O1, Q0, E0, R.stp s1 w1, f.2 rfl, hq.stp s1, hl.stp s1⟩
    · cases c'
  T := fun X W0 S g e c => by cases c
  W := fun X W0 S g op xs p c => by cases c
  A := fun X W0 S g es c => by cases c
  I := fun X W0 S g tg e c => by cases c
  O := fun X W0 S g e c => by cases c
theorem sd_nil : Sd G k Γ .nil where
  E := fun X W0 S g e c => by cases c
  T := fun X W0 S g e c => by cases c
  W := fun X W0 S g op xs p c => by cases c
  A := fun X W0 S g es c => by
    have c' : nilC es = true := c
    unfold nilC at c'
    split at c'
    · exact pa_imp pa_nil fun σ H Q ⟨B, α, ρ, O, Q0, E0, R, h, hq, hl⟩ => hq _ _ h _ _ _ Stp.refl R.own .nil
    · cases c'
  I := fun X W0 S g tg e c => by cases c
  O := fun X W0 S g e c => by cases c
theorem starEach_plain {e : Expr} {es : List Expr} {env : Env} (h : noStar e = true) : starEach (e :: es) env = (false, eval e env) :: starEach es env := by
  cases e <;> first | rfl | cases h
theorem sd_cons {a r : Y} (da : Sd G k Γ a) (dr : Sd G k Γ r) : Sd G k Γ (.cons a r) where
  E := fun X W0 S g e c => by cases c
  T := fun X W0 S g e c => by cases c
  W := fun X W0 S g op xs p c => by cases c
  A := fun X W0 S g es c => by
    have c' : consC (ck (Γ.map (·.1)) a S).E (ck (Γ.map (·.1)) r S).A es = true := c
    unfold consC at c'
    split at c'
    · obtain ⟨c', c3⟩ := ba c'
      obtain ⟨c1, c2⟩ := ba c'
      refine pa_imp (pa_cons (da.E X W0 S g _ c2) (dr.A X W0 S g _ c3) (starEach_plain c1)) fun σ H Q ⟨B, α, ρ, O, Q0, E0, R, h, hq, hl⟩ => ?_
      refine seqE R h hl fun u O1 f α1 v H1 s1 w1 a1 => ?_
      exact seqA (R.stp s1 w1) f (hl.stp s1) fun us O2 f2 α2 vs H2 s2 w2 a2 => hq _ _ f2 _ _ _ (s1.trans s2) w2 (.cons (s2.atU a1) a2)
    · cases c'
  I := fun X W0 S g tg e c => by cases c
  O := fun X W0 S g e c => by cases c
theorem sd_nop : Sd G k Γ .nop where
  E := fun X W0 S g e c => by cases c
  T := fun X W0 S g e c => by cases c
  W := fun X W0 S g op xs p c => by cases c
  A := fun X W0 S g es c => by cases c
  I := fun X W0 S g tg e c => by cases c
  O := fun X W0 S g e c => by
    have c' : nopC e = true := c
    unfold nopC at c'
    split at c'
    · refine po_imp po_none fun σ H Q ⟨B, α, ρ, O, Q0, E0, R, h, hq, hl⟩ => ?_
      obtain ⟨l, h1, h2⟩ := hq _ _ h
      rcases h1 with ⟨_, rfl⟩ | ⟨i, z, _⟩
      · exact h2 _ _ Stp.refl R.own
      · cases z
    · cases c'
theorem sd_sm {a : Y} (da : Sd G k Γ a) : Sd G k Γ (.sm a) where
  E := fun X W0 S g e c => by cases c
  T := fun X W0 S g e c => by cases c
  W := fun X W0 S g op xs p c => by cases c
  A := fun X W0 S g es c => by cases c
  I := fun X W0 S g tg e c => by cases c
  O := fun X W0 S g e c => by
    have c' : smC (ck (Γ.map (·.1)) a S).E e = true := c
    unfold smC at c'
    split at c'
    · refine po_imp (po_some (da.E X W0 S g _ c')) fun σ H Q ⟨B, α, ρ, O, Q0, E0, R, h, hq, hl⟩ => ?_
      refine seqE R h hl fun u O1 f α1 v H1 s1 w1 a1 => ?_
      obtain ⟨l, h1, h2⟩ := hq _ _ f
      rcases h1 with ⟨z, _⟩ | ⟨i, z, rfl⟩
      · cases z
      · cases z
        cases a1 with
        | d a => cases a; exact ⟨i, rfl, h2 _ _ s1 w1⟩
    · cases c'
end
end Z

set_option Elab.async false
set_option linter.all false
set_option maxRecDepth 100000
set_option maxHeartbeats 4000000
namespace Z
open PySem PySem.Spec PyProof.Rows L2
section
variable {G : Gx} {k : Nat} {Γ : List (Str × ZSp)}
theorem sd_tup {es : Y} (de : Sd G k Γ es) : Sd G k Γ (.tup es) := .ofE _ (fun _ => rfl) fun X W0 S g e c => by
  split at c
  · refine pe_imp (pe_tup (de.A X W0 S g _ c)) fun σ H Q ⟨B, α, ρ, O, Q0, E0, R, h, hq, hl⟩ => ?_
    refine seqA R h hl fun us O1 f α1 vs H1 s1 w1 a1 => ?_
    obtain ⟨ds, e1, z, f⟩ := tosK_of f
    have r := Ats.of w1 a1 e1
    refine ⟨by rw [r.length]; exact z, fun p hp => hq.to f (s1.trans (stp_new hp)) (own_new w1 hp) (.d (At.tupNew w1 hp r))⟩
  · cases c
theorem sd_tupU {es : Y} (de : Sd G k Γ es) : Sd G k Γ (.tupU es) := .ofE _ (fun _ => rfl) fun X W0 S g e c => by
  split at c
  · refine pe_imp (pe_tup (de.A X W0 S g _ c)) fun σ H Q ⟨B, α, ρ, O, Q0, E0, R, h, hq, hl⟩ => ?_
    refine seqA R h hl fun us O1 f α1 vs H1 s1 w1 a1 => ?_
    refine ⟨by rw [a1.length]; exact f.1, fun p hp => hq.to f.2 (s1.trans (stp_new hp)) (own_new w1 hp) (.t upd_same (w1.mu_ne hp) ((stp_new hp).atUs a1))⟩
  · cases c
theorem AtUs.append {B : Addr → Prop} {α : List Addr} {O : List DO} {H : Hp} {K : PySem.W.Frag} : ∀ {vs ws : List V} {us us' : List U}, AtUs K B α O H vs us → AtUs K B α O H ws us' → AtUs K B α O H (vs ++ ws) (us ++ us')
  | _, _, _, _, .nil, s => s
  | _, _, _, _, .cons a r, s => .cons a (AtUs.append r s)
theorem Ats.atUs {B : Addr → Prop} {α : List Addr} {O : List DO} {H : Hp} {K : PySem.W.Frag} : ∀ {vs : List V} {ds : List D}, Ats K (Mu B α O) H vs ds → AtUs K B α O H vs (ds.map .d)
  | _, _, .nil => .nil
  | _, _, .cons a r => .cons (.d a) (Ats.atUs r)
theorem sd_star {a r : Y} (da : Sd G k Γ a) (dr : Sd G k Γ r) : Sd G k Γ (.star a r) where
  E := fun X W0 S g e c => by cases c
  T := fun X W0 S g e c => by cases c
  W := fun X W0 S g op xs p c => by cases c
  A := fun X W0 S g es c => by
    have c' : starC (ck (Γ.map (·.1)) a S).E (ck (Γ.map (·.1)) r S).A es = true := c
    unfold starC at c'
    split at c'
    · obtain ⟨c1, c2⟩ := ba c'
      refine pa_imp (StX.pa_star (da.E X W0 S g _ c1) (dr.A X W0 S g _ c2)) fun σ H Q ⟨B, α, ρ, O, Q0, E0, R, h, hq, hl⟩ => ?_
      refine seqE R h hl fun u O1 f α1 v H1 s1 w1 a1 => ?_
      obtain ⟨x, e1, f⟩ := nrK_of f
      have av := Vw.of w1 a1 e1
      have fin : ∀ {vs : List V} {ds : List D}, Ats G.K (Mu B α1 O1) H1 vs ds → (vc Γ r E0 ρ O1 fun ws O2 => Q0 (ds.map .d ++ ws) O2) → LfA G W0 (vc Γ r) σ H1 fun ws H2 => Q (vs ++ ws) H2 := fun {vs ds} ra f =>
        seqA (R.stp s1 w1) f (hl.stp s1) fun us O2 f2 α2 ws H2 s2 w2 a2 => hq _ _ f2 _ _ _ (s1.trans s2) w2 ((Ats.atUs (s2.ats ra)).append a2)
      cases x with
      | lst ds =>
        obtain ⟨p, vs, rfl, e, ra⟩ := av.lst
        exact ⟨p, vs, rfl, .inr (SqL.of e), fin ra f⟩
      | tup ds =>
        obtain ⟨p, vs, rfl, e, ra⟩ := av.tup
        exact ⟨p, vs, rfl, .inl (SqT.of e), fin ra f⟩
      | _ => exact f.elim
    · cases c'
  I := fun X W0 S g tg e c => by cases c
  O := fun X W0 S g e c => by cases c
theorem newL_to {B : Addr → Prop} {α α1 : List Addr} {O O1 : List DO} {H H1 : Hp} {Q0 : ZQ} {Q : VK} (hq : QLow G B α O H Q0 Q) {own : Bool} {ds : List D} (f : newL own ds O1 Q0) (s1 : Stp α O H α1 O1 H1) (w1 : Own G B α1 O1 H1) {vs : List V} (r : Ats G.K (Mu B α1 O1) H1 vs ds) :
    ∀ p, H1 p = none → Q (.ref p) (upd H1 p (.lst vs)) := fun p hp => by
  cases own with
  | true => exact hq.to f (s1.trans (stp_own w1 hp)) (own_own w1 hp r) (.o (by rw [List.getElem?_append_right (by rw [w1.len]; exact Nat.le_refl _)]; rw [w1.len]; simp))
  | false => exact hq.to f (s1.trans (stp_new hp)) (own_new w1 hp) (.d (At.lstNew w1 hp r))
theorem sd_lst (own : Bool) {es : Y} (de : Sd G k Γ es) : Sd G k Γ (.lst own es) := .ofE _ (fun _ => rfl) fun X W0 S g e c => by
  split at c
  · refine pe_imp (pe_lst (de.A X W0 S g _ c)) fun σ H Q ⟨B, α, ρ, O, Q0, E0, R, h, hq, hl⟩ => ?_
    refine seqA R h hl fun us O1 f α1 vs H1 s1 w1 a1 => ?_
    obtain ⟨ds, e1, z, f⟩ := tosK_of f
    have r := Ats.of w1 a1 e1
    exact ⟨by rw [r.length]; exact z, newL_to hq f s1 w1 r⟩
  · cases c
theorem any_plain {pos : Pos} {env : Env} : ∀ {es : List Expr}, es.all noStar = true → (backTo pos (starEach es env)).any (·.1) = false
  | [], _ => rfl
  | e :: es, h => by
    rw [List.all_cons] at h
    obtain ⟨h1, h2⟩ := ba h
    rw [starEach_plain h1]
    show (false || (backTo pos (starEach es env)).any (·.1)) = false
    rw [any_plain h2]
    rfl
theorem glo_of {X : Cx} {W0 : XK} {S : Sx} (g : Good X G W0 k S Γ) {x : Str} (h : gloB S.sc x = true) : Gl X x := by
  have h' := of_decide_eq_true h
  show X.env.kindOf x = _
  rw [← g.sc] at h'
  exact h'
theorem sd_call (i : Nat) {es : Y} (de : Sd G k Γ es) : Sd G k Γ (.call i es) := .ofE _ (fun _ => rfl) fun X W0 S g e c => by
  split at c
  · obtain ⟨c, c6⟩ := ba c
    obtain ⟨c, c5⟩ := ba c
    obtain ⟨c, c4⟩ := ba c
    obtain ⟨c, c3⟩ := ba c
    obtain ⟨c1, c2⟩ := ba c
    have c1 := of_decide_eq_true c1
    rw [List.getElem?_map] at c1
    cases q : Γ[i]? with
    | none => rw [q] at c1; cases c1
    | some p =>
      rw [q] at c1
      cases c1
      obtain ⟨x, P⟩ := p
      obtain ⟨f, fd, ps, hm, hk, F, hb⟩ := g.fns i x P q
      refine pe_imp (pe_call (dvs := []) (E := W0) F g.room (glo_of g c2) hm hk hb .nil (passes_call g.takes fun _ _ _ _ h => h) (de.A X W0 S g _ c6) (okn_of c3).1 (starEach_plain c4) (any_plain c5)) fun σ H Q ⟨B, α, ρ, O, Q0, E0, R, h, hq, hl⟩ => ?_
      refine seqA R h hl fun us O1 f α1 vs H1 s1 w1 a1 => ?_
      simp only [q] at f
      rw [List.append_nil]
      exact call_low w1 a1 f (fun u O' h0 α' v H' s' w' a' => hq.to h0 (s1.trans s') w' a') (hl.stp s1)
  · cases c
theorem nrs_of {B : Addr → Prop} {α : List Addr} {O : List DO} {H : Hp} (w : Own G B α O H) : ∀ {us : List U} {vs : List V} {ds : List D}, AtUs G.K B α O H vs us → nrs O us = some ds → Paired (Vw G.K (Mu B α O) H) vs ds
  | [], _, _, .nil, e => by cases e; exact .nil
  | u :: us, _, _, .cons a r, e => by
    rw [nrs] at e
    cases h1 : nrm O u with
    | none => rw [h1] at e; cases e
    | some d =>
      rw [h1] at e
      cases h2 : nrs O us with
      | none => rw [h2] at e; cases e
      | some ds =>
        rw [h2] at e
        cases e
        exact .cons (Vw.of w a h1) (nrs_of w r h2)
theorem bf_free (f : BF) : f.name ∈ bnames := by cases f <;> decide
theorem blt_pe {X : Cx} {W0 : XK} {S : Sx} (g : Good X G W0 k S Γ) (f : BF) {t : TA} {e : Expr} {es : List Expr} {p pos : Pos} (hg : Gl X f.name) (ha : PA X (e :: es) t) (h1 : noStar e = true) (h2 : es.all noStar = true) : PE X (.Call (.Name f.name p) (e :: es) [] pos) (tCB (rL G f.op) t) := by
  have hm := g.free _ (bf_free f)
  have hs := @starEach_plain e es X.env h1
  have hp := @any_plain pos X.env es h2
  cases f with
  | len => exact pe_callB (cb_len g.hK) hg hm (by decide +kernel) ha (by decide) (by decide) hs hp
  | abs => exact pe_callB (cb_abs g.hK) hg hm (by decide +kernel) ha (by decide) (by decide) hs hp
  | int => exact pe_callTy (cb_int g.hK) hg hm (by decide +kernel) ha (by decide) (by decide) hs hp
  | list => exact pe_callTy (cb_list g.hK) hg hm (by decide +kernel) ha (by decide) (by decide) hs hp
  | tuple => exact pe_callTy (cb_tuple g.hK) hg hm (by decide +kernel) ha (by decide) (by decide) hs hp
  | sum => exact pe_callB (cb_sum g.hK g.calm) hg hm (by decide +kernel) ha (by decide) (by decide) hs hp
  | all => exact pe_callB (cb_all g.hK g.calm) hg hm (by decide +kernel) ha (by decide) (by decide) hs hp
  | any => exact pe_callB (cb_any g.hK g.calm) hg hm (by decide +kernel) ha (by decide) (by decide) hs hp
  | min => exact pe_callB (cb_min g.hK g.calm) hg hm (by decide +kernel) ha (by decide) (by decide) hs hp
  | max => exact pe_callB (cb_max g.hK g.calm) hg hm (by decide +kernel) ha (by decide) (by decide) hs hp
theorem sd_blt (f : BF) {es : Y} (de : Sd G k Γ es) : Sd G k Γ (.blt f es) := .ofE _ (fun _ => rfl) fun X W0 S g e c => by
  split at c
  · obtain ⟨c, c6⟩ := ba c
    obtain ⟨c, c5⟩ := ba c
    obtain ⟨c, c4⟩ := ba c
    obtain ⟨c1, c2⟩ := ba c
    cases of_decide_eq_true c1
    refine pe_imp (blt_pe g f (glo_of g c2) (de.A X W0 S g _ c6) c4 c5) fun σ H Q ⟨B, α, ρ, O, Q0, E0, R, h, hq, hl⟩ => ?_
    refine seqA R h hl fun us O1 f1 α1 vs H1 s1 w1 a1 => ?_
    obtain ⟨ds, e1, f1⟩ := nrsK_of f1
    exact ⟨B, α1, O1, ds, _, w1, nrs_of w1 a1 e1, f1, fun z q v' H' s' w' a' => hq.to q (s1.trans s') w' (.d a')⟩
  · cases c
theorem pa_one {X : Cx} {e : Expr} {te : TE} (h : PE X e te) (c : noStar e = true) : PA X [e] (tCons te tNil) := pa_cons h pa_nil (starEach_plain c)
theorem pa_two {X : Cx} {e f : Expr} {te tf : TE} (h : PE X e te) (h2 : PE X f tf) (c : noStar e = true) (c2 : noStar f = true) : PA X [e, f] (tCons te (tCons tf tNil)) := pa_cons h (pa_one h2 c2) (starEach_plain c)
theorem base_of {o : Expr} {m : Str} {env : Env} (h : plainO o = true) : attributeBase o m env (eval o env) = eval o env := by
  cases o <;> first | rfl | cases h
theorem sd_app {r z : Y} (dr : Sd G k Γ r) (dz : Sd G k Γ z) : Sd G k Γ (.app r z) := .ofE _ (fun _ => rfl) fun X W0 S g e c => by
  split at c
  · rename_i o m ap e cp
    obtain ⟨c, c6⟩ := ba c
    obtain ⟨c, c5⟩ := ba c
    obtain ⟨c, c4⟩ := ba c
    obtain ⟨c, c3⟩ := ba c
    obtain ⟨c1, c2⟩ := ba c
    cases of_decide_eq_true c2
    have hs := @starEach_plain e [] X.env c4
    refine pe_imp (pe_bm PySem.F.plainAttrs_list PySem.F.slot_list_append PySem.F.type_list_append mt_append (dr.E X W0 S g _ c5) (pa_one (dz.E X W0 S g _ c6) c4) (base_of c3) (by rw [hs]; rfl) c1 hs (by rfl)) fun σ H Q ⟨B, α, ρ, O, Q0, E0, R, h, hq, hl⟩ => ?_
    refine seqE R h hl fun u O0 h' α0 v0 H0 s0 w0 a0 => ?_
    cases u with
    | d _ => exact h'.elim
    | t _ => exact h'.elim
    | o k =>
      cases a0 with
      | @o _ a ek =>
      refine ⟨.inl ⟨rfl, ?_⟩, ?_⟩
      · have hk : k < O0.length := by rw [← w0.len]; exact (List.getElem?_eq_some_iff.mp ek).1
        have ho := w0.at_ k a _ ek (List.getElem?_eq_getElem hk)
        cases qo : O0[k] with
        | lst ds => rw [qo] at ho; obtain ⟨vs, e2, _⟩ := ho; exact ⟨vs, SqL.of e2⟩
        | brw ds => rw [qo] at ho; obtain ⟨vs, e2, _⟩ := ho; exact ⟨vs, SqL.of e2⟩
        | frz ds =>
          rw [qo] at ho
          cases (show At G.K (Mu B α0 O0) H0 (.ref a) (.lst ds) from ho) with
          | lst e2 _ _ => exact ⟨_, SqL.of e2⟩
      · refine seqE (R.stp s0 w0) h' (hl.stp s0) fun u O1 f α1 v H1 s1 w1 a1 => ?_
        obtain ⟨x, e3, f⟩ := toK_of f
        have ax := At.of w1 a1 e3
        rw [go_eq] at f
        cases qo : O1[k]? with
        | none => rw [qo] at f; exact f.elim
        | some o =>
          rw [qo] at f
          cases o with
          | frz _ => exact f.elim
          | brw _ => exact f.elim
          | lst ds =>
            have ek1 := s1.idx ek
            obtain ⟨vs, e4, r4⟩ := w1.at_ k a _ ek1 qo
            refine ⟨a, vs, v, rfl, rfl, e4, by rw [r4.length]; exact f.1, ?_⟩
            have f2 := f.2
            rw [so_eq] at f2
            exact hq.to f2 ((s0.trans s1).trans (stp_set ek1 qo rfl)) (own_set w1 ek1 qo (r4.append (.cons ax .nil))) (.d .non)
  · cases c
theorem sd_lnt {z : Y} (dz : Sd G k Γ z) : Sd G k Γ (.lnt z) := .ofE _ (fun _ => rfl) fun X W0 S g e c => by
  split at c
  · obtain ⟨c, c4⟩ := ba c
    obtain ⟨c, c3⟩ := ba c
    obtain ⟨c1, c2⟩ := ba c
    cases of_decide_eq_true c1
    refine pe_imp (pe_callB call_len_seq (glo_of g c2) (g.free "len" (by decide)) (by decide +kernel) (pa_one (dz.E X W0 S g _ c4) c3) (by decide) (by decide) (starEach_plain c3) rfl) fun σ H Q ⟨B, α, ρ, O, Q0, E0, R, h, hq, hl⟩ => ?_
    refine seqE R h hl fun u O1 f α1 v H1 s1 w1 a1 => ?_
    cases u with
    | d _ => exact f.elim
    | o _ => exact f.elim
    | t us =>
      cases a1 with
      | @t a vs _ e m r =>
      refine ⟨a, vs, rfl, .inr (SqT.of e), ?_⟩
      rw [r.length]
      exact hq.to f s1 w1 (.d (.int _))
  · cases c
theorem sd_ins {r i z : Y} (dr : Sd G k Γ r) (di : Sd G k Γ i) (dz : Sd G k Γ z) : Sd G k Γ (.ins r i z) := .ofE _ (fun _ => rfl) fun X W0 S g e c => by
  split at c
  · rename_i o m ap x e cp
    obtain ⟨c, c8⟩ := ba c
    obtain ⟨c, c7⟩ := ba c
    obtain ⟨c, c6⟩ := ba c
    obtain ⟨c, c5⟩ := ba c
    obtain ⟨c, c4⟩ := ba c
    obtain ⟨c, c3⟩ := ba c
    obtain ⟨c1, c2⟩ := ba c
    cases of_decide_eq_true c2
    have hs := @starEach_plain x [e] X.env c4
    have hs2 := @starEach_plain e [] X.env c5
    refine pe_imp (pe_bm PySem.F.plainAttrs_list PySem.F.slot_list_insert PySem.F.type_list_insert mt_insert (dr.E X W0 S g _ c6) (pa_two (di.E X W0 S g _ c7) (dz.E X W0 S g _ c8) c4 c5) (base_of c3) (by rw [hs, hs2]; rfl) c1 hs (by rw [hs2]; rfl)) fun σ H Q ⟨B, α, ρ, O, Q0, E0, R, h, hq, hl⟩ => ?_
    refine seqE R h hl fun u O0 h' α0 v0 H0 s0 w0 a0 => ?_
    cases u with
    | d _ => exact h'.elim
    | t _ => exact h'.elim
    | o k =>
      cases a0 with
      | @o _ a ek =>
      refine ⟨.inl ⟨rfl, ?_⟩, ?_⟩
      · have hk : k < O0.length := by rw [← w0.len]; exact (List.getElem?_eq_some_iff.mp ek).1
        have ho := w0.at_ k a _ ek (List.getElem?_eq_getElem hk)
        cases qo : O0[k] with
        | lst ds => rw [qo] at ho; obtain ⟨vs, e2, _⟩ := ho; exact ⟨vs, SqL.of e2⟩
        | brw ds => rw [qo] at ho; obtain ⟨vs, e2, _⟩ := ho; exact ⟨vs, SqL.of e2⟩
        | frz ds =>
          rw [qo] at ho
          cases (show At G.K (Mu B α0 O0) H0 (.ref a) (.lst ds) from ho) with
          | lst e2 _ _ => exact ⟨_, SqL.of e2⟩
      · refine seqE (R.stp s0 w0) h' (hl.stp s0) fun u O1 f α1 v H1 s1 w1 a1 => ?_
        refine seqE ((R.stp s0 w0).stp s1 w1) f ((hl.stp s0).stp s1) fun y O2 f α2 v2 H2 s2 w2 a2 => ?_
        obtain ⟨x2, e3, f⟩ := toK_of f
        have ax := At.of w2 a2 e3
        rw [go_eq] at f
        cases qo : O2[k]? with
        | none => rw [qo] at f; exact f.elim
        | some o =>
          rw [qo] at f
          cases o with
          | frz _ => exact f.elim
          | brw _ => exact f.elim
          | lst ds =>
            cases u with
            | o _ => exact f.elim
            | t _ => exact f.elim
            | d d0 =>
              cases d0 with
              | int j =>
                cases a1 with
                | d a1 =>
                cases a1
                obtain ⟨⟨f1, f2, f3⟩, f4⟩ := f
                have ek2 := (s1.trans s2).idx ek
                obtain ⟨vs, e4, r4⟩ := w2.at_ k a _ ek2 qo
                refine ⟨a, vs, j, v2, rfl, rfl, e4, by rw [r4.length]; exact f1, f2, f3, ?_⟩
                rw [so_eq] at f4
                exact hq.to f4 ((s0.trans (s1.trans s2)).trans (stp_set ek2 qo rfl)) (own_set w2 ek2 qo (((r4.take j.toNat).append (.cons ax .nil)).append (r4.drop j.toNat))) (.d .non)
              | _ => exact f.elim
  · cases c
theorem sd_fz {z : Y} (dz : Sd G k Γ z) : Sd G k Γ (.fz z) := .ofE _ (fun _ => rfl) fun X W0 S g e c => by
  refine pe_imp (dz.E X W0 S g e c) fun σ H Q ⟨B, α, ρ, O, Q0, E0, R, h, hq, hl⟩ => ?_
  refine seqE R h hl fun u O1 f α1 v H1 s1 w1 a1 => ?_
  cases u with
  | d x => exact hq.to f s1 w1 a1
  | t x => exact hq.to f s1 w1 a1
  | o k =>
    have f' : (match go O1 k with
      | some (.lst ds) => Q0 [.d (.lst ds)] (so O1 k (.frz ds))
      | _ => False) := f
    rw [go_eq] at f'
    cases qo : O1[k]? with
    | none => rw [qo] at f'; exact f'.elim
    | some o =>
      rw [qo] at f'
      cases o with
      | frz _ => exact f'.elim
      | brw _ => exact f'.elim
      | lst ds =>
        have f2 : Q0 [.d (.lst ds)] (so O1 k (.frz ds)) := f'
        rw [so_eq] at f2
        cases a1 with
        | @o _ a ek =>
        exact hq.to f2 (s1.trans (stp_frz qo rfl)) (own_frz w1 qo) (.d (by
          have h := (own_frz w1 qo).at_ k a (.frz ds) ek (by rw [List.getElem?_set_self (by exact (List.getElem?_eq_some_iff.mp qo).1)])
          exact h))
theorem sd_lis {z : Y} (dz : Sd G k Γ z) : Sd G k Γ (.lis z) := .ofE _ (fun _ => rfl) fun X W0 S g e c => by
  split at c
  · obtain ⟨c, c4⟩ := ba c
    obtain ⟨c, c3⟩ := ba c
    obtain ⟨c1, c2⟩ := ba c
    cases of_decide_eq_true c1
    refine pe_imp (pe_callTy call_list_of (glo_of g c2) (g.free _ (bf_free .list)) (by decide +kernel) (pa_one (dz.E X W0 S g _ c4) c3) (by decide) (by decide) (starEach_plain c3) rfl) fun σ H Q ⟨B, α, ρ, O, Q0, E0, R, h, hq, hl⟩ => ?_
    refine seqE R h hl fun u O1 f α1 v H1 s1 w1 a1 => ?_
    obtain ⟨x, e1, f⟩ := nrK_of f
    have av := Vw.of w1 a1 e1
    unfold listD at f
    split at f
    · rename_i h0
      cases h0
      obtain ⟨p, ws, rfl, e, r⟩ := av.lst
      exact ⟨_, _, rfl, .inl (SqL.of e), newL_to hq f s1 w1 r⟩
    · rename_i h0
      cases h0
      obtain ⟨p, ws, rfl, e, r⟩ := av.tup
      exact ⟨_, _, rfl, .inr (SqT.of e), newL_to hq f s1 w1 r⟩
    · rename_i h0
      cases h0
      obtain ⟨p, rfl, e⟩ := av.scr
      exact ⟨_, _, rfl, .inl (by rw [g.hK]; exact e), newL_to hq f s1 w1 (Ats.ints _)⟩
    · exact f.elim
  · cases c
theorem sd_rep {a b : Y} (da : Sd G k Γ a) (db : Sd G k Γ b) : Sd G k Γ (.rep a b) := .ofE _ (fun _ => rfl) fun X W0 S g e c => by
  split at c
  · obtain ⟨c2, c3⟩ := ba c
    refine pe_imp (pe_op op_rep (da.E X W0 S g _ c2) (db.E X W0 S g _ c3)) fun σ H Q ⟨B, α, ρ, O, Q0, E0, R, h, hq, hl⟩ => ?_
    refine seq2 R h hl fun u w O2 f α2 v v2 H2 s2 w2 a1 a2 => ?_
    obtain ⟨x, e1, f⟩ := nrK_of f
    obtain ⟨y, e2, f⟩ := nrK_of f
    have ax := Vw.of w2 a1 e1
    have ay := Vw.of w2 a2 e2
    unfold mulD at f
    split at f
    · exact f.2.elim
    · obtain ⟨p, vs, rfl, e, r⟩ := ax.lst
      obtain rfl := ay.int
      exact ⟨p, _, vs, rfl, rfl, e, f.1.1, f.1.2.1, by rw [r.length]; exact f.1.2.2, newL_to hq f.2 s2 w2 (ats_rep r _)⟩
    · exact f.2.elim
    · exact f.elim
  · cases c
theorem tyU_of {B : Addr → Prop} {α : List Addr} {O : List DO} {H : Hp} {u : U} {v : V} {t : String} (w : Own G B α O H) (a : AtU G.K B α O H v u) (h : tyU O u = some t) : TyX G.K H v (.type t) := by
  cases u with
  | d x =>
    cases a with
    | d a =>
      cases a with
      | non => cases h; exact .base .non
      | bl b => cases h; exact .base (.bl b)
      | int b => cases h; exact .base (.int b)
      | str b => cases h; exact .base (.str b)
      | tup e m r => cases h; exact .base (.tup e)
      | lst e m r => cases h; exact .base (.lst e)
      | dct e => cases h; exact .base (.dK e)
      | obj => cases h
      | scr e m => cases h
      | scrK e => cases h
  | o k =>
    have h' : (match go O k with
      | some _ => some "list"
      | none => none) = some t := h
    rw [go_eq] at h'
    cases a with
    | @o _ p ek =>
    cases q : O[k]? with
    | none => rw [q] at h'; cases h'
    | some o =>
      rw [q] at h'
      cases h'
      have ho := w.at_ k p o ek q
      cases o with
      | lst ds => obtain ⟨vs, e, _⟩ := ho; exact .base (.lst e)
      | brw ds => obtain ⟨vs, e, _⟩ := ho; exact .base (.lst e)
      | frz ds =>
        cases (show At G.K (Mu B α O) H (.ref p) (.lst ds) from ho) with
        | lst e2 _ _ => exact .base (.lst e2)
  | t us => cases a with
    | t e m r => cases h; exact .base (.tup e)
theorem bt_of {n : String} (h : ["int", "bool", "str", "list", "tuple", "dict"].contains n = true) : Str.ofString n ∈ bnames ∧ bootBuiltins (Str.ofString n) = some (.type n) ∧ Str.ofString n ≠ "__name__" ∧ (Str.ofString n == ("__debug__" : Str)) = false := by
  rw [List.contains_iff_mem] at h
  simp only [List.mem_cons, List.not_mem_nil, or_false] at h
  rcases h with rfl | rfl | rfl | rfl | rfl | rfl <;> exact ⟨by decide, by decide +kernel, by decide, by decide⟩
def tTy (n : String) : TE := fun _ H Q => Q (.ty n) H
theorem pe_tyN {X : Cx} {x : Str} {p : Pos} {n : String} (hg : Gl X x) (hm : X.mg x = none) (hv : bootBuiltins x = some (.type n)) (hn : x ≠ "__name__") (hdb : (x == ("__debug__" : Str)) = false) : PE X (.Name x p) (tTy n) :=
  ⟨fun pins s σ H Q I h => ld_blt I hg hm hv ⟨.ty n, H, I, rfl, h⟩ hn hdb⟩
theorem pe_tyB {X : Cx} {W0 : XK} {S : Sx} (g : Good X G W0 k S Γ) {t : Str} {n : String} {p : Pos} (h : tyB S.sc t n = true) : PE X (.Name t p) (tTy n) := by
  obtain ⟨h, h3⟩ := ba h
  obtain ⟨h1, h2⟩ := ba h
  cases of_decide_eq_true h1
  obtain ⟨a, b, c, d⟩ := bt_of h3
  exact pe_tyN (glo_of g h2) (g.free _ a) b c d
def tTys (ns : List String) : TA := fun _ H Q => Q (ns.map .ty) H
theorem pa_tys {X : Cx} {W0 : XK} {S : Sx} (g : Good X G W0 k S Γ) : ∀ {ts : List Expr} {ns : List String}, tysB S.sc ts ns = true → PA X ts (tTys ns)
  | [], [], _ => pa_imp pa_nil fun _ _ _ h => h
  | [], _ :: _, h => by cases h
  | .Name t p :: ts, [], h => by cases h
  | .Name t p :: ts, n :: ns, h => by
    obtain ⟨h1, h2⟩ := ba h
    exact pa_imp (pa_cons (pe_tyB g h1) (pa_tys g h2)) fun σ H Q h => h
theorem isiB_any {K : PySem.W.Frag} {t : String} : ∀ {cs : List String} {b : Bool}, isiB t cs = some b → PySem.W.kitAny K (.type t) (cs.map Value.type) = some b
  | [], b, h => h
  | c :: cs, b, h => by
    rw [isiB] at h
    cases q : kitB t c with
    | none => rw [q] at h; cases h
    | some r =>
      rw [q] at h
      cases r with
      | true => exact kitAny_cons (kit_ty q) (fun z => by cases z) (fun _ => by cases h; rfl)
      | false => exact kitAny_cons (kit_ty q) (fun _ => isiB_any h) (fun z => by cases z)
theorem paired_ty : ∀ (cs : List String), Paired ClsV (cs.map V.ty) (cs.map Value.type)
  | [] => .nil
  | c :: cs => .cons (.ty c) (paired_ty cs)
theorem sd_isi {a : Y} (cs : List String) (da : Sd G k Γ a) : Sd G k Γ (.isi a cs) := .ofE _ (fun _ => rfl) fun X W0 S g e c => by
  split at c
  · rename_i x tc _
    obtain ⟨c, c7⟩ := ba c
    obtain ⟨c, c6⟩ := ba c
    obtain ⟨c, c5⟩ := ba c
    obtain ⟨c, c4⟩ := ba c
    obtain ⟨c, c3⟩ := ba c
    obtain ⟨c1, c2⟩ := ba c
    cases of_decide_eq_true c1
    have hz : cs.length ≤ sizeLine := Nat.le_trans (of_decide_eq_true c7) (by decide)
    have hm := g.free "isinstance" (by decide)
    have key : ∀ {σ : L2.St} {H : Hp} {F : V → Hp → Prop} {Q : VK} {B : Addr → Prop} {α : List Addr} {ρ : List (Option U)} {O : List DO} {Q0 : ZQ} {E0 : ZX}, Rep G B α σ H ρ O → vc Γ (.isi a cs) E0 ρ O Q0 → QLow G B α O H Q0 Q → ELow G B W0 α O H E0 →
        (∀ v α1 O1 H1 u t b, Own G B α1 O1 H1 → AtU G.K B α1 O1 H1 v u → tyU O1 u = some t → isiB t cs = some b → (∀ H2, Stp α1 O1 H1 α1 O1 H2 → Own G B α1 O1 H2 → Q (.bl b) H2) → F v H1) → LfE G W0 (vc Γ a) σ H F := by
      intro σ H F Q B α ρ O Q0 E0 R h hq hl kk
      refine seqE R h hl fun u O1 f α1 v H1 s1 w1 a1 => ?_
      cases q : tyU O1 u with
      | none => rw [q] at f; exact f.elim
      | some t =>
        rw [q] at f
        obtain ⟨b, e, f⟩ := f
        exact kk v α1 O1 H1 u t b w1 a1 q e fun H2 s2 w2 => hq.to f (s1.trans s2) w2 (.d (.bl _))
    cases tc with
    | Name t p =>
      match cs, c6 with
      | [n], c6 =>
        have c6' : tyB S.sc t n = true := c6
        refine pe_imp (pe_callB call_isi (glo_of g c2) hm (by decide +kernel) (pa_two (da.E X W0 S g _ c5) (pe_tyB g c6') c3 rfl) (by decide) (by decide) (starEach_plain c3) rfl) fun σ H Q ⟨B, α, ρ, O, Q0, E0, R, h, hq, hl⟩ => ?_
        refine key R h hq hl fun v α1 O1 H1 u t b w1 a1 e1 e2 q => ?_
        have e3 := isiB_any (K := X.K) e2
        refine ⟨v, .ty n, .type t, .type n, b, rfl, .ty n, by rw [g.hK]; exact tyU_of w1 a1 e1, ?_, q H1 Stp.refl w1⟩
        rw [isiB] at e2
        cases qk : kitB t n with
        | none => rw [qk] at e2; cases e2
        | some r =>
          rw [qk] at e2
          cases r with
          | true => cases e2; exact kit_ty qk
          | false => cases e2; exact kit_ty qk
      | [], c6 => cases c6
      | _ :: _ :: _, c6 => cases c6
    | Tuple ts m p =>
      have c6' : tysB S.sc ts cs = true := by
        unfold isiC at c6
        exact c6
      refine pe_imp (pe_callB call_isiT (glo_of g c2) hm (by decide +kernel) (pa_two (da.E X W0 S g _ c5) (pe_tup (pa_tys g c6')) c3 rfl) (by decide) (by decide) (starEach_plain c3) rfl) fun σ H Q ⟨B, α, ρ, O, Q0, E0, R, h, hq, hl⟩ => ?_
      refine key R h hq hl fun v α1 O1 H1 u t b w1 a1 e1 e2 q => ?_
      refine ⟨by rw [List.length_map]; exact hz, fun p hp => ?_⟩
      have s := stp_new (α := α1) (O := O1) (o := .tup (cs.map V.ty)) hp
      have w2 := own_new (o := .tup (cs.map V.ty)) w1 hp
      exact ⟨v, p, cs.map V.ty, .type t, cs.map Value.type, b, rfl, upd_same, paired_ty cs, by rw [g.hK]; exact tyU_of w2 (s.atU a1) e1, isiB_any e2, q _ s w2⟩
    | _ => cases c6
  · cases c
theorem plainIx_of {b : Expr} (h : noSlice b = true) : PlainIx b := by
  intro o i
  cases b <;> first | rfl | cases h
def rIxU (K : PySem.W.Frag) : R2 := rIxT K
theorem AtUs.get {B : Addr → Prop} {α : List Addr} {O : List DO} {H : Hp} {K : PySem.W.Frag} : ∀ {vs : List V} {us : List U} {i : Nat} {u : U}, AtUs K B α O H vs us → us[i]? = some u → ∃ v, vs[i]? = some v ∧ AtU K B α O H v u
  | _, _, _, _, .nil, e => by simp at e
  | _, _, 0, _, .cons a _, e => by simp at e; subst e; exact ⟨_, rfl, a⟩
  | _, _, i + 1, v, .cons _ r, e => by
    obtain ⟨d, h1, h2⟩ := AtUs.get (i := i) (u := v) r (by simpa using e)
    exact ⟨d, by simpa using h1, h2⟩
theorem AtUs.atI {B : Addr → Prop} {α : List Addr} {O : List DO} {H : Hp} {K : PySem.W.Frag} {vs : List V} {us : List U} (r : AtUs K B α O H vs us) {i : Int} {u : U} (e : L2.atI us i = some u) : ∃ v, L2.atI vs i = some v ∧ AtU K B α O H v u := by
  unfold L2.atI at e ⊢
  rw [r.length]
  cases q : ixN us.length i with
  | none => rw [q] at e; cases e
  | some j =>
    rw [q] at e
    exact AtUs.get r e
theorem sd_ix {a b : Y} (da : Sd G k Γ a) (db : Sd G k Γ b) : Sd G k Γ (.ix a b) := .ofE _ (fun _ => rfl) fun X W0 S g e c => by
  split at c
  · obtain ⟨c, c3⟩ := ba c
    obtain ⟨c1, c2⟩ := ba c
    refine pe_imp (pe_ix (.or (ix_r g.hK) ix_tup) (da.E X W0 S g _ c1) (db.E X W0 S g _ c2) (plainIx_of c3)) fun σ H Q ⟨B, α, ρ, O, Q0, E0, R, h, hq, hl⟩ => ?_
    refine seq2 R h hl fun u w O2 f α2 v v2 H2 s2 w2 a1 a2 => ?_
    obtain ⟨y, e2, f⟩ := nrK_of f
    have ay := Vw.of w2 a2 e2
    have dat : (nrK O2 u fun x => ixD x y fun z => Q0 [.d z] O2) → rB G ixD v v2 H2 Q := fun f => by
      obtain ⟨x, e1, f⟩ := nrK_of f
      exact ⟨B, α2, O2, x, y, _, w2, Vw.of w2 a1 e1, ay, f, fun z q v' H' s' w' a' => hq.to q (s2.trans s') w' (.d a')⟩
    cases u with
    | d x => exact .inl (dat f)
    | o k => exact .inl (dat f)
    | t us =>
      cases y with
      | int i =>
        obtain ⟨w, e3, f⟩ := f
        obtain rfl := ay.int
        cases a1 with
        | t e m r =>
        obtain ⟨v3, e4, a3⟩ := r.atI e3
        exact .inr ⟨_, _, i, v3, rfl, rfl, SqT.of e, e4, hq.to f s2 w2 a3⟩
      | _ => exact f.elim
  · cases c
theorem partK_of {us : List U} {k : Option Int → Prop} (h : partK us k) : (us = [] ∧ k none) ∨ ∃ i, us = [.d (.int i)] ∧ k (some i) := by
  unfold partK at h
  split at h
  · exact .inl ⟨rfl, h⟩
  · exact .inr ⟨_, rfl, h⟩
  · exact h.elim
theorem sd_sl {a lo hi : Y} (da : Sd G k Γ a) (dl : Sd G k Γ lo) (dh : Sd G k Γ hi) : Sd G k Γ (.sl a lo hi) := .ofE _ (fun _ => rfl) fun X W0 S g e c => by
  split at c
  · obtain ⟨c, c3⟩ := ba c
    obtain ⟨c1, c2⟩ := ba c
    refine pe_imp (pe_slice (sl_r g.hK) (da.E X W0 S g _ c1) (dl.O X W0 S g _ c2) (dh.O X W0 S g _ c3)) fun σ H Q ⟨B, α, ρ, O, Q0, E0, R, h, hq, hl⟩ => ?_
    refine seqE R h hl fun u O1 f α1 v H1 s1 w1 a1 => ?_
    have part : ∀ {σ : L2.St} {B : Addr → Prop} {α : List Addr} {O : List DO} {H : Hp} {t : ZE} {F : Option Int → List DO → Prop} {Q : Option Int → Hp → Prop}, Rep G B α σ H ρ O → (t E0 ρ O fun ls O2 => partK ls fun l => F l O2) → ELow G B W0 α O H E0 →
        (∀ l O2, F l O2 → ∀ α2 H2, Stp α O H α2 O2 H2 → Own G B α2 O2 H2 → Q l H2) → LfO G W0 t σ H Q := fun {σ B α O H t F Q} R h hl kk =>
      ⟨B, α, ρ, O, _, E0, R, h, fun ls O2 q => by
        rcases partK_of q with ⟨e, q⟩ | ⟨i, e, q⟩
        · exact ⟨none, .inl ⟨e, rfl⟩, kk _ _ q⟩
        · exact ⟨some i, .inr ⟨i, e, rfl⟩, kk _ _ q⟩, hl⟩
    refine part (R.stp s1 w1) f (hl.stp s1) fun l O2 f2 α2 H2 s2 w2 => ?_
    refine part ((R.stp s1 w1).stp s2 w2) f2 ((hl.stp s1).stp s2) fun r O3 f3 α3 H3 s3 w3 => ?_
    obtain ⟨x, e1, f3⟩ := nrK_of f3
    exact ⟨B, α3, O3, x, _, w3, Vw.of w3 (s3.atU (s2.atU a1)) e1, f3, fun z q v' H' s' w' a' => hq.to q (((s1.trans s2).trans s3).trans s') w' (.d a')⟩
  · cases c
end
end Z

set_option Elab.async false
set_option linter.all false
set_option maxRecDepth 100000
set_option maxHeartbeats 4000000
namespace Z
open PySem PySem.Spec PyProof.Rows L2
/-! ### enumerate over a tuple -/
theorem meets_enumT (ta : Addr) (xs : Array Value) :
    Meets (Builtin.«enumerate.__new__» ⟨[.type "enumerate", .ref ta], []⟩) (fun _ R s => s.heap.IsTuple ta xs ∧
      R (.ok (.ret (.ref (s.heap.push { cls := .type "tuple_iterator", data := .fields #[.ref ta, .int 0 0] }).objs.size)))
        { s with heap := (s.heap.push { cls := .type "tuple_iterator", data := .fields #[.ref ta, .int 0 0] }).push { cls := .type "enumerate", data := .fields #[.none, .bool false, .ref s.heap.objs.size, rawInt 0, .none, .none] } }) :=
  .of_wp fun prog w A R s h => by
    obtain ⟨hp, g, d, tk, os⟩ := s; obtain ⟨ht, h⟩ := h
    have hs0 := sub_enumerate
    have q1 : ∀ {A2 : Around} {E2 : Value → Shared → Prop} {Q2 : Value → Shared → Prop}, Q2 (.ref hp.objs.size) ⟨hp.push { cls := .type "tuple_iterator", data := .fields #[.ref ta, .int 0 0] }, g, d, tk, os⟩ → wpAny (model prog w) A2 (pyIter (.ref ta)) Q2 E2 ⟨hp, g, d, tk, os⟩ :=
      fun q => wpAny_pyIter_tuple ht q
    wp_walk using q1
    refine wpAny_stack_any fun sk => wpAny_pure ?_
    split
    · rename_i c _ _ _ _ _
      cases (c == Value.type "enumerate") <;> (wp_walk using q1; exact ⟨_, rfl, h⟩)
    · wp_walk using q1; exact ⟨_, rfl, h⟩
section
variable {prog : Program} {w : World} {A : Around} {E : Value → Shared → Prop} {s : Shared}
theorem call_enumT {ta : Addr} {xs : Array Value} {Q : Value → Shared → Prop} (ht : s.heap.IsTuple ta xs)
    (hq : ∀ h2, IsEnum h2 (s.heap.objs.size + 1) s.heap.objs.size 0 .none → h2.IsTupleIter s.heap.objs.size ta 0 → h2.objs.size = s.heap.objs.size + 2 → (∀ b o, s.heap.get? b = some o → h2.get? b = some o) → Q (.ref (s.heap.objs.size + 1)) { s with heap := h2 }) :
    wpAny (model prog w) A (call (.type "enumerate") [.ref ta]) Q E s := by
  refine callType_new F.called_enumerate (by decide) (F.typeCall_enumerate_1 _) (F.newCall_enumerate_1 _) (fun z => F.args_object_init_2 z _) F.entry_enumerate_new (meets_enumT ta xs) ⟨ht, ?_⟩
  have sz : (s.heap.push { cls := .type "tuple_iterator", data := .fields #[.ref ta, .int 0 0] }).objs.size = s.heap.objs.size + 1 := Heap.size_push ..
  show _ ∧ _
  rw [sz]
  have en : IsEnum ((s.heap.push { cls := .type "tuple_iterator", data := .fields #[.ref ta, .int 0 0] }).push { cls := .type "enumerate", data := .fields #[.none, .bool false, .ref s.heap.objs.size, rawInt 0, .none, .none] }) (s.heap.objs.size + 1) s.heap.objs.size 0 .none := by
    have z := Heap.get?_push_size (s.heap.push { cls := .type "tuple_iterator", data := .fields #[.ref ta, .int 0 0] }) (o := { cls := .type "enumerate", data := .fields #[.none, .bool false, .ref s.heap.objs.size, rawInt 0, .none, .none] }) rfl
    rw [sz] at z
    exact z
  refine ⟨⟨_, en, rfl⟩, hq _ en ⟨_, Heap.get?_push_of_some _ (Heap.get?_push_size _ rfl), rfl, rfl⟩ (by rw [Heap.size_push, sz]) fun b o y => Heap.get?_push_of_some _ (Heap.get?_push_of_some _ y)⟩
end
theorem next_enumT_end {prog : Program} {w : World} {A : Around} {E : Value → Shared → Prop} {s : Shared} {e it ta : Addr} {i : Nat} {j : Int} {xs : Array Value} {old : Value} {Q : Option Value → Shared → Prop} (h0 : A.handled = none) (en : IsEnum s.heap e it j old) (hit : s.heap.IsTupleIter it ta i) (ht : s.heap.IsTuple ta xs) (hx : xs[i]? = none)
    (hq : ∀ h2, Heap.ExtBut it s.heap h2 → Q none { s with heap := h2 }) : wpAny (model prog w) A (pyNext (.ref e)) Q E s := by
  have ty : s.TypeIs (.ref e) "enumerate" := ⟨_, en, rfl⟩
  unfold pyNext
  refine wpAny_bind (wpAny_attempt (wpAny_callSpecial?_slot (name := Str.ofString "__next__") ty F.slot_enumerate_next (wpAny_call_entry F.slot_enumerate_next ty F.entry_enumerate_next ?_ (F.args_enumerate_next_1 _))))
  show wpAny _ _ (field (.ref e) 2 >>= _) _ _ _
  refine wpAny_bind (wpAny_field en rfl (x := .ref it) rfl (wpAny_bind (RZ.nextOf_tuple_end (A := A.in1) (show A.in1.handled = none from h0) hit ht hx fun h2 y he2 hy => ?_)))
  obtain ⟨o, ho, hc⟩ := hy
  exact wpAny_bind (wpAny_isInstance (T := "StopIteration") (b := true) ⟨o, ho, hc⟩ isSubtype_stop (wpAny_pure (hq _ he2)))
/-- the tuple at a, each item in a new pair with its place -/
def IteT (K : PySem.W.Frag) (a : Addr) : It :=
  ⟨fun i H => ∃ (xs : List V) (x : V), SqT K H a xs ∧ xs[i]? = some x, fun i H v H2 => ∃ T x, v = .ref T ∧ H T = none ∧ H2 = upd H T (.tup [.int (i : Nat), x]) ∧ ∀ xs, SqT K H a xs → xs[i]? = some x, fun i H => ∃ xs : List V, SqT K H a xs ∧ xs.length ≤ i⟩
theorem turn_enumT {P : Program} {w : World} {K : PySem.W.Frag} {elts : List Expr} {kk : Nat} {tpos : Pos} (a e it : Addr) :
    Turn P w K (.Tuple elts kk tpos) (IteT K a) [e, it] e (fun i h => (∃ old, IsEnum h e it ((i : Nat) : Int) old) ∧ h.IsTupleIter it a i ∧ e ≠ it ∧ a ≠ e ∧ a ≠ it) where
  mem := by simp
  obj := fun i h st b hb => by
    obtain ⟨⟨old, en⟩, ⟨o, ho, hc, hd⟩, _⟩ := st
    have two : b = e ∨ b = it := by simpa using hb
    rcases two with z | z
    · rw [z]; exact ⟨_, en, fun v q => nomatch q⟩
    · rw [z]; exact ⟨o, ho, fun v q => by rw [hd] at q; cases q⟩
  keep := fun i h h2 st k => let ⟨⟨old, en⟩, hi, h3⟩ := st; ⟨⟨old, k e (by simp) _ en⟩, hi.at fun o q => k it (by simp) o q, h3⟩
  item := by
    intro X hP hw hK hc i pins s σ H E I hf st hg
    subst hP hw hK
    obtain ⟨⟨old, en⟩, hit, n1, n2, n3⟩ := st
    obtain ⟨xs, x, hsq, hx⟩ := hg
    obtain ⟨ys, rv, tp, hz⟩ := I.tuple hsq
    obtain ⟨u, hu, ru⟩ := rv.get hx
    have tp : s.heap.IsTuple a ys.toArray := tp
    have le1 : e < s.heap.objs.size := Heap.lt_size en
    have le2 : it < s.heap.objs.size := by obtain ⟨_, q, _⟩ := hit; exact Heap.lt_size q
    have hix : i < ys.toArray.size := by
      have := (List.getElem?_eq_some_iff.mp hu).1
      simpa using this
    refine wpAny_pyNext_enum_itemD (Draws.tuple (A := X.A.in1) (show X.A.in1.handled = none from I.ok.hd hc) it a n3 ys.toArray) en ⟨hit, tp⟩ hix n1 (by simp [n1, Ne.symm n2]) fun y h2 tk hy ho st2 hT hsz hk => ?_
    have huy : ys.toArray[i]? = some y := hy
    have ey : y = u := by
      have z : ys.toArray[i]? = some u := by simpa using hu
      rw [huy] at z
      cases z
      rfl
    subst ey
    refine ⟨_, rfl, wpAny_letOwnedTupleGo_enum (s := { s with heap := h2, toks := tk + 1 }) ho fun h3 he3 sb => ?_⟩
    have hT2 : h3.get? s.heap.objs.size = some { cls := .type "tuple", data := .seq #[.int i tk, y] } := (sb.2 _ (Nat.ne_of_gt le1)).trans hT
    have new : ObjOk X.prog X.w (upd H s.heap.objs.size (.tup [.int (i : Nat), x])) h3 s.heap.objs.size (.tup [.int (i : Nat), x]) :=
      ⟨by show 2 ≤ sizeLine; decide, [.int i tk, y], .cons ⟨_, rfl⟩ (.cons ru .nil), ⟨_, hT2, rfl, _, rfl⟩⟩
    have I1 : Inv X pins σ (upd H s.heap.objs.size (.tup [.int (i : Nat), x])) { s with heap := h3, toks := tk + 1 } :=
      I.turnedNew (ch := [e, it]) (fun b ob hb q => (sb.2 b (fun z => hb (by simp [z]))).trans (hk b ob (fun z => hb (by simp [z])) (fun z => hb (by simp [z])) q)) hf (Nat.le_refl _) new
    refine ⟨.ref s.heap.objs.size, _, I1, rfl, ⟨_, x, rfl, I.hok.fresh (Nat.le_refl _), rfl, fun zs hz2 => by rw [I.tuple_inj hz2 hsq]; exact hx⟩, ⟨⟨y, ?_⟩, st2.1.at fun o q => (sb.2 it (Ne.symm n1)).trans q, n1, n2, n3⟩, fun b hb => ?_⟩
    · have e1 : ((i + 1 : Nat) : Int) = (i : Int) + 1 := by omega
      rw [e1]
      exact he3
    · have two : b = e ∨ b = it := by simpa using hb
      have hb2 : b < s.heap.objs.size := by
        rcases two with z | z
        · rw [z]; exact le1
        · rw [z]; exact le2
      rw [upd_ne (Nat.ne_of_lt hb2)]
      exact (hf b hb).1
  done := by
    intro X hP hw hK hc i pins s σ H E I hf st hg
    subst hP hw hK
    obtain ⟨⟨old, en⟩, hit, n1, n2, n3⟩ := st
    obtain ⟨xs, hsq, hx⟩ := hg
    obtain ⟨ys, rv, tp, hz⟩ := I.tuple hsq
    obtain ⟨g0, g1, g2, g3, g4, g5⟩ := hf it (by simp)
    have tp : s.heap.IsTuple a ys.toArray := tp
    have hl := rv.length
    exact next_enumT_end (I.ok.hd hc) en hit tp (by simp; omega) fun h2 eb => ⟨rfl, I.turned (t' := s.toks) (fun b o hb q => eb b o hb q) g0 g1 g3 g4 g5⟩
  self := fun A i s Q E st h => let ⟨⟨_, en⟩, _⟩ := st; wpAny_pyIter_enum en h
def iEnumA (K : PySem.W.Frag) (ta : TA) : TI := fun σ H R => ta σ H fun vs H1 => ∃ a xs, vs = [.ref a] ∧ ((SqL K H1 a xs ∧ R (Ite K a) H1) ∨ (SqT K H1 a xs ∧ R (IteT K a) H1))
theorem pi_enumA {X : Cx} {e : Expr} {ta : TA} {p pos tpos : Pos} {elts : List Expr} {kk : Nat} (hg : Gl X "enumerate") (hm : X.mg "enumerate" = none) (ha : PA X [e] ta) (hs : starEach [e] X.env = [(false, eval e X.env)]) :
    PI X (.Tuple elts kk tpos) (.Call (.Name "enumerate" p) [e] [] pos) (iEnumA X.K ta) := by
  refine ⟨fun pins s σ H R I h => ?_⟩
  refine Call_ (ld_blt I hg hm boot_enumerate (PyProof.Rows.callWith_type1 (thn (ha.run pos pins s σ H _ I h) fun us s1 ⟨vs, H1, I1, r1, q1⟩ => ?_) hs rfl))
  obtain ⟨a, xs, ex, q1⟩ := q1
  subst ex
  cases r1 with
  | cons r rr =>
  cases rr
  cases r
  have fresh : ∀ b, b ∈ [s1.heap.objs.size + 1, s1.heap.objs.size] → FpOk X pins H1 b := fun b hb => by
    have two : b = s1.heap.objs.size + 1 ∨ b = s1.heap.objs.size := by simpa using hb
    have le1 : s1.heap.objs.size ≤ b := by omega
    exact I1.fpOk le1 (I1.hok.fresh le1)
  rcases q1 with ⟨hq, q⟩ | ⟨hq, q⟩
  · obtain ⟨its, rv, pl, hz⟩ := I1.list hq
    refine call_enumerate_list pl.isList fun h2 en hit hsz hk => wpAny_pyIter_enum en ?_
    exact ⟨s1.heap.objs.size + 1, [s1.heap.objs.size + 1, s1.heap.objs.size], _, _, H1, rfl, I1.kept (t' := s1.toks) hk, turn_enum a (s1.heap.objs.size + 1) s1.heap.objs.size, ⟨⟨.none, en⟩, hit, Nat.succ_ne_self _⟩, fresh, q⟩
  · obtain ⟨its, rv, pt, hz⟩ := I1.tuple hq
    have pt : s1.heap.IsTuple a its.toArray := pt
    have al : a < s1.heap.objs.size := by
      obtain ⟨o, ho, _⟩ := id pt
      exact Heap.lt_size ho
    refine call_enumT pt fun h2 en hit hsz hk => wpAny_pyIter_enum en ?_
    exact ⟨s1.heap.objs.size + 1, [s1.heap.objs.size + 1, s1.heap.objs.size], _, _, H1, rfl, I1.kept (t' := s1.toks) hk, turn_enumT a (s1.heap.objs.size + 1) s1.heap.objs.size, ⟨⟨.none, en⟩, hit, Nat.succ_ne_self _, Nat.ne_of_lt (Nat.lt_succ_of_lt al), Nat.ne_of_lt al⟩, fresh, q⟩
theorem walk_enumT {K : PySem.W.Frag} {a : Addr} {xs : List V} : L2.Walk (IteT K a) xs.length (fun H => SqT K H a xs) (YPair (fun i => some (.int (i : Nat))) (fun i => xs[i]?)) := by
  refine ⟨fun i _ hi q => ⟨xs, xs[i], q, by simp [hi]⟩, fun _ q => ⟨xs, q, Nat.le_refl _⟩, fun i H v H2 _ q y => ?_⟩
  obtain ⟨T, x, h1, h2, h3, h4⟩ := y
  exact ⟨T, .int (i : Nat), x, h1, h2, h3, rfl, h4 xs q⟩
end Z

set_option Elab.async false
set_option linter.all false
set_option maxRecDepth 100000
set_option maxHeartbeats 4000000
namespace Z
open PySem PySem.Spec PyProof.Rows L2
/-! ### zip of a list and a tuple -/
def ItzM (K : PySem.W.Frag) (a b : Addr) : It :=
  ⟨fun i H => ∃ (xs ys : List V) (x y : V), SqL K H a xs ∧ SqT K H b ys ∧ xs[i]? = some x ∧ ys[i]? = some y,
    fun i H v H2 => ∃ T x y, v = .ref T ∧ H T = none ∧ H2 = upd H T (.tup [x, y]) ∧ (∀ xs, SqL K H a xs → xs[i]? = some x) ∧ ∀ ys, SqT K H b ys → ys[i]? = some y,
    fun i H => ∃ xs ys : List V, SqL K H a xs ∧ SqT K H b ys ∧ i ≤ xs.length ∧ i ≤ ys.length ∧ (i = xs.length ∨ i = ys.length)⟩
theorem turn_zipM {P : Program} {w : World} {K : PySem.W.Frag} {elts : List Expr} {kk : Nat} {tpos : Pos} {a b z TI TO i1 i2 : Addr} (S : ZipSep2 z TI TO i1 i2 [i1, a] [i2, b]) (na : a ≠ i1) (nb : b ≠ i2) :
    Turn P w K (.Tuple elts kk tpos) (ItzM K a b) [z, TI, TO, i1, i2] z (fun i h => IsZip h z TI TO .none ∧ IsTupOf2 h TI (.ref i1) (.ref i2) ∧ (∃ x y, IsTupOf2 h TO x y) ∧ h.IsListIter i1 a i ∧ h.IsTupleIter i2 b i) where
  mem := by simp
  obj := fun i h st c hc => by
    obtain ⟨q1, q2, ⟨x, y, q3⟩, ⟨o1, e1, _, d1⟩, ⟨o2, e2, _, d2⟩⟩ := st
    have five : c = z ∨ c = TI ∨ c = TO ∨ c = i1 ∨ c = i2 := by simpa using hc
    rcases five with q | q | q | q | q
    · rw [q]; exact ⟨_, q1, fun v q => nomatch q⟩
    · rw [q]; exact ⟨_, q2, fun v q => nomatch q⟩
    · rw [q]; exact ⟨_, q3, fun v q => nomatch q⟩
    · rw [q]; exact ⟨o1, e1, fun v q => by rw [d1] at q; cases q⟩
    · rw [q]; exact ⟨o2, e2, fun v q => by rw [d2] at q; cases q⟩
  keep := fun i h h2 st k => by
    obtain ⟨q1, q2, ⟨x, y, q3⟩, q4, q5⟩ := st
    exact ⟨k z (by simp) _ q1, k TI (by simp) _ q2, ⟨x, y, k TO (by simp) _ q3⟩, q4.at fun o q => k i1 (by simp) o q, q5.at fun o q => k i2 (by simp) o q⟩
  item := by
    intro X hP hw hK hc i pins s σ H E I hf st hg
    subst hP hw hK
    obtain ⟨q1, q2, ⟨x0, y0, q3⟩, q4, q5⟩ := st
    obtain ⟨xs, ys, x, y, sx, sy, gx, gy⟩ := hg
    obtain ⟨us, rv, pl, _⟩ := I.list sx
    obtain ⟨ws, rw2, pt, _⟩ := I.tuple sy
    obtain ⟨u, hu, ru⟩ := rv.get gx
    obtain ⟨t, ht, rt⟩ := rw2.get gy
    have pt : s.heap.IsTuple b ws.toArray := pt
    have zl : z < s.heap.objs.size := Heap.lt_size q1
    have lu : i < us.toArray.size := by
      have := (List.getElem?_eq_some_iff.mp hu).1
      simpa using this
    have lt : i < ws.toArray.size := by
      have := (List.getElem?_eq_some_iff.mp ht).1
      simpa using this
    have h0 : X.A.in1.handled = none := I.ok.hd hc
    refine wpAny_pyNext_zipD2_item S (Draws.list (A := X.A.in1) h0 i1 a na us.toArray) (Draws.tuple (A := X.A.in1) h0 i2 b nb ws.toArray) q1 q2 q3 ⟨q4, pl.isList⟩ ⟨q5, pt⟩ lu lt fun x1 x2 h2 tk e1 e2 z2 T2 st1 st2 hT hsz hk => ?_
    have e1 : us.toArray[i]? = some x1 := e1
    have e2 : ws.toArray[i]? = some x2 := e2
    have ex1 : x1 = u := by
      have k : us.toArray[i]? = some u := by simpa using hu
      rw [e1] at k
      cases k
      rfl
    have ex2 : x2 = t := by
      have k : ws.toArray[i]? = some t := by simpa using ht
      rw [e2] at k
      cases k
      rfl
    subst ex1 ex2
    refine ⟨_, rfl, wpAny_letOwnedTupleGo_zip (s := { s with heap := h2, toks := tk }) z2 fun h3 z3 sb => ?_⟩
    have hT2 : h3.get? s.heap.objs.size = some { cls := .type "tuple", data := .seq #[x1, x2] } := (sb.2 _ (Nat.ne_of_gt zl)).trans hT
    have new : ObjOk X.prog X.w (upd H s.heap.objs.size (.tup [x, y])) h3 s.heap.objs.size (.tup [x, y]) := ⟨by show 2 ≤ sizeLine; decide, [x1, x2], .cons ru (.cons rt .nil), ⟨_, hT2, rfl, _, rfl⟩⟩
    have I1 : Inv X pins σ (upd H s.heap.objs.size (.tup [x, y])) { s with heap := h3, toks := tk } :=
      I.turnedNew (ch := [z, TI, TO, i1, i2]) (fun c o hb q => (sb.2 c (fun k => hb (by simp [k]))).trans (hk c o (fun k => hb (by simp [k])) (fun k => hb (by simp [k])) (fun k => hb (by simp [k])) (fun k => hb (by simp [k])) q)) hf (Nat.le_refl _) new
    refine ⟨.ref s.heap.objs.size, _, I1, rfl, ⟨_, x, y, rfl, I.hok.fresh (Nat.le_refl _), rfl, fun l hl => by rw [I.list_inj hl sx]; exact gx, fun l hl => by rw [I.tuple_inj hl sy]; exact gy⟩, ⟨z3, ?_, ⟨x1, x2, ?_⟩, ?_, ?_⟩, fun c hcm => ?_⟩
    · exact (sb.2 _ S.TIz).trans (hk _ _ S.TIz S.TITO S.TIi1 S.TIi2 q2)
    · exact (sb.2 _ S.TOz).trans T2
    · exact st1.1.at fun o q => (sb.2 _ (Ne.symm S.zi1)).trans q
    · exact st2.1.at fun o q => (sb.2 _ (Ne.symm S.zi2)).trans q
    · have hlt : c < s.heap.objs.size := by
        have five : c = z ∨ c = TI ∨ c = TO ∨ c = i1 ∨ c = i2 := by simpa using hcm
        rcases five with q | q | q | q | q
        · rw [q]; exact zl
        · rw [q]; exact Heap.lt_size q2
        · rw [q]; exact Heap.lt_size q3
        · rw [q]; obtain ⟨_, e1, _⟩ := q4; exact Heap.lt_size e1
        · rw [q]; obtain ⟨_, e2, _⟩ := q5; exact Heap.lt_size e2
      rw [upd_ne (Nat.ne_of_lt hlt)]
      exact (hf c hcm).1
  done := by
    intro X hP hw hK hc i pins s σ H E I hf st hg
    subst hP hw hK
    obtain ⟨q1, q2, ⟨x0, y0, q3⟩, q4, q5⟩ := st
    obtain ⟨xs, ys, sx, sy, l1, l2, l3⟩ := hg
    obtain ⟨us, rv, pl, _⟩ := I.list sx
    obtain ⟨ws, rw2, pt, _⟩ := I.tuple sy
    have pt : s.heap.IsTuple b ws.toArray := pt
    have k1 := rv.length
    have k2 := rw2.length
    have h0 : X.A.in1.handled = none := I.ok.hd hc
    exact wpAny_pyNext_zipD2_end S (Draws.list (A := X.A.in1) h0 i1 a na us.toArray) (Draws.tuple (A := X.A.in1) h0 i2 b nb ws.toArray) q1 q2 q3 ⟨q4, pl.isList⟩ ⟨q5, pt⟩ (by simp; omega) (by simp; omega) (by simp; omega) fun h2 tk hk => ⟨rfl, I.turnedL (t' := tk) (ch := [z, TI, TO, i1, i2]) (fun c o hb q =>
      hk c o (fun k => hb (by simp [k])) (fun k => hb (by simp [k])) (fun k => hb (by simp [k])) (fun k => hb (by simp [k])) q) hf⟩
  self := fun A i s Q E st h => wpAny_pyIter_zip st.1 h
def iZipM (K : PySem.W.Frag) (ta : TA) : TI := fun σ H R => ta σ H fun vs H1 => (∃ a b xs ys, vs = [.ref a, .ref b] ∧ ((SqL K H1 a xs ∧ SqL K H1 b ys ∧ R (Itz K a b) H1) ∨ (SqT K H1 a xs ∧ SqT K H1 b ys ∧ R (RZ.ItzT K a b) H1))) ∨ ∃ a b xs ys, vs = [.ref a, .ref b] ∧ SqL K H1 a xs ∧ SqT K H1 b ys ∧ R (ItzM K a b) H1
theorem pi_zipM {X : Cx} {e e2 : Expr} {ta : TA} {p pos tpos : Pos} {elts : List Expr} {kk : Nat} (hg : Gl X "zip") (hm : X.mg "zip" = none) (ha : PA X [e, e2] ta)
    (hs : starEach [e, e2] X.env = (false, eval e X.env) :: starEach [e2] X.env) (hpl : (backTo pos (starEach [e2] X.env)).any (·.1) = false) :
    PI X (.Tuple elts kk tpos) (.Call (.Name "zip" p) [e, e2] [] pos) (iZipM X.K ta) := by
  refine ⟨fun pins s σ H R I h => ?_⟩
  refine Call_ (ld_blt I hg hm PyProof.Rows.boot_zip (PyProof.Rows.callWith_type1 (thn (ha.run pos pins s σ H _ I h) fun us t ⟨vs, H1, I1, r1, q1⟩ => ?_) hs hpl))
  have fresh : ∀ c, c ∈ [t.heap.objs.size + 4, t.heap.objs.size + 2, t.heap.objs.size + 3, t.heap.objs.size, t.heap.objs.size + 1] → FpOk X pins H1 c := fun c hcm => by
    have five : c = t.heap.objs.size + 4 ∨ c = t.heap.objs.size + 2 ∨ c = t.heap.objs.size + 3 ∨ c = t.heap.objs.size ∨ c = t.heap.objs.size + 1 := by simpa using hcm
    have le1 : t.heap.objs.size ≤ c := by omega
    exact I1.fpOk le1 (I1.hok.fresh le1)
  rcases q1 with ⟨a, b, xs, ys, ex, q1⟩ | ⟨a, b, xs, ys, ex, hx, hy, q⟩
  · subst ex
    cases r1 with
    | cons r rr =>
    cases rr with
    | cons r' rr =>
    cases rr
    cases r
    cases r'
    rcases q1 with ⟨hx, hy, q⟩ | ⟨hx, hy, q⟩
    · obtain ⟨us, rv, p1, _⟩ := I1.list hx
      obtain ⟨ws, rw2, p2, _⟩ := I1.list hy
      refine call_zip_2 p1.isList p2.isList fun h2 z1 z2 z3 z4 z5 hsz hk => wpAny_pyIter_zip z1 ?_
      exact ⟨t.heap.objs.size + 4, [t.heap.objs.size + 4, t.heap.objs.size + 2, t.heap.objs.size + 3, t.heap.objs.size, t.heap.objs.size + 1], _, _, H1, rfl, I1.kept (t' := t.toks) hk, turn_zip (PySem.W.ktu_apart t.heap.objs.size a b p1.lt p2.lt), ⟨z1, z2, ⟨_, _, z3⟩, z4, z5⟩, fresh, q⟩
    · obtain ⟨us, rv, p1, _⟩ := I1.tuple hx
      obtain ⟨ws, rw2, p2, _⟩ := I1.tuple hy
      obtain ⟨o1, ho1, _⟩ := id p1
      obtain ⟨o2, ho2, _⟩ := id p2
      refine RZ.call_zipT (show t.heap.IsTuple a us.toArray from p1) (show t.heap.IsTuple b ws.toArray from p2) fun h2 z1 z2 z3 z4 z5 hsz hk => wpAny_pyIter_zip z1 ?_
      exact ⟨t.heap.objs.size + 4, [t.heap.objs.size + 4, t.heap.objs.size + 2, t.heap.objs.size + 3, t.heap.objs.size, t.heap.objs.size + 1], _, _, H1, rfl, I1.kept (t' := t.toks) hk, RZ.turn_zipT (PySem.W.ktu_apart t.heap.objs.size a b (Heap.lt_size ho1) (Heap.lt_size ho2)), ⟨z1, z2, ⟨_, _, z3⟩, z4, z5⟩, fresh, q⟩
  · subst ex
    cases r1 with
    | cons r rr =>
    cases rr with
    | cons r' rr =>
    cases rr
    cases r
    cases r'
    obtain ⟨us, rv, p1, _⟩ := I1.list hx
    obtain ⟨ws, rw2, p2, _⟩ := I1.tuple hy
    have p2 : t.heap.IsTuple b ws.toArray := p2
    have la : a < t.heap.objs.size := p1.lt
    have lb : b < t.heap.objs.size := by
      obtain ⟨o, ho, _⟩ := id p2
      exact Heap.lt_size ho
    refine zip_begins2 (begins_list a us.toArray) (begins_tuple b ws.toArray) p1.isList p2 fun h2 z1 z2 z3 z4 z5 hsz hk => wpAny_pyIter_zip z1 ?_
    refine ⟨t.heap.objs.size + 4, [t.heap.objs.size + 4, t.heap.objs.size + 2, t.heap.objs.size + 3, t.heap.objs.size, t.heap.objs.size + 1], _, _, H1, rfl, I1.kept (t' := t.toks) hk, turn_zipM (a := a) (b := b) (zip_sep2 (fp1 := [a]) (fp2 := [b]) (fun c hc => by rw [List.mem_singleton.mp hc]; exact la) fun c hc => by rw [List.mem_singleton.mp hc]; exact lb) (Nat.ne_of_lt la) (Nat.ne_of_lt (Nat.lt_succ_of_lt lb)), ⟨z1, z2, ⟨_, _, z3⟩, ⟨_, z4, rfl, rfl⟩, ⟨_, z5, rfl, rfl⟩⟩, fresh, q⟩
theorem walk_zipM {K : PySem.W.Frag} {a b : Addr} {xs ys : List V} {n : Nat} (hn : n = min xs.length ys.length) : L2.Walk (ItzM K a b) n (fun H => SqL K H a xs ∧ SqT K H b ys) (YPair (fun i => xs[i]?) (fun i => ys[i]?)) := by
  subst hn
  refine ⟨fun i _ hi q => ?_, fun _ q => ⟨xs, ys, q.1, q.2, by omega, by omega, by omega⟩, fun i H v H2 _ q y => ?_⟩
  · have h1 : i < xs.length := by omega
    have h2 : i < ys.length := by omega
    exact ⟨xs, ys, xs[i], ys[i], q.1, q.2, by simp [h1], by simp [h2]⟩
  · obtain ⟨T, x, z, h1, h2, h3, h4, h5⟩ := y
    exact ⟨T, x, z, h1, h2, h3, h4 xs q.1, h5 ys q.2⟩
end Z

set_option Elab.async false
set_option linter.all false
set_option maxRecDepth 100000
set_option maxHeartbeats 4000000
namespace Z
open PySem PySem.Spec PyProof.Rows L2
section
variable {G : Gx} {k : Nat} {Γ : List (Str × ZSp)}
/-- only the walk is to be shown -/
theorem Sd.ofI {z : Y} (hE : ∀ S e, (ck (Γ.map (·.1)) z S).E e = false) (hT : ∀ S e, (ck (Γ.map (·.1)) z S).T e = false) (hA : ∀ S e, (ck (Γ.map (·.1)) z S).A e = false) (hO : ∀ S e, (ck (Γ.map (·.1)) z S).O e = false)
    (h : ∀ X W0 S, Good X G W0 k S Γ → ∀ tg e, (ck (Γ.map (·.1)) z S).I tg e = true → PI X tg e (LfI G W0 (vc Γ z))) : Sd G k Γ z where
  E := fun X W0 S g e c => by rw [hE] at c; cases c
  T := fun X W0 S g e c => by rw [hT] at c; cases c
  W := fun X W0 S g op xs p c => by rw [hT] at c; cases c
  A := fun X W0 S g es c => by rw [hA] at c; cases c
  I := h
  O := fun X W0 S g e c => by rw [hO] at c; cases c
/-- data from here on -/
theorem later {B B2 : Addr → Prop} {α α2 : List Addr} {O O2 : List DO} {H H2 : Hp} (hm : ∀ b, Mu B2 α2 O2 b → Mu B α O b ∨ H b = none) (hk : ∀ b o, H b = some o → ¬ Ho α O b → (∀ ps, o ≠ .tbl ps) → H2 b = some o) :
    ∀ a o, ¬ Mu B α O a → H a = some o → (∀ ps, o ≠ .tbl ps) → H2 a = some o ∧ ¬ Mu B2 α2 O2 a := fun b o m e n =>
  ⟨hk b o e (fun z => m (.inr z.ow)) n, fun z => by
    rcases hm b z with z | z
    · exact m z
    · rw [e] at z; cases z⟩
/-- a walk over a list or a tuple -/
def iSeq (K : PySem.W.Frag) (tl : TE) : TI := fun σ H R => tl σ H fun x H1 => ∃ a, x = .ref a ∧ (((∃ xs, SqL K H1 a xs) ∧ R (Itl K a) H1) ∨ ((∃ xs, SqT K H1 a xs) ∧ R (Itt K a) H1))
theorem pi_seq {X : Cx} {tg l : Expr} {tl : TE} (hl : PE X l tl) : PI X tg l (iSeq X.K tl) := by
  refine ⟨fun pins s σ H R I h => ?_⟩
  refine thn (hl.run pins s σ H _ I h) fun v s1 ⟨x, H1, I1, r1, q1⟩ => ?_
  obtain ⟨a, rfl, q⟩ := q1
  cases r1
  rcases q with ⟨⟨xs, hq⟩, q⟩ | ⟨⟨xs, hq⟩, q⟩
  · obtain ⟨its, rv, p, hz⟩ := I1.list hq
    refine wpAny_pyIter_list p.isList ?_
    refine ⟨s1.heap.objs.size, [s1.heap.objs.size], _, _, H1, rfl, I1.kept (t' := s1.toks) fun b o e => Heap.get?_push_of_some _ e, turn_list a _, ⟨_, Heap.get?_push_size _ rfl, rfl, rfl⟩, fun b hb => ?_, q⟩
    cases (show b = s1.heap.objs.size by simpa using hb)
    exact I1.fpOk (Nat.le_refl _) (I1.hok.fresh (Nat.le_refl _))
  · obtain ⟨its, rv, p, hz⟩ := I1.tuple hq
    refine wpAny_pyIter_tuple (show s1.heap.IsTuple a its.toArray from p) ?_
    refine ⟨s1.heap.objs.size, [s1.heap.objs.size], _, _, H1, rfl, I1.kept (t' := s1.toks) fun b o e => Heap.get?_push_of_some _ e, turn_tuple a _, ⟨_, Heap.get?_push_size _ rfl, rfl, rfl⟩, fun b hb => ?_, q⟩
    cases (show b = s1.heap.objs.size by simpa using hb)
    exact I1.fpOk (Nat.le_refl _) (I1.hok.fresh (Nat.le_refl _))
theorem walkD_of {B : Addr → Prop} {α : List Addr} {O : List DO} {H : Hp} {J : It} {vs : List V} {ds : List D} {Gd : Hp → Prop} (wk : L2.Walk J ds.length Gd (YAt vs)) (r : Ats G.K (Mu B α O) H vs ds)
    (hg : ∀ (B2 : Addr → Prop) (α2 : List Addr) (O2 : List DO) (H2 : Hp), (∀ b, Mu B2 α2 O2 b → Mu B α O b ∨ H b = none) → (∀ b o, H b = some o → ¬ Ho α O b → (∀ ps, o ≠ .tbl ps) → H2 b = some o) → Gd H2) : WalkD G B α O H J ds :=
  ⟨_, _, wk, fun B2 α2 O2 H2 hm hk w => ⟨hg B2 α2 O2 H2 hm hk, fun i x H3 hi y => by
    obtain ⟨rfl, e⟩ := y
    obtain ⟨d, e2, a⟩ := r.get e
    exact ⟨d, e2, .inl rfl, a.imp (later hm hk)⟩⟩⟩
theorem unmap {ds ds' : List D} (h : ds.map U.d = ds'.map U.d) : ds = ds' := (List.map_inj_right (fun _ _ h => by cases h; rfl)).mp h
/-- ready to be walked -/
def Rdy (G : Gx) (B : Addr → Prop) (α : List Addr) (O : List DO) (H : Hp) (v : V) (x : D) : Prop :=
  (∃ ds a vs, x = .lst ds ∧ v = .ref a ∧ H a = some (.lst vs) ∧ ¬ Ho α O a ∧ Ats G.K (Mu B α O) H vs ds) ∨ At G.K (Mu B α O) H v x
theorem Rdy.lst {B : Addr → Prop} {α : List Addr} {O : List DO} {H : Hp} {v : V} {ds : List D} (h : Rdy G B α O H v (.lst ds)) : ∃ a vs, v = .ref a ∧ H a = some (.lst vs) ∧ ¬ Ho α O a ∧ Ats G.K (Mu B α O) H vs ds := by
  rcases h with ⟨ds', a, vs, h1, h2, h3, h4, h5⟩ | h
  · cases h1
    exact ⟨a, vs, h2, h3, h4, h5⟩
  · cases h with
    | lst e m r => exact ⟨_, _, rfl, e, fun z => m (.inr z.ow), r⟩
theorem Rdy.tup {B : Addr → Prop} {α : List Addr} {O : List DO} {H : Hp} {v : V} {ds : List D} (h : Rdy G B α O H v (.tup ds)) : ∃ a vs, v = .ref a ∧ H a = some (.tup vs) ∧ ¬ Ho α O a ∧ Ats G.K (Mu B α O) H vs ds := by
  rcases h with ⟨ds', a, vs, h1, _⟩ | h
  · cases h1
  · cases h with
    | tup e m r => exact ⟨_, _, rfl, e, fun z => m (.inr z.ow), r⟩
theorem Rdy.stp {B : Addr → Prop} {α α' : List Addr} {O O' : List DO} {H H' : Hp} {v : V} {x : D} (h : Rdy G B α O H v x) (s : Stp α O H α' O' H') : Rdy G B α' O' H' v x := by
  rcases h with ⟨ds, a, vs, h1, h2, h3, h4, h5⟩ | h
  · refine .inl ⟨ds, a, vs, h1, h2, s.keep a _ h3 h4 (fun _ z => by cases z), fun z => ?_, s.ats h5⟩
    rcases s.hnew a z with z | z
    · exact h4 z
    · rw [h3] at z; cases z
  · exact .inr (s.at_ h)
theorem brK_of {B : Addr → Prop} {α : List Addr} {O : List DO} {H : Hp} {u : U} {v : V} {kk : D → List DO → Prop} (w : Own G B α O H) (a : AtU G.K B α O H v u) (h : brK O u kk) : ∃ x O2, kk x O2 ∧ Stp α O H α O2 H ∧ Own G B α O2 H ∧ Rdy G B α O2 H v x := by
  have dat : (match toD O u with
    | some x => kk x O
    | none => False) → ∃ x O2, kk x O2 ∧ Stp α O H α O2 H ∧ Own G B α O2 H ∧ Rdy G B α O2 H v x := fun h => by
    cases q : toD O u with
    | none => rw [q] at h; exact h.elim
    | some x =>
      rw [q] at h
      exact ⟨x, O, h, Stp.refl, w, .inr (At.of w a q)⟩
  cases u with
  | d x => exact dat h
  | t x => exact dat h
  | o j =>
    simp only [brK, go_eq] at h
    cases a with
    | @o _ p ep =>
    cases q : O[j]? with
    | none => simp only [q] at h
    | some o =>
      have hat := w.at_ j p o ep q
      cases o with
      | lst ds =>
        simp only [q] at h
        rw [so_eq] at h
        obtain ⟨vs, e, r⟩ := hat
        have hlt := (List.getElem?_eq_some_iff.mp q).1
        have s : Stp α O H α (O.set j (.brw ds)) H := ⟨⟨[], by simp⟩, fun b u e _ _ => e, fun b e => e, fun b m => .inl (ow_set' q rfl m), fun b m => .inl (ho_set' q (fun z => by cases z) m), fun b m => .inl m⟩
        refine ⟨_, _, h, s, ?_, .inl ⟨ds, p, vs, rfl, rfl, e, fun ⟨i, o, e1, e2, l⟩ => ?_, s.ats r⟩⟩
        · refine ⟨by rw [List.length_set]; exact w.len, w.nd, fun i b o e1 e2 => ?_, w.bt, fun b m => w.nb b (ow_set' q rfl m), w.tabs⟩
          by_cases hi : i = j
          · subst hi
            rw [List.getElem?_set_self hlt] at e2
            cases e2
            rw [ep] at e1
            cases e1
            exact ⟨vs, e, s.ats r⟩
          · rw [List.getElem?_set_ne (Ne.symm hi)] at e2
            exact (w.at_ i b o e1 e2).stp s fun _ => rfl
        · have := nodup_at w.nd e1 ep
          subst this
          rw [List.getElem?_set_self hlt] at e2
          cases e2
          cases l
      | brw ds =>
        simp only [q] at h
        obtain ⟨vs, e, r⟩ := hat
        refine ⟨_, _, h, Stp.refl, w, .inl ⟨ds, p, vs, rfl, rfl, e, fun ⟨i, o, e1, e2, l⟩ => ?_, r⟩⟩
        have := nodup_at w.nd e1 ep
        subst this
        rw [q] at e2
        cases e2
        cases l
      | frz ds =>
        simp only [q] at h
        exact ⟨_, _, h, Stp.refl, w, .inr hat⟩
theorem sd_seq {z : Y} (dz : Sd G k Γ z) : Sd G k Γ (.seq z) := .ofI (fun _ _ => rfl) (fun _ _ => rfl) (fun _ _ => rfl) (fun _ _ => rfl) fun X W0 S g tg e c => by
  refine pi_imp (pi_seq (dz.E X W0 S g e c)) fun σ H Q ⟨B, α, ρ, O, Q0, E0, R, h, hq, hl⟩ => ?_
  refine seqE R h hl fun u O1 f α1 v H1 s1 w1 a1 => ?_
  obtain ⟨x, O2, f, s2, w2, ax⟩ := brK_of w1 a1 f
  cases x with
  | lst ds =>
    obtain ⟨a, vs, rfl, e, m, r⟩ := ax.lst
    obtain ⟨ds', e2, f⟩ := hq _ _ f
    cases unmap e2
    refine ⟨a, rfl, .inl ⟨⟨vs, SqL.of e⟩, f α1 H1 _ (s1.trans s2) w2 ?_⟩⟩
    rw [g.hK]
    exact walkD_of (by rw [← r.length]; exact walk_list (xs := vs)) r fun B2 α2 O2 H2 hm hk => SqL.of (hk _ _ e m (fun _ z => by cases z))
  | tup ds =>
    obtain ⟨a, vs, rfl, e, m, r⟩ := ax.tup
    obtain ⟨ds', e2, f⟩ := hq _ _ f
    cases unmap e2
    refine ⟨a, rfl, .inr ⟨⟨vs, SqT.of e⟩, f α1 H1 _ (s1.trans s2) w2 ?_⟩⟩
    rw [g.hK]
    exact walkD_of (by rw [← r.length]; exact walk_tup (xs := vs)) r fun B2 α2 O2 H2 hm hk => SqT.of (hk _ _ e m (fun _ z => by cases z))
  | _ => exact f.elim
theorem walkD_fn {B : Addr → Prop} {α : List Addr} {O : List DO} {H : Hp} {lo : Int} {n : Nat} : WalkD G B α O H (Itr lo n) ((List.range n).map fun (i : Nat) => D.int (lo + (i : Int))) :=
  ⟨_, _, by rw [List.length_map, List.length_range]; exact walk_range, fun B2 α2 O2 H2 hm hk w => ⟨trivial, fun i x H3 hi y => by
    obtain ⟨rfl, rfl⟩ := y
    rw [List.length_map, List.length_range] at hi
    exact ⟨.int (lo + i), by simp [hi], .inl rfl, .int _⟩⟩⟩
theorem sd_rng {a : Y} (da : Sd G k Γ a) : Sd G k Γ (.rng a) := .ofI (fun _ _ => rfl) (fun _ _ => rfl) (fun _ _ => rfl) (fun _ _ => rfl) fun X W0 S g tg e c => by
  have c' : rngC S.sc (ck (Γ.map (·.1)) a S).E e = true := c
  unfold rngC at c'
  split at c'
  · obtain ⟨c, c4⟩ := ba c'
    obtain ⟨c, c3⟩ := ba c
    obtain ⟨c1, c2⟩ := ba c
    cases of_decide_eq_true c1
    refine pi_imp (pi_range1 (glo_of g c2) (g.free "range" (by decide)) (pa_one (da.E X W0 S g _ c4) c3) (starEach_plain c3)) fun σ H Q ⟨B, α, ρ, O, Q0, E0, R, h, hq, hl⟩ => ?_
    refine seqE R h hl fun u O1 f α1 v H1 s1 w1 a1 => ?_
    obtain ⟨x, e1, f⟩ := nrK_of f
    have ax := Vw.of w1 a1 e1
    cases x with
    | int j =>
      obtain rfl := ax.int
      obtain ⟨ds, e2, f2⟩ := hq _ _ f.2
      refine ⟨j, rfl, f.1.1, f.1.2, f2 α1 H1 _ s1 w1 ?_⟩
      rw [← unmap e2]
      exact walkD_fn
    | _ => exact f.elim
  · cases c'
theorem sd_rng2 {a b : Y} (da : Sd G k Γ a) (db : Sd G k Γ b) : Sd G k Γ (.rng2 a b) := .ofI (fun _ _ => rfl) (fun _ _ => rfl) (fun _ _ => rfl) (fun _ _ => rfl) fun X W0 S g tg e c => by
  have c' : rng2C S.sc (ck (Γ.map (·.1)) a S).E (ck (Γ.map (·.1)) b S).E e = true := c
  unfold rng2C at c'
  split at c'
  · obtain ⟨c, c6⟩ := ba c'
    obtain ⟨c, c5⟩ := ba c
    obtain ⟨c, c4⟩ := ba c
    obtain ⟨c, c3⟩ := ba c
    obtain ⟨c1, c2⟩ := ba c
    cases of_decide_eq_true c1
    refine pi_imp (pi_range2 (glo_of g c2) (g.free "range" (by decide)) (pa_two (da.E X W0 S g _ c5) (db.E X W0 S g _ c6) c3 c4) (by rw [starEach_plain c3, starEach_plain c4]; rfl) (by rw [starEach_plain c4]; rfl)) fun σ H Q ⟨B, α, ρ, O, Q0, E0, R, h, hq, hl⟩ => ?_
    refine seq2 R h hl fun u w O2 f α2 v v2 H2 s2 w2 a1 a2 => ?_
    obtain ⟨x, e1, f⟩ := nrK_of f
    obtain ⟨y, e2, f⟩ := nrK_of f
    have ax := Vw.of w2 a1 e1
    have ay := Vw.of w2 a2 e2
    split at f
    · obtain rfl := ax.int
      obtain rfl := ay.int
      obtain ⟨ds, e2, f2⟩ := hq _ _ f.2
      refine ⟨_, _, rfl, f.1, f2 α2 H2 _ s2 w2 ?_⟩
      rw [← unmap e2]
      exact walkD_fn
    · exact f.elim
  · cases c'
theorem isTup_of {e : Expr} (h : isTup e = true) : ∃ es kk p, e = .Tuple es kk p := by
  cases e <;> first | exact ⟨_, _, _, rfl⟩ | cases h
theorem walkD_pair {B : Addr → Prop} {α : List Addr} {O : List DO} {H : Hp} {J : It} {ds : List D} {Gd : Hp → Prop} {xs ys : Nat → Option V} (wk : L2.Walk J ds.length Gd (YPair xs ys))
    (hg : ∀ (B2 : Addr → Prop) (α2 : List Addr) (O2 : List DO) (H2 : Hp), (∀ b, Mu B2 α2 O2 b → Mu B α O b ∨ H b = none) → (∀ b o, H b = some o → ¬ Ho α O b → (∀ ps, o ≠ .tbl ps) → H2 b = some o) → Gd H2)
    (hd : ∀ i x y, i < ds.length → xs i = some x → ys i = some y → ∃ d e, ds[i]? = some (.tup [d, e]) ∧ At G.K (Mu B α O) H x d ∧ At G.K (Mu B α O) H y e) : WalkD G B α O H J ds :=
  ⟨_, _, wk, fun B2 α2 O2 H2 hm hk w => ⟨hg B2 α2 O2 H2 hm hk, fun i x H3 hi y => by
    obtain ⟨T, x, y, rfl, hT, rfl, e1, e2⟩ := y
    obtain ⟨d, e, e3, a1, a2⟩ := hd i x y hi e1 e2
    exact ⟨_, e3, .inr ⟨T, _, hT, rfl⟩, At.tupNew w hT (.cons (a1.imp (later hm hk)) (.cons (a2.imp (later hm hk)) .nil))⟩⟩⟩
theorem sd_enm {z : Y} (dz : Sd G k Γ z) : Sd G k Γ (.enm z) := .ofI (fun _ _ => rfl) (fun _ _ => rfl) (fun _ _ => rfl) (fun _ _ => rfl) fun X W0 S g tg e c => by
  have c' : enmC S.sc (ck (Γ.map (·.1)) z S).E tg e = true := c
  unfold enmC at c'
  split at c'
  · obtain ⟨c, c5⟩ := ba c'
    obtain ⟨c, c4⟩ := ba c
    obtain ⟨c, c3⟩ := ba c
    obtain ⟨c1, c2⟩ := ba c
    cases of_decide_eq_true c2
    obtain ⟨es, kk, tp, rfl⟩ := isTup_of c1
    refine pi_imp (pi_enumA (glo_of g c3) (g.free "enumerate" (by decide)) (pa_one (dz.E X W0 S g _ c5) c4) (starEach_plain c4)) fun σ H Q ⟨B, α, ρ, O, Q0, E0, R, h, hq, hl⟩ => ?_
    refine seqE R h hl fun u O1 f α1 v H1 s1 w1 a1 => ?_
    obtain ⟨x, O2, f, s2, w2, ax⟩ := brK_of w1 a1 f
    cases x with
    | lst ds =>
      obtain ⟨a, vs, rfl, e, m, r⟩ := ax.lst
      obtain ⟨ds', e2, f⟩ := hq _ _ f
      refine ⟨a, vs, rfl, .inl ⟨SqL.of e, f α1 H1 _ (s1.trans s2) w2 ?_⟩⟩
      rw [← unmap e2, g.hK]
      refine walkD_pair (by rw [List.length_mapIdx, ← r.length]; exact walk_enum (xs := vs)) (fun B2 α2 O2 H2 hm hk => SqL.of (hk _ _ e m (fun _ z => by cases z))) fun i x y hi h1 h2 => ?_
      obtain ⟨d, e3, a3⟩ := r.get h2
      cases h1
      exact ⟨_, d, by rw [List.getElem?_mapIdx, e3]; rfl, .int _, a3⟩
    | tup ds =>
      obtain ⟨a, vs, rfl, e, m, r⟩ := ax.tup
      obtain ⟨ds', e2, f⟩ := hq _ _ f
      refine ⟨a, vs, rfl, .inr ⟨SqT.of e, f α1 H1 _ (s1.trans s2) w2 ?_⟩⟩
      rw [← unmap e2, g.hK]
      refine walkD_pair (by rw [List.length_mapIdx, ← r.length]; exact walk_enumT (xs := vs)) (fun B2 α2 O2 H2 hm hk => SqT.of (hk _ _ e m (fun _ z => by cases z))) fun i x y hi h1 h2 => ?_
      obtain ⟨d, e3, a3⟩ := r.get h2
      cases h1
      exact ⟨_, d, by rw [List.getElem?_mapIdx, e3]; rfl, .int _, a3⟩
    | _ => exact f.elim
  · cases c'
theorem sd_zip {a b : Y} (da : Sd G k Γ a) (db : Sd G k Γ b) : Sd G k Γ (.zip a b) := .ofI (fun _ _ => rfl) (fun _ _ => rfl) (fun _ _ => rfl) (fun _ _ => rfl) fun X W0 S g tg e c => by
  have c' : zipC S.sc (ck (Γ.map (·.1)) a S).E (ck (Γ.map (·.1)) b S).E tg e = true := c
  unfold zipC at c'
  split at c'
  · obtain ⟨c, c7⟩ := ba c'
    obtain ⟨c, c6⟩ := ba c
    obtain ⟨c, c5⟩ := ba c
    obtain ⟨c, c4⟩ := ba c
    obtain ⟨c, c3⟩ := ba c
    obtain ⟨c1, c2⟩ := ba c
    cases of_decide_eq_true c2
    obtain ⟨es, kk, tp, rfl⟩ := isTup_of c1
    refine pi_imp (pi_zipM (glo_of g c3) (g.free "zip" (by decide)) (pa_two (da.E X W0 S g _ c6) (db.E X W0 S g _ c7) c4 c5) (starEach_plain c4) (any_plain (by rw [List.all_cons, c5]; rfl))) fun σ H Q ⟨B, α, ρ, O, Q0, E0, R, h, hq, hl⟩ => ?_
    refine seq2 R h hl fun u w O2 f α2 v v2 H2 s2 w2 a1 a2 => ?_
    obtain ⟨x, O3, f, s3, w3, ax⟩ := brK_of w2 a1 f
    obtain ⟨y, O4, f, s4, w4, ay⟩ := brK_of w3 (s3.atU a2) f
    have ax := ax.stp s4
    have s24 := (s2.trans s3).trans s4
    have get : ∀ {vs ws : List V} {ds es : List D}, Ats G.K (Mu B α2 O4) H2 vs ds → Ats G.K (Mu B α2 O4) H2 ws es → ∀ (i : Nat) (x y : V), vs[i]? = some x → ws[i]? = some y → ∃ d e, (List.zipWith (fun d e => D.tup [d, e]) ds es)[i]? = some (D.tup [d, e]) ∧ At G.K (Mu B α2 O4) H2 x d ∧ At G.K (Mu B α2 O4) H2 y e := by
      intro vs ws ds es r1 r2 i x y h1 h2
      obtain ⟨d, e3, a3⟩ := r1.get h1
      obtain ⟨e, e4, a4⟩ := r2.get h2
      exact ⟨d, e, by rw [List.getElem?_zipWith, e3, e4], a3, a4⟩
    split at f
    · obtain ⟨a, vs, rfl, e, m, r⟩ := ax.lst
      obtain ⟨b, ws, rfl, e', m', r'⟩ := ay.lst
      obtain ⟨ds', e2, f⟩ := hq _ _ f
      refine .inl ⟨a, b, vs, ws, rfl, .inl ⟨SqL.of e, SqL.of e', f α2 H2 _ s24 w4 ?_⟩⟩
      rw [← unmap e2, g.hK]
      refine walkD_pair (walk_zip (xs := vs) (ys := ws) (by rw [List.length_zipWith, r.length, r'.length])) (fun B2 α2 O2 H2 hm hk => ⟨SqL.of (hk _ _ e m (fun _ z => by cases z)), SqL.of (hk _ _ e' m' (fun _ z => by cases z))⟩) fun i x y hi h1 h2 => get r r' i x y h1 h2
    · obtain ⟨a, vs, rfl, e, m, r⟩ := ax.tup
      obtain ⟨b, ws, rfl, e', m', r'⟩ := ay.tup
      obtain ⟨ds', e2, f⟩ := hq _ _ f
      refine .inl ⟨a, b, vs, ws, rfl, .inr ⟨SqT.of e, SqT.of e', f α2 H2 _ s24 w4 ?_⟩⟩
      rw [← unmap e2, g.hK]
      refine walkD_pair (Gd := fun H => SqT G.K H a vs ∧ SqT G.K H b ws) (xs := fun i => vs[i]?) (ys := fun i => ws[i]?) ?_ (fun B2 α2 O2 H2 hm hk => ⟨SqT.of (hk _ _ e m (fun _ z => by cases z)), SqT.of (hk _ _ e' m' (fun _ z => by cases z))⟩) fun i x y hi h1 h2 => get r r' i x y h1 h2
      rw [List.length_zipWith, ← r.length, ← r'.length]
      refine ⟨fun i _ hi q => ?_, fun _ q => ⟨vs, ws, q.1, q.2, by omega⟩, fun i H v H' _ q y => ?_⟩
      · have h1 : i < vs.length := by omega
        have h2 : i < ws.length := by omega
        exact ⟨vs, ws, vs[i], ws[i], q.1, q.2, by simp [h1], by simp [h2]⟩
      · obtain ⟨T, x, z, h1, h2, h3, h4, h5⟩ := y
        exact ⟨T, x, z, h1, h2, h3, h4 vs q.1, h5 ws q.2⟩
    · obtain ⟨a, vs, rfl, e, m, r⟩ := ax.lst
      obtain ⟨b, ws, rfl, e', m', r'⟩ := ay.tup
      obtain ⟨ds', e2, f⟩ := hq _ _ f
      refine .inr ⟨a, b, vs, ws, rfl, SqL.of e, SqT.of e', f α2 H2 _ s24 w4 ?_⟩
      rw [← unmap e2, g.hK]
      refine walkD_pair (walk_zipM (xs := vs) (ys := ws) (by rw [List.length_zipWith, r.length, r'.length])) (fun B2 α2 O2 H2 hm hk => ⟨SqL.of (hk _ _ e m (fun _ z => by cases z)), SqT.of (hk _ _ e' m' (fun _ z => by cases z))⟩) fun i x y hi h1 h2 => get r r' i x y h1 h2
    · exact f.elim
  · cases c'
theorem sd_rev {z : Y} (dz : Sd G k Γ z) : Sd G k Γ (.rev z) := .ofI (fun _ _ => rfl) (fun _ _ => rfl) (fun _ _ => rfl) (fun _ _ => rfl) fun X W0 S g tg e c => by
  have c' : revC S.sc (ck (Γ.map (·.1)) z S).E e = true := c
  unfold revC at c'
  split at c'
  · obtain ⟨c, c4⟩ := ba c'
    obtain ⟨c, c3⟩ := ba c
    obtain ⟨c1, c2⟩ := ba c
    cases of_decide_eq_true c1
    refine pi_imp (pi_reversed (glo_of g c2) (g.free "reversed" (by decide)) (pa_one (dz.E X W0 S g _ c4) c3) (starEach_plain c3)) fun σ H Q ⟨B, α, ρ, O, Q0, E0, R, h, hq, hl⟩ => ?_
    refine seqE R h hl fun u O1 f α1 v H1 s1 w1 a1 => ?_
    obtain ⟨x, O2, f, s2, w2, ax⟩ := brK_of w1 a1 f
    cases x with
    | lst ds =>
      obtain ⟨a, vs, rfl, e, m, r⟩ := ax.lst
      obtain ⟨ds', e2, f⟩ := hq _ _ f
      refine ⟨a, vs, rfl, SqL.of e, f α1 H1 _ (s1.trans s2) w2 ?_⟩
      rw [← unmap e2, g.hK]
      refine ⟨_, _, by rw [List.length_reverse, ← r.length]; exact walk_rev, fun B2 α2 O2 H2 hm hk w => ⟨SqL.of (hk _ _ e m (fun _ z => by cases z)), fun i x H3 hi y => ?_⟩⟩
      obtain ⟨rfl, e3⟩ := y
      rw [List.length_reverse] at hi
      obtain ⟨d, e4, a4⟩ := r.get e3
      refine ⟨d, ?_, .inl rfl, a4.imp (later hm hk)⟩
      rw [List.getElem?_reverse hi, ← r.length]
      exact e4
    | _ => exact f.elim
  · cases c'
end
end Z

set_option Elab.async false
set_option linter.all false
set_option maxRecDepth 100000
set_option maxHeartbeats 4000000
namespace Z
open PySem PySem.Spec PyProof.Rows L2
/-! ### targets -/
def LfG (G : Gx) (tg : T1) : TG := fun v σ H Q => ∃ B α O ρ d Q0, Rep G B α σ H ρ O ∧ At G.K (Mu B α O) H v d ∧ bindT tg d ρ Q0 ∧
  ∀ ρ', Q0 ρ' → ∀ σ', Rep G B α σ' H ρ' O → (∀ i, i ∉ slots tg → σ'[i]? = σ[i]?) → σ'.length = σ.length → Q σ' H
def LfGs (G : Gx) (tg : T1) : TGs := fun vs σ H Q => ∃ B α O ρ ds Q0, Rep G B α σ H ρ O ∧ Ats G.K (Mu B α O) H vs ds ∧ bindTs tg ds ρ Q0 ∧
  ∀ ρ', Q0 ρ' → ∀ σ', Rep G B α σ' H ρ' O → (∀ i, i ∉ slots tg → σ'[i]? = σ[i]?) → σ'.length = σ.length → Q σ' H
theorem pg_imp {X : Cx} {e : Expr} {t t' : TG} (h : PG X e t) (i : ∀ v σ H Q, t' v σ H Q → t v σ H Q) : PG X e t' := ⟨fun pins s σ H v u Q I r q => h.run pins s σ H v u Q I r (i v σ H Q q)⟩
theorem pgs_imp {X : Cx} {e : List Expr} {t t' : TGs} (h : PGs X e t) (i : ∀ v σ H Q, t' v σ H Q → t v σ H Q) : PGs X e t' := ⟨fun pins s σ H v u Q I r q => h.run pins s σ H v u Q I r (i v σ H Q q)⟩
theorem pts_imp {X : Cx} {e : List Expr} {t t' : TT} (h : PTs X e t) (i : ∀ σ H Q, t' σ H Q → t σ H Q) : PTs X e t' := ⟨fun pins s σ H Q I q => h.run pins s σ H Q I (i σ H Q q)⟩
section
variable {G : Gx} {k : Nat} {Γ : List (Str × ZSp)}
theorem st_len : ∀ (ρ : List (Option U)) (i : Nat) (u : U), (st ρ i u).length = ρ.length
  | [], _, _ => rfl
  | _ :: _, 0, _ => rfl
  | _ :: r, i + 1, u => congrArg (· + 1) (st_len r i u)
theorem gt_lt : ∀ (ρ : List (Option U)) (i : Nat) (u : U), gt ρ i = some u → i < ρ.length
  | [], _, _, h => by cases h
  | _ :: _, 0, _, _ => Nat.succ_pos _
  | _ :: r, i + 1, u, h => Nat.succ_lt_succ (gt_lt r i u h)
theorem Rep.st {B : Addr → Prop} {α : List Addr} {σ : L2.St} {H : Hp} {ρ : List (Option U)} {O : List DO} (R : Rep G B α σ H ρ O) (i : Nat) {v : V} {u : U} (a : AtU G.K B α O H v u) : Rep G B α (σ.set i (some v)) H (st ρ i u) O := by
  refine ⟨fun j w e => ?_, R.own, by rw [st_len, List.length_set]; exact R.len⟩
  have hj := gt_lt _ _ _ e
  rw [st_len] at hj
  rcases gt_st ρ i j u w e with ⟨rfl, rfl⟩ | ⟨hne, e⟩
  · exact ⟨v, by rw [List.getElem?_set_self (Nat.lt_of_lt_of_le hj R.len)], a⟩
  · obtain ⟨v', e1, a1⟩ := R.vars j w e
    exact ⟨v', by rw [List.getElem?_set_ne (Ne.symm hne)]; exact e1, a1⟩
theorem assignEach_plain {e : Expr} {es : List Expr} {env : Env} (h : noStar e = true) : assignEach (e :: es) env = (false, assign e env) :: assignEach es env := by
  cases e <;> first | rfl | cases h
theorem ckGs_star {S : Sx} {env : Env} : ∀ {r : T1} {es : List Expr}, ckGs S r es = true → (assignEach es env).length = es.length ∧ (assignEach es env).findIdx? (·.1) = none
  | _, [], _ => ⟨rfl, rfl⟩
  | .cons a r, e :: es, h => by
    rw [ckGs] at h
    obtain ⟨h, h3⟩ := ba h
    obtain ⟨h1, h2⟩ := ba h
    obtain ⟨i1, i2⟩ := ckGs_star (env := env) h3
    rw [assignEach_plain h1]
    refine ⟨by rw [List.length_cons, List.length_cons, i1], ?_⟩
    rw [List.findIdx?_cons]
    show (if false = true then some 0 else _) = none
    rw [if_neg (by decide), i2]
    rfl
  | .nm _, e :: es, h => by rw [ckGs] at h; cases h; all_goals (intros; contradiction)
  | .tp _, e :: es, h => by rw [ckGs] at h; cases h; all_goals (intros; contradiction)
  | .nil, e :: es, h => by rw [ckGs] at h; cases h; all_goals (intros; contradiction)
def tlen : T1 → Nat
  | .cons _ r => tlen r + 1
  | _ => 0
mutual
theorem bindT_ex : ∀ {t : T1} {d : D} {ρ : List (Option U)} {k : List (Option U) → Prop}, bindT t d ρ k → ∃ ρ', k ρ'
  | .nm i, d, ρ, k, h => ⟨_, h⟩
  | .tp r, d, ρ, k, h => by
    cases d <;> first | exact bindTs_ex (t := r) h | exact False.elim h
  | .nil, d, ρ, k, h => h.elim
  | .cons _ _, d, ρ, k, h => h.elim
theorem bindTs_ex : ∀ {t : T1} {ds : List D} {ρ : List (Option U)} {k : List (Option U) → Prop}, bindTs t ds ρ k → ∃ ρ', k ρ'
  | .nil, [], ρ, k, h => ⟨_, h⟩
  | .nil, _ :: _, ρ, k, h => h.elim
  | .cons a r, d :: ds, ρ, k, h => by
    obtain ⟨ρ1, h⟩ := bindT_ex (t := a) (d := d) h
    exact bindTs_ex h
  | .cons a r, [], ρ, k, h => h.elim
  | .nm _, ds, ρ, k, h => h.elim
  | .tp _, ds, ρ, k, h => h.elim
end
theorem bindTs_len : ∀ {t : T1} {ds : List D} {ρ : List (Option U)} {k : List (Option U) → Prop}, bindTs t ds ρ k → ds.length = tlen t
  | .nil, [], ρ, k, h => rfl
  | .nil, _ :: _, ρ, k, h => h.elim
  | .cons a r, d :: ds, ρ, k, h => by
    obtain ⟨ρ1, h⟩ := bindT_ex (t := a) (d := d) h
    exact congrArg (· + 1) (bindTs_len h)
  | .cons a r, [], ρ, k, h => h.elim
  | .nm _, ds, ρ, k, h => h.elim
  | .tp _, ds, ρ, k, h => h.elim
theorem ckGs_len {S : Sx} : ∀ {r : T1} {es : List Expr}, ckGs S r es = true → es.length = tlen r
  | .nil, [], _ => rfl
  | .cons a r, [], h => by rw [ckGs] at h; cases h; all_goals (intros; contradiction)
  | .nm _, [], h => by rw [ckGs] at h; cases h; all_goals (intros; contradiction)
  | .tp _, [], h => by rw [ckGs] at h; cases h; all_goals (intros; contradiction)
  | .cons a r, e :: es, h => by
    rw [ckGs] at h
    obtain ⟨h, h3⟩ := ba h
    rw [List.length_cons, ckGs_len h3]
    rfl
  | .nm _, e :: es, h => by rw [ckGs] at h; cases h; all_goals (intros; contradiction)
  | .tp _, e :: es, h => by rw [ckGs] at h; cases h; all_goals (intros; contradiction)
  | .nil, e :: es, h => by rw [ckGs] at h; cases h; all_goals (intros; contradiction)
mutual
theorem sd_tg {X : Cx} {W0 : XK} {S : Sx} (g : Good X G W0 k S Γ) : ∀ {t : T1} {e : Expr}, ckG S t e = true → PG X e (LfG G t)
  | .nm i, e, h => by
    rw [ckG.eq_def] at h
    split at h
    · rename_i j x p h0
      cases h0
      obtain ⟨h1, h2⟩ := ba h
      obtain ⟨l, hf⟩ := g.sto x h2
      refine pg_imp (pg_name g.nd (by rw [g.hN]; exact of_decide_eq_true h1) l hf) fun v σ H Q ⟨B, α, O, ρ, d, Q0, R, a, h, hq⟩ => ?_
      refine hq _ h _ (R.st i (.d a)) (fun j hj => ?_) List.length_set
      rw [List.getElem?_set_ne (fun z => hj (by rw [← z]; simp [slots]))]
    · rename_i h0; cases h0
    · cases h
  | .tp r, e, h => by
    rw [ckG.eq_def] at h
    split at h
    · rename_i h0; cases h0
    · rename_i r' es p1 p2 h0
      cases h0
      obtain ⟨i1, i2⟩ := ckGs_star (env := X.env) h
      refine pg_imp (pg_tup g.calm (sd_tgs g h) i1 i2) fun v σ H Q ⟨B, α, O, ρ, d, Q0, R, a, hb, hq⟩ => ?_
      cases d with
      | tup ds =>
        cases a with
        | @tup p vs ds e m r' =>
        have hb' : bindTs r ds ρ Q0 := hb
        refine ⟨p, vs, rfl, by rw [g.hK]; exact SqT.of e, by rw [r'.length, ckGs_len h, bindTs_len hb'], B, α, O, ρ, ds, Q0, R, r', hb', fun ρ' q σ' R' hs hl => hq ρ' q σ' R' (fun i hi => hs i (by simpa [slots] using hi)) hl⟩
      | _ => exact False.elim hb
    · cases h
  | .nil, e, h => by rw [ckG] at h; cases h; all_goals (intros; contradiction)
  | .cons _ _, e, h => by rw [ckG] at h; cases h; all_goals (intros; contradiction)
theorem sd_tgs {X : Cx} {W0 : XK} {S : Sx} (g : Good X G W0 k S Γ) : ∀ {t : T1} {es : List Expr}, ckGs S t es = true → PGs X es (LfGs G t)
  | .nil, [], h => by
    refine pgs_imp pgs_nil fun v σ H Q ⟨B, α, O, ρ, ds, Q0, R, a, hb, hq⟩ => ?_
    cases a with
    | nil => exact ⟨rfl, hq _ hb _ R (fun _ _ => rfl) rfl⟩
    | cons _ _ => exact False.elim hb
  | .cons t r, e :: es, h => by
    rw [ckGs] at h
    obtain ⟨h, h3⟩ := ba h
    obtain ⟨h1, h2⟩ := ba h
    refine pgs_imp (pgs_cons (sd_tg g h2) (sd_tgs g h3) (by rw [assignEach_plain h1]; rfl)) fun v σ H Q ⟨B, α, O, ρ, ds, Q0, R, a, hb, hq⟩ => ?_
    cases a with
    | nil => exact False.elim hb
    | @cons v' d vs' ds a ar =>
      refine ⟨v', vs', rfl, B, α, O, ρ, d, _, R, a, hb, fun ρ1 q1 σ1 R1 hs1 hl1 => ?_⟩
      refine ⟨B, α, O, ρ1, ds, Q0, R1, ar, q1, fun ρ2 q2 σ2 R2 hs2 hl2 => hq ρ2 q2 σ2 R2 (fun i hi => ?_) (hl2.trans hl1)⟩
      have hi' : i ∉ slots t ∧ i ∉ slots r := by simpa [slots] using hi
      rw [hs2 i hi'.2, hs1 i hi'.1]
  | .nil, e :: es, h => by rw [ckGs] at h; cases h; all_goals (intros; contradiction)
  | .cons _ _, [], h => by rw [ckGs] at h; cases h; all_goals (intros; contradiction)
  | .nm _, _, h => by rw [ckGs] at h; cases h; all_goals (intros; contradiction)
  | .tp _, _, h => by rw [ckGs] at h; cases h; all_goals (intros; contradiction)
end
end
end Z

set_option Elab.async false
set_option linter.all false
set_option maxRecDepth 100000
set_option maxHeartbeats 4000000
namespace Z
open PySem PySem.Spec PyProof.Rows L2
section
variable {G : Gx} {k : Nat} {Γ : List (Str × ZSp)}
mutual
theorem AtU.later {B B2 : Addr → Prop} {α α2 : List Addr} {O O2 : List DO} {H H2 : Hp} (hi : ∀ (k : Nat) a, α[k]? = some a → α2[k]? = some a) (h : ∀ a o, ¬ Mu B α O a → H a = some o → (∀ ps, o ≠ .tbl ps) → H2 a = some o ∧ ¬ Mu B2 α2 O2 a) :
    ∀ {v : V} {u : U}, AtU G.K B α O H v u → AtU G.K B2 α2 O2 H2 v u
  | _, _, .d a => .d (a.imp h)
  | _, _, .o e => .o (hi _ _ e)
  | _, _, .t e m r => let ⟨e', m'⟩ := h _ _ m e (fun _ z => by cases z); .t e' m' (AtUs.later hi h r)
theorem AtUs.later {B B2 : Addr → Prop} {α α2 : List Addr} {O O2 : List DO} {H H2 : Hp} (hi : ∀ (k : Nat) a, α[k]? = some a → α2[k]? = some a) (h : ∀ a o, ¬ Mu B α O a → H a = some o → (∀ ps, o ≠ .tbl ps) → H2 a = some o ∧ ¬ Mu B2 α2 O2 a) :
    ∀ {vs : List V} {us : List U}, AtUs G.K B α O H vs us → AtUs G.K B2 α2 O2 H2 vs us
  | _, _, .nil => .nil
  | _, _, .cons a r => .cons (AtU.later hi h a) (AtUs.later hi h r)
end
theorem gt_rm : ∀ (ρ : List (Option U)) (v i : Nat) (u : U), gt (wipeR.rm ρ v) i = some u → i ≠ v ∧ gt ρ i = some u
  | [], _, _, _, h => by cases h
  | _ :: _, 0, 0, _, h => by cases h
  | _ :: _, 0, i + 1, _, h => ⟨by omega, h⟩
  | _ :: _, v + 1, 0, _, h => ⟨by omega, h⟩
  | _ :: r, v + 1, i + 1, u, h => by
    obtain ⟨h1, h2⟩ := gt_rm r v i u h
    exact ⟨by omega, h2⟩
theorem rm_len : ∀ (ρ : List (Option U)) (v : Nat), (wipeR.rm ρ v).length = ρ.length
  | [], _ => rfl
  | _ :: _, 0 => rfl
  | _ :: r, v + 1 => congrArg (· + 1) (rm_len r v)
theorem gt_wipe {ρ : List (Option U)} {i : Nat} {u : U} : ∀ {vs : List Nat}, gt (wipeR ρ vs) i = some u → i ∉ vs ∧ gt ρ i = some u
  | [], h => ⟨by simp, h⟩
  | v :: vs, h => by
    obtain ⟨h1, h2⟩ := gt_rm _ _ _ _ h
    obtain ⟨h3, h4⟩ := gt_wipe h2
    exact ⟨by simp only [List.mem_cons, not_or]; exact ⟨h1, h3⟩, h4⟩
theorem wipeR_len (ρ : List (Option U)) : ∀ vs : List Nat, (wipeR ρ vs).length = ρ.length
  | [] => rfl
  | v :: vs => by rw [wipeR, rm_len, wipeR_len ρ vs]
theorem wipe_at {σ : L2.St} {i : Nat} : ∀ {vs : List Nat}, (wipe σ vs)[i]? = if i ∈ vs then (if i < σ.length then some none else none) else σ[i]?
  | [] => by simp [wipe]
  | v :: vs => by
    have ih := wipe_at (σ := σ) (i := i) (vs := vs)
    unfold wipe
    by_cases h : v = i
    · subst h
      rw [if_pos List.mem_cons_self]
      by_cases hl : v < σ.length
      · rw [if_pos hl, List.getElem?_set_self (by rw [wipe_length]; exact hl)]
      · rw [if_neg hl, List.getElem?_eq_none (by rw [List.length_set, wipe_length]; omega)]
    · rw [List.getElem?_set_ne h, ih]
      by_cases hm : i ∈ vs
      · rw [if_pos hm, if_pos (List.mem_cons_of_mem _ hm)]
      · rw [if_neg hm, if_neg (by simp only [List.mem_cons, not_or]; exact ⟨fun z => h z.symm, hm⟩)]
theorem wipe_back {σ σ2 : L2.St} {vs ss : List Nat} (hs : ∀ i ∈ ss, i ∈ vs) (h : ∀ i, i ∉ ss → σ2[i]? = (wipe σ vs)[i]?) (hl : σ2.length = σ.length) : wipe σ2 vs = wipe σ vs := by
  refine List.ext_getElem? fun i => ?_
  rw [wipe_at, wipe_at, hl]
  by_cases hm : i ∈ vs
  · rw [if_pos hm, if_pos hm]
  · rw [if_neg hm, if_neg hm, h i (fun z => hm (hs i z)), wipe_at, if_neg hm]
theorem len_of {σ σ2 : L2.St} {vs ss : List Nat} (h : ∀ i, i ∉ ss → σ2[i]? = (wipe σ vs)[i]?) : True := trivial
/-- a new list that the block keeps for itself -/
def With (B : Addr → Prop) (D : Addr) : Addr → Prop := fun b => B b ∨ b = D
theorem own_with {B : Addr → Prop} {α : List Addr} {O : List DO} {H : Hp} (w : Own G B α O H) {D : Addr} {o : HO} (hD : H D = none) : Own G (With B D) α O (upd H D o) := by
  have hm : ∀ b, Mu (With B D) α O b → Mu B α O b ∨ H b = none := fun b m => by
    rcases m with (m | rfl) | m
    · exact .inl (.inl m)
    · exact .inr hD
    · exact .inl (.inr m)
  have hk : ∀ b o', H b = some o' → ¬ Ho α O b → (∀ ps, o' ≠ .tbl ps) → upd H D o b = some o' := fun b o' e _ _ => by rw [upd_ne (ne_of_none e hD)]; exact e
  refine ⟨w.len, w.nd, fun j b u e1 e2 => ?_, fun b m => ?_, fun b m z => ?_, tabs_keep w.tabs fun b u e _ => by rw [upd_ne (ne_of_none e hD)]; exact e⟩
  · have h := w.at_ j b u e1 e2
    cases u with
    | lst ds =>
      obtain ⟨vs, e, r⟩ := h
      exact ⟨vs, by rw [upd_ne (ne_of_none e hD)]; exact e, r.imp (later hm hk)⟩
    | brw ds =>
      obtain ⟨vs, e, r⟩ := h
      exact ⟨vs, by rw [upd_ne (ne_of_none e hD)]; exact e, r.imp (later hm hk)⟩
    | frz ds => exact At.imp (later hm hk) h
  · rcases m with m | rfl
    · obtain ⟨o', e⟩ := w.bt b m
      exact ⟨o', by rw [upd_ne (ne_of_none e hD)]; exact e⟩
    · exact ⟨o, upd_same⟩
  · rcases z with z | rfl
    · exact w.nb b m z
    · obtain ⟨o', e⟩ := m.some w
      rw [hD] at e; cases e
theorem own_updB {B : Addr → Prop} {α : List Addr} {O : List DO} {H : Hp} (w : Own G B α O H) {D : Addr} {vs : List V} {o : HO} (hB : B D) (hD : H D = some (.lst vs)) : Own G B α O (upd H D o) := by
  have h1 : ∀ a o', ¬ Mu B α O a → H a = some o' → (∀ ps, o' ≠ .tbl ps) → upd H D o a = some o' ∧ ¬ Mu B α O a := fun b o' m e _ => ⟨by rw [upd_ne (fun z : b = D => m (by rw [z]; exact .inl hB))]; exact e, m⟩
  refine ⟨w.len, w.nd, fun j b u e1 e2 => ?_, fun b m => ?_, w.nb, tabs_keep w.tabs fun b u e z => ?_⟩
  · have h := w.at_ j b u e1 e2
    cases u with
    | lst ds =>
      obtain ⟨vs, e, r⟩ := h
      refine ⟨vs, ?_, r.imp h1⟩
      rw [upd_ne (fun z : b = D => w.nb b ⟨j, _, e1, e2, rfl⟩ (by rw [z]; exact hB))]
      exact e
    | brw ds =>
      obtain ⟨vs, e, r⟩ := h
      refine ⟨vs, ?_, r.imp h1⟩
      rw [upd_ne (fun z : b = D => w.nb b ⟨j, _, e1, e2, rfl⟩ (by rw [z]; exact hB))]
      exact e
    | frz ds => exact At.imp h1 h
  · by_cases e : b = D
    · exact ⟨o, by rw [e, upd_same]⟩
    · rw [upd_ne e]; exact w.bt b m
  · by_cases eb : b = D
    · subst eb
      rw [hD] at e
      cases e
      rcases z with ⟨_, z⟩ | ⟨_, z⟩ <;> cases z
    · rw [upd_ne eb]; exact e
theorem stp_updNew {α α' : List Addr} {O O' : List DO} {H H' : Hp} (s : Stp α O H α' O' H') {D : Addr} {o : HO} (hD : H D = none) : Stp α O H α' O' (upd H' D o) :=
  ⟨s.pre, fun b o' e m n => by rw [upd_ne (ne_of_none e hD)]; exact s.keep b o' e m n, fun b e => by
    by_cases h : b = D
    · rw [h]; exact hD
    · rw [upd_ne h] at e; exact s.there b e, s.new, s.hnew, s.fresh⟩
/-- the new list becomes an owned one, or data -/
theorem own_adopt {B : Addr → Prop} {α : List Addr} {O : List DO} {H : Hp} {D : Addr} {vs : List V} {ds : List Z.D} (w : Own G (With B D) α O H) (hD : H D = some (.lst vs)) (hB : ¬ B D) (ha : D ∉ α) (r : Ats G.K (Mu (With B D) α O) H vs ds) : Own G B (α ++ [D]) (O ++ [.lst ds]) H := by
  have hm : ∀ b, Mu B (α ++ [D]) (O ++ [.lst ds]) b → Mu (With B D) α O b := fun b m => by
    rcases m with m | ⟨j, u, e1, e2, l⟩
    · exact .inl (.inl m)
    · rcases get_snoc e1 with e1 | ⟨e1, eb⟩
      · rcases get_snoc e2 with e2 | ⟨e2, _⟩
        · exact .inr ⟨j, u, e1, e2, l⟩
        · have := (List.getElem?_eq_some_iff.mp e1).1
          have := w.len
          omega
      · exact .inl (.inr eb)
  refine ⟨by simp [w.len], ?_, fun j b u e1 e2 => ?_, fun b m => w.bt b (.inl m), fun b m z => ?_, w.tabs⟩
  · rw [List.nodup_append]
    exact ⟨w.nd, by simp, fun a h1 b h2 => by
      rcases List.mem_singleton.mp h2 with rfl
      exact fun z => ha (by rw [← z]; exact h1)⟩
  · rcases get_snoc e1 with e1 | ⟨e1, rfl⟩
    · rcases get_snoc e2 with e2 | ⟨e2, _⟩
      · exact (w.at_ j b u e1 e2).less hm
      · have := (List.getElem?_eq_some_iff.mp e1).1
        have := w.len
        omega
    · rcases get_snoc e2 with e2 | ⟨e2, rfl⟩
      · have := (List.getElem?_eq_some_iff.mp e2).1
        have := w.len
        omega
      · exact ⟨vs, hD, r.less hm⟩
  · rcases m with ⟨j, u, e1, e2, l⟩
    rcases get_snoc e1 with e1 | ⟨e1, rfl⟩
    · rcases get_snoc e2 with e2 | ⟨e2, _⟩
      · exact w.nb b ⟨j, u, e1, e2, l⟩ (.inl z)
      · have := (List.getElem?_eq_some_iff.mp e1).1
        have := w.len
        omega
    · exact hB z
theorem own_less {B : Addr → Prop} {α : List Addr} {O : List DO} {H : Hp} {D : Addr} (w : Own G (With B D) α O H) : Own G B α O H := by
  have hm : ∀ b, Mu B α O b → Mu (With B D) α O b := fun b m => m.elim (fun m => .inl (.inl m)) .inr
  exact ⟨w.len, w.nd, fun j b u e1 e2 => (w.at_ j b u e1 e2).less hm, fun b m => w.bt b (.inl m), fun b m z => w.nb b m (.inl z), w.tabs⟩
theorem stp_adopt {α α' : List Addr} {O O' : List DO} {H H' : Hp} (s : Stp α O H α' O' H') {D : Addr} {o : DO} (hl : α'.length = O'.length) (hD : H D = none) : Stp α O H (α' ++ [D]) (O' ++ [o]) H' := by
  refine ⟨?_, s.keep, s.there, fun b m => ?_, fun b m => ?_, fun b m => ?_⟩
  · obtain ⟨m, e⟩ := s.pre
    exact ⟨m ++ [D], by rw [e, List.append_assoc]⟩
  · obtain ⟨j, u, e1, e2, l⟩ := m
    rcases get_snoc e1 with e1 | ⟨e1, rfl⟩
    · rcases get_snoc e2 with e2 | ⟨e2, _⟩
      · exact s.new b ⟨j, u, e1, e2, l⟩
      · have := (List.getElem?_eq_some_iff.mp e1).1
        omega
    · exact .inr hD
  · obtain ⟨j, u, e1, e2, l⟩ := m
    rcases get_snoc e1 with e1 | ⟨e1, rfl⟩
    · rcases get_snoc e2 with e2 | ⟨e2, _⟩
      · exact s.hnew b ⟨j, u, e1, e2, l⟩
      · have := (List.getElem?_eq_some_iff.mp e1).1
        omega
    · exact .inr hD
  · rcases List.mem_append.mp m with m | m
    · exact s.fresh b m
    · rw [List.mem_singleton.mp m]; exact .inr hD

/-- what was borrowed for a walk, given back -/
theorem unb1_at (o x : DO) : unb1 o x = x ∨ ∃ ds es, o = .lst es ∧ x = .brw ds ∧ unb1 o x = .lst ds := by
  cases o with
  | lst es => cases x with
    | brw ds => exact .inr ⟨ds, es, rfl, rfl, rfl⟩
    | lst _ => exact .inl rfl
    | frz _ => exact .inl rfl
  | frz _ => exact .inl rfl
  | brw _ => exact .inl rfl
theorem unb_at : ∀ {O O' : List DO} {i : Nat} {x : DO}, (unb O O')[i]? = some x → O'[i]? = some x ∨ ∃ ds es, O[i]? = some (DO.lst es) ∧ O'[i]? = some (DO.brw ds) ∧ x = .lst ds
  | [], _, _, _, h => .inl h
  | _ :: _, [], i, x, h => .inl h
  | o :: r, y :: s, 0, x, h => by
    rw [unb, List.getElem?_cons_zero] at h
    cases h
    rcases unb1_at o y with g | ⟨ds, es, g1, g2, g3⟩
    · exact .inl (by rw [List.getElem?_cons_zero, g])
    · exact .inr ⟨ds, es, by rw [List.getElem?_cons_zero, g1], by rw [List.getElem?_cons_zero, g2], g3⟩
  | o :: r, y :: s, i + 1, x, h => by
    rw [unb, List.getElem?_cons_succ] at h
    rw [List.getElem?_cons_succ, List.getElem?_cons_succ]
    exact unb_at h
theorem unb_len : ∀ (O O' : List DO), (unb O O').length = O'.length
  | [], _ => rfl
  | _ :: _, [] => rfl
  | _ :: r, _ :: s => congrArg (· + 1) (unb_len r s)
theorem unb_ok {B : Addr → Prop} {α α' : List Addr} {O O' : List DO} {H H' : Hp} (s : Stp α O H α' O' H') (w0 : Own G B α O H) (w : Own G B α' O' H') : Stp α O H α' (unb O O') H' ∧ Own G B α' (unb O O') H' ∧ ∀ b, Mu B α' (unb O O') b → Mu B α' O' b := by
  have how : ∀ b, Ow α' (unb O O') b → Ow α' O' b := fun b ⟨i, o, e1, e2, l⟩ => by
    rcases unb_at e2 with g | ⟨ds, es, g1, g2, rfl⟩
    · exact ⟨i, o, e1, g, l⟩
    · exact ⟨i, _, e1, g2, rfl⟩
  have hm : ∀ b, Mu B α' (unb O O') b → Mu B α' O' b := fun b m => m.elim .inl fun m => .inr (how b m)
  refine ⟨⟨s.pre, s.keep, s.there, fun b m => s.new b (how b m), fun b ⟨i, o, e1, e2, l⟩ => ?_, s.fresh⟩, ⟨by rw [unb_len]; exact w.len, w.nd, fun i b o e1 e2 => ?_, w.bt, fun b m => w.nb b (how b m), w.tabs⟩, hm⟩
  · rcases unb_at e2 with g | ⟨ds, es, g1, g2, rfl⟩
    · exact s.hnew b ⟨i, o, e1, g, l⟩
    · refine .inl ⟨i, _, ?_, g1, rfl⟩
      obtain ⟨mm, e⟩ := s.pre
      rw [e, List.getElem?_append_left (by rw [w0.len]; exact (List.getElem?_eq_some_iff.mp g1).1)] at e1
      exact e1
  · rcases unb_at e2 with g | ⟨ds, es, g1, g2, rfl⟩
    · exact (w.at_ i b o e1 g).less hm
    · exact (w.at_ i b _ e1 g2).less hm
theorem lookup_blk {sc scope : Scope} {x : Str} {kd : NameKind} (hk : kd ≠ .free) (h : scope.names.lookup x = some kd) : (relS scope sc).names.lookup x = some kd := lookup_relS_keep hk h
theorem good_blk {X : Cx} {W0 : XK} {S : Sx} (g : Good X G W0 k S Γ) (scope : Scope) (s : Shared) (H : Hp) (C : Addr) (cl : List (Str × Addr)) (fp : List Addr) :
    Good (X.blk s H scope (compEnvC scope cl C X.env) fp) G (fun _ _ _ => False) k ⟨S.N, relS scope S.sc, scope⟩ Γ where
  hN := g.hN
  nd := g.nd
  sc := by rw [← g.sc]; rfl
  calm := g.calm
  hK := g.hK
  takes := fun u s' ⟨_, _, _, _, _, _, _, _, _, _, _, _, _, _, _, _, w⟩ => w.elim
  room := g.room
  fns := fun i x P h => g.fns i x P h
  free := g.free
  sto := fun x h => by
    unfold ownB at h
    have hsc : (compEnvC scope cl C X.env).scope = relS scope X.env.scope := rfl
    split at h
    · rename_i q
      exact ⟨.inl (by rw [hsc]; exact lookup_blk (by decide) q), .inr (by rw [hsc]; exact lookup_blk (by decide) q)⟩
    · rename_i q
      refine ⟨.inr (by rw [hsc]; exact lookup_blk (by decide) q), .inl ?_⟩
      show (scope.names.lookup x == some .cell) = true
      rw [q]; rfl
    · cases h
theorem folded_of {e : Expr} {env : Env} (h : noSet e = true) : ∀ x, foldedSetIterable e env x = pure x := by
  intro x
  cases e <;> first | rfl | cases h
theorem comp_ex (own : Bool) (vs : List Nat) (tg : T1) {src tst elt : Y} (ds : Sd G k Γ src) (dt : Sd G k Γ tst) (de : Sd G k Γ elt) (hy : isYes tst = true → tst = .yes) {X : Cx} {W0 : XK} {S : Sx} (g : Good X G W0 k S Γ) {e : Expr} (c : compC (ck (Γ.map (·.1)) tst) (ck (Γ.map (·.1)) elt) (ck (Γ.map (·.1)) src S) S vs tg (isYes tst) e = true) :
    ∃ (e0 t it : Expr) (ifs : List Expr) (scope : Scope) (pos : Pos) (wi : TI) (gg : TG) (tt : TT) (te : TE), e = .ListComp e0 [⟨t, it, ifs, 0⟩] scope pos ∧ PI X t it wi ∧ BlkOk X.N X.env.scope scope (ownN S.N vs) ∧
      (∀ (s : Shared) (H : Hp) (C : Addr) (cl : List (Str × Addr)) (fp : List Addr), PG (X.blk s H scope (compEnvC scope cl C X.env) fp) t gg) ∧
      (∀ (s : Shared) (H : Hp) (C : Addr) (cl : List (Str × Addr)) (fp : List Addr), PTs (X.blk s H scope (compEnvC scope cl C X.env) fp) ifs tt) ∧
      (∀ (s : Shared) (H : Hp) (C : Addr) (cl : List (Str × Addr)) (fp : List Addr), PE (X.blk s H scope (compEnvC scope cl C X.env) fp) e0 te) ∧ (∀ x, foldedSetIterable it X.env x = pure x) ∧
      ∀ σ H Q, LfE G W0 (vc Γ (.comp own vs tg src tst elt)) σ H Q → tLc wi gg tt te ((ownN S.N vs).map (·.2)) σ H Q := by
  unfold compC at c
  split at c
  · rename_i e0 t it ifs scope pos
    obtain ⟨c, c7⟩ := ba c
    obtain ⟨c, c6⟩ := ba c
    obtain ⟨c, c5⟩ := ba c
    obtain ⟨c, c4⟩ := ba c
    obtain ⟨c, c3⟩ := ba c
    obtain ⟨c1, c2⟩ := ba c
    have gb := fun s H C cl fp => good_blk g scope s H C cl fp
    have ok : BlkOk X.N X.env.scope scope (ownN S.N vs) := by
      rw [g.hN, g.sc]
      exact blkOk_by c1
    have hvs : (ownN S.N vs).map (·.2) = vs := by unfold ownN; rw [List.map_map]; exact List.map_id vs
    have hsl : ∀ i ∈ slots tg, i ∈ vs := fun i hi => by
      have := List.all_eq_true.mp c3 i hi
      simpa using this
    have ht : ∀ (s : Shared) (H : Hp) (C : Addr) (cl : List (Str × Addr)) (fp : List Addr), PTs (X.blk s H scope (compEnvC scope cl C X.env) fp) ifs (LfT G (fun _ _ _ => False) (vc Γ tst)) := fun s H C cl fp => by
      split at c6
      · rw [hy c6]
        exact pts_imp pts_nil fun σ H Q ⟨B, α, ρ, O, Q0, E0, R, h, hq, hl⟩ => hq.to h Stp.refl R.own
      · exact pts_one (dt.T _ _ _ (gb s H C cl fp) _ (ba c6).2)
      · cases c6
    refine ⟨e0, t, it, ifs, scope, pos, _, _, _, _, rfl, ds.I X W0 S g _ _ c4, ok, fun s H C cl fp => sd_tg (gb s H C cl fp) c2, ht, fun s H C cl fp => de.E _ _ _ (gb s H C cl fp) _ c7, folded_of c5, fun σ H Q ⟨B, α, ρ, O, Q0, E0, R, h, hq, hl⟩ => ?_⟩
    rw [hvs]
    refine ⟨B, α, ρ, O, _, E0, R, h, fun us O1 q => ?_, hl⟩
    obtain ⟨xs, rfl, hz, q⟩ := q
    refine ⟨xs, rfl, fun α1 H1 J s1 w1 wk D hD => ?_⟩
    obtain ⟨Gd, Yy, wk, hwk⟩ := wk.ex
    have hDB : ¬ B D := fun m => by
      obtain ⟨o, e⟩ := w1.bt D m
      rw [hD] at e; cases e
    have hDa : D ∉ α1 := own_fresh w1 hD
    have hO1 : O1.length = α1.length := w1.len.symm
    have hm : ∀ {O2 : List DO} {H2 : Hp}, Stp α1 O1 H1 α1 O2 H2 → ∀ b, Mu (With B D) α1 O2 b → Mu B α1 O1 b ∨ H1 b = none := fun s b m => by
      rcases m with (m | rfl) | m
      · exact .inl (.inl m)
      · exact .inr hD
      · rcases s.new b m with z | z
        · exact .inl (.inr z)
        · exact .inr z
    have hkp : ∀ {O2 : List DO} {H2 : Hp}, Stp α1 O1 H1 α1 O2 H2 → ∀ b o, H1 b = some o → ¬ Ho α1 O1 b → (∀ ps, o ≠ .tbl ps) → H2 b = some o := fun s b o e m n => s.keep b o e m n
    refine lc_it wk (fun i H => ∃ O2 acc av, Own G (With B D) α1 O2 H ∧ Stp α1 O1 H1 α1 O2 H ∧ H D = some (.lst av) ∧ Ats G.K (Mu (With B D) α1 O2) H av acc ∧ acc.length ≤ i ∧
      compR tg (vc Γ tst fun _ _ => False) (vc Γ elt fun _ _ => False) (wipeR ρ vs) O1.length (xs.drop i) acc O2 fun acc O2 => newL own acc (unb O O2) Q0) ?_ ?_ ?_ ?_
    · exact ⟨O1, [], [], own_with w1 hD, stp_new hD, upd_same, .nil, Nat.le_refl _, q⟩
    · rintro i H2 hi ⟨O2, acc, av, w2, s2, e2, r2, l2, q2⟩
      exact (hwk _ _ _ _ (hm s2) (hkp s2) w2).1
    · rintro i x H2 H3 hi ⟨O2, acc, av, w2, s2, e2, r2, l2, q2⟩ y
      obtain ⟨d, ed, hH3, ax⟩ := (hwk _ _ _ _ (hm s2) (hkp s2) w2).2 i x H3 hi y
      have st3 : Stp α1 O2 H2 α1 O2 H3 ∧ Own G (With B D) α1 O2 H3 := by
        rcases hH3 with rfl | ⟨p, vs, hp, rfl⟩
        · exact ⟨Stp.refl, w2⟩
        · exact ⟨stp_new hp, own_new w2 hp⟩
      obtain ⟨s3, w3⟩ := st3
      have hdrop : xs.drop i = d :: xs.drop (i + 1) := by
        obtain ⟨hlt, ed⟩ := List.getElem?_eq_some_iff.mp ed
        rw [← ed]
        exact List.drop_eq_getElem_cons hlt
      rw [hdrop, compR] at q2
      have s13 := s2.trans s3
      have R3 : Rep G (With B D) α1 (wipe σ vs) H3 (wipeR ρ vs) O2 := by
        refine ⟨fun j u e => ?_, w3, by rw [wipeR_len, wipe_length]; exact R.len⟩
        obtain ⟨hj, e⟩ := gt_wipe e
        obtain ⟨v, ev, av⟩ := R.vars j u e
        exact ⟨v, by rw [wipe_out hj]; exact ev, AtU.later (fun _ _ z => z) (later (hm s13) (hkp s13)) (s1.atU av)⟩
      refine ⟨With B D, α1, O2, wipeR ρ vs, d, _, R3, ax, q2, fun ρ1 q3 σ2 R4 hs hl4 => ⟨wipe_back hsl hs (by rw [hl4, wipe_length]), ?_⟩⟩
      refine seqT (E0 := fun _ _ => False) R4 q3 (fun _ _ z => z.elim) fun b O5 q5 α5 H5 s5 w5 => ?_
      have kD : ∀ {α6 : List Addr} {O6 : List DO} {H6 : Hp}, Stp α1 O2 H3 α6 O6 H6 → H6 D = some (.lst av) := fun s => s.keep D _ (s3.keep D _ e2 (fun z => w2.nb D z.ow (.inr rfl)) (fun _ z => by cases z)) (fun z => w3.nb D z.ow (.inr rfl)) (fun _ z => by cases z)
      have fin : ∀ {α6 : List Addr} {O6 : List DO} {H6 : Hp}, Stp α1 O2 H3 α6 O6 H6 → Own G (With B D) α6 O6 H6 → Own G (With B D) α1 (O6.take O1.length) H6 ∧ Stp α1 O1 H1 α1 (O6.take O1.length) H6 := fun {α6 O6 H6} s w => by
        have h1 := stp_take s w3
        have h2 := own_take w O1.length
        rw [hO1] at h2 ⊢
        rw [h1.2] at h2
        exact ⟨h2, s13.trans h1.1⟩
      cases b with
      | false =>
        rw [if_neg (by decide)]
        obtain ⟨w6, s6⟩ := fin s5 w5
        refine ⟨O5.take O1.length, acc, av, w6, s6, kD s5, ?_, by omega, q5.2 rfl⟩
        have r5 := s5.ats (s3.ats r2)
        exact r5.less fun b m => by
          rcases m with m | ⟨j, u, e1, e2, l⟩
          · exact .inl m
          · obtain ⟨mm, e⟩ := s5.pre
            refine .inr ⟨j, u, ?_, take_some e2, l⟩
            rw [e, List.getElem?_append_left (List.getElem?_eq_some_iff.mp e1).1]; exact e1
      | true =>
        rw [if_pos rfl]
        refine seqE (E0 := fun _ _ => False) (R4.stp s5 w5) (q5.1 rfl) (fun _ _ z => z.elim) fun u6 O6 q6 α6 v6 H6 s6 w6 a6 => ?_
        obtain ⟨x6, e6, q6⟩ := toK_of q6
        have ax6 := At.of w6 a6 e6
        obtain ⟨w7, s7⟩ := fin (s5.trans s6) w6
        have hD6 := kD (s5.trans s6)
        have hlt : acc.length < sizeLine := by omega
        have less6 : ∀ b, Mu (With B D) α1 (O6.take O1.length) b → Mu (With B D) α6 O6 b := fun b m => by
          rcases m with m | ⟨j, u, e1, e2, l⟩
          · exact .inl m
          · obtain ⟨mm, e⟩ := (s5.trans s6).pre
            refine .inr ⟨j, u, ?_, take_some e2, l⟩
            rw [e, List.getElem?_append_left (List.getElem?_eq_some_iff.mp e1).1]; exact e1
        have r6 := ((s5.trans s6).ats (s3.ats r2)).less less6
        have ax7 := ax6.less less6
        refine ⟨av, hD6, by rw [r6.length]; exact hlt, O6.take O1.length, acc ++ [x6], av ++ [v6], own_updB w7 (.inr rfl) hD6, stp_updNew s7 hD, upd_same, ?_, by rw [List.length_append]; simp; omega, q6⟩
        exact Ats.imp (fun b o m e _ => ⟨by rw [upd_ne (fun z : b = D => m (by rw [z]; exact .inl (.inr rfl)))]; exact e, m⟩) (r6.append (.cons ax7 .nil))
    · rintro H2 ⟨O2, acc, av, w2, s2, e2, r2, l2, q2⟩
      rw [List.drop_length, compR] at q2
      obtain ⟨s12, w3, hmu⟩ := unb_ok (B := B) (s1.trans s2) R.own (own_less w2)
      have ub : Own G (With B D) α1 (unb O O2) H2 := by
        refine ⟨w3.len, w3.nd, fun i b o g1 g2 => ?_, w2.bt, fun b m z => ?_, w3.tabs⟩
        · have hm2 : ∀ b, Mu (With B D) α1 (unb O O2) b → Mu (With B D) α1 O2 b := fun b m => by
            rcases m with m | ⟨i, o, g1, g2, l⟩
            · exact .inl m
            · rcases unb_at g2 with g | ⟨ds, es, _, g3, rfl⟩
              · exact .inr ⟨i, o, g1, g, l⟩
              · exact .inr ⟨i, _, g1, g3, rfl⟩
          rcases unb_at g2 with g | ⟨ds, es, _, g3, rfl⟩
          · exact (w2.at_ i b o g1 g).less hm2
          · exact (w2.at_ i b _ g1 g3).less hm2
        · obtain ⟨i, o, g1, g2, l⟩ := m
          rcases unb_at g2 with g | ⟨ds, es, _, g3, rfl⟩
          · exact w2.nb b ⟨i, o, g1, g, l⟩ z
          · exact w2.nb b ⟨i, _, g1, g3, rfl⟩ z
      have r3 : Ats G.K (Mu (With B D) α1 (unb O O2)) H2 av acc := r2.less fun b m => by
        rcases m with m | ⟨i, o, g1, g2, l⟩
        · exact .inl m
        · rcases unb_at g2 with g | ⟨ds, es, _, g3, rfl⟩
          · exact .inr ⟨i, o, g1, g, l⟩
          · exact .inr ⟨i, _, g1, g3, rfl⟩
      have hDH : H D = none := s1.there D hD
      cases own with
      | true =>
        refine hq.to q2 (stp_adopt s12 w3.len hDH) (own_adopt ub e2 hDB hDa r3) (.o ?_)
        rw [List.getElem?_append_right (by rw [w3.len]; exact Nat.le_refl _), w3.len]
        simp
      | false =>
        refine hq.to q2 s12 w3 (.d (.lst e2 (fun m => ?_) (r3.less fun b m => m.elim (fun m => .inl (.inl m)) .inr)))
        rcases m with m | m
        · exact hDB m
        · exact ub.nb D m (.inr rfl)
  · cases c

theorem sd_comp (own : Bool) (vs : List Nat) (tg : T1) {src tst elt : Y} (ds : Sd G k Γ src) (dt : Sd G k Γ tst) (de : Sd G k Γ elt) (hy : isYes tst = true → tst = .yes) : Sd G k Γ (.comp own vs tg src tst elt) := .ofE _ (fun _ => rfl) fun X W0 S g e c => by
  obtain ⟨e0, t, it, ifs, scope, pos, wi, gg, tt, te, rfl, hi, ok, hg, ht, he, hs, imp⟩ := comp_ex own vs tg ds dt de hy g c
  exact pe_imp (pe_lc g.calm g.nd hi ok hg ht he hs) imp
theorem sd_all : ∀ z : Y, Sd G k Γ z
  | .var i => sd_var i
  | .int i => sd_int i
  | .bl b => sd_bl b
  | .non => sd_non
  | .str x => sd_str x
  | .gint _ _ => sd_none _ fun _ => rfl
  | .gstr _ _ => sd_none _ fun _ => rfl
  | .bin op a b => sd_bin op (sd_all a) (sd_all b)
  | .neg a => sd_neg (sd_all a)
  | .not a => sd_not (sd_all a)
  | .and a b => sd_and (sd_all a) (sd_all b)
  | .or a b => sd_or (sd_all a) (sd_all b)
  | .one a => sd_one (sd_all a)
  | .cmp op a b => sd_cmp op (sd_all a) (sd_all b)
  | .chain o p a b c => sd_chain o p (sd_all a) (sd_all b) (sd_all c)
  | .ite c a b => sd_ite (sd_all c) (sd_all a) (sd_all b)
  | .tup es => sd_tup (sd_all es)
  | .tupU es => sd_tupU (sd_all es)
  | .lst own es => sd_lst own (sd_all es)
  | .call g es => sd_call g (sd_all es)
  | .blt f es => sd_blt f (sd_all es)
  | .lis z => sd_lis (sd_all z)
  | .isi a cs => sd_isi cs (sd_all a)
  | .ix a b => sd_ix (sd_all a) (sd_all b)
  | .sl a lo hi => sd_sl (sd_all a) (sd_all lo) (sd_all hi)
  | .rep a b => sd_rep (sd_all a) (sd_all b)
  | .comp own vs tg src tst elt => sd_comp own vs tg (sd_all src) (sd_all tst) (sd_all elt) (by
      intro h
      cases tst <;> first | rfl | cases h)
  | .app r z => sd_app (sd_all r) (sd_all z)
  | .fz z => sd_fz (sd_all z)
  | .lnt z => sd_lnt (sd_all z)
  | .fdq a b => sd_fdq (sd_all a) (sd_all b)
  | .ins r i z => sd_ins (sd_all r) (sd_all i) (sd_all z)
  | .nil => sd_nil
  | .cons a r => sd_cons (sd_all a) (sd_all r)
  | .star a r => sd_star (sd_all a) (sd_all r)
  | .nop => sd_nop
  | .sm a => sd_sm (sd_all a)
  | .yes => sd_none _ fun _ => rfl
  | .seq z => sd_seq (sd_all z)
  | .rng a => sd_rng (sd_all a)
  | .rng2 a b => sd_rng2 (sd_all a) (sd_all b)
  | .enm z => sd_enm (sd_all z)
  | .zip a b => sd_zip (sd_all a) (sd_all b)
  | .rev z => sd_rev (sd_all z)
end
end Z

set_option Elab.async false
set_option linter.all false
set_option maxRecDepth 100000
set_option maxHeartbeats 4000000
namespace Z
open PySem PySem.Spec PyProof.Rows L2
/-! ### statements -/
inductive YS where
  | nil | seq (a r : YS) | pas | doc | ex (y : Y) | set (i : Nat) (y : Y) | tgt (t : T1) (y : Y) | par (i j : Nat) (es : Y) | par3 (i j l : Nat) (es : Y)
  | seti (o ix y : Y) | ite (c : Y) (a b : YS) | for_ (t : T1) (src : Y) (b : YS) | whl (c : Y) (b : YS) | ret (y : Y) | ret0 | brk | cnt | nev
structure ZD where
  nx : List (Option U) → List DO → Prop
  rt : U → List DO → Prop
  bk : List (Option U) → List DO → Prop
  ct : List (Option U) → List DO → Prop
abbrev ZS := ZX → ZD → List (Option U) → List DO → Prop
/-- a for over data; O0: the places ahead of it -/
def forR (tg : T1) (body : ZS) (E : ZX) (D : ZD) (O0 : List DO) : List Z.D → List (Option U) → List DO → Prop
  | [], ρ, O => D.nx ρ (unb O0 O)
  | d :: ds, ρ, O => bindT tg d ρ fun ρ1 => body (fun x O' => E x (unb O0 O')) ⟨fun ρ' O' => forR tg body E D O0 ds ρ' O', fun u O' => D.rt u (unb O0 O'), fun ρ' O' => D.nx ρ' (unb O0 O'), fun ρ' O' => forR tg body E D O0 ds ρ' O'⟩ ρ1 O
def vcS (Γ : List (Str × ZSp)) : YS → ZS
  | .nil => fun _ D ρ O => D.nx ρ O
  | .seq a r => fun E D ρ O => vcS Γ a E { D with nx := fun ρ' O' => vcS Γ r E D ρ' O' } ρ O
  | .pas => fun _ D ρ O => D.nx ρ O
  | .doc => fun _ D ρ O => D.nx ρ O
  | .ex y => fun E D ρ O => vc Γ y E ρ O fun us O1 => oneK us fun _ => D.nx ρ O1
  | .set i y => fun E D ρ O => vc Γ y E ρ O fun us O1 => oneK us fun u => D.nx (st ρ i u) O1
  | .tgt t y => fun E D ρ O => vc Γ y E ρ O fun us O1 => oneK us fun u => toK O1 u fun d => bindT t d ρ fun ρ1 => D.nx ρ1 O1
  | .par i j es => fun E D ρ O => vc Γ es E ρ O fun us O1 => match us with
    | [u, w] => D.nx (st (st ρ i u) j w) O1
    | _ => False
  | .par3 i j l es => fun E D ρ O => vc Γ es E ρ O fun us O1 => match us with
    | [u, w, v] => D.nx (st (st (st ρ i u) j w) l v) O1
    | _ => False
  | .seti o ix y => fun E D ρ O => vc Γ y E ρ O fun us O1 => oneK us fun u => vc Γ o E ρ O1 fun rs O2 => oneK rs fun r => vc Γ ix E ρ O2 fun ks O3 => oneK ks fun kx => match r, kx with
    | .o k, .d (.int i) => (match go O3 k with
      | some (.lst ds) => toK O3 u fun x => ∃ j, ixN ds.length i = some j ∧ D.nx ρ (so O3 k (.lst (ds.set j x)))
      | _ => False)
    | _, _ => False
  | .ite c a b => fun E D ρ O => vc Γ c E ρ O fun us O1 => boolK us fun t => (t = true → vcS Γ a E D ρ O1) ∧ (t = false → vcS Γ b E D ρ O1)
  | .for_ t src b => fun E D ρ O => vc Γ src E ρ O fun us O1 => ∃ ds, us = ds.map .d ∧ forR t (vcS Γ b) E D O ds ρ O1
  | .whl c b => fun E D ρ O => ∃ W : Nat → List (Option U) → List DO → Prop, (∃ m, W m ρ O) ∧ ∀ m ρ1 O1, W m ρ1 O1 → vc Γ c E ρ1 O1 fun us O2 => boolK us fun t =>
      (t = true → vcS Γ b E ⟨fun ρ2 O3 => ∃ m', m' < m ∧ W m' ρ2 O3, D.rt, D.nx, fun ρ2 O3 => ∃ m', m' < m ∧ W m' ρ2 O3⟩ ρ1 O2) ∧ (t = false → D.nx ρ1 O2)
  | .ret y => fun E D ρ O => vc Γ y E ρ O fun us O1 => oneK us fun u => D.rt u O1
  | .ret0 => fun _ D _ O => D.rt (.d .non) O
  | .brk => fun _ D ρ O => D.bk ρ O
  | .cnt => fun _ D ρ O => D.ct ρ O
  | .nev => fun _ _ _ _ => False
/-! ### the check -/
def noComp : Expr → Bool
  | .ListComp _ _ _ _ => false
  | .SetComp _ _ _ _ => false
  | .DictComp _ _ _ _ _ => false
  | _ => true
def swC (sc : Scope) (x : Str) (px : Pos) : Expr → Bool
  | .ListComp _ _ scope pos => (px.line == pos.line) && decide (sc.names.lookup x = some .local) && !(scope.names.any fun (n, k) => n == x && (k == .local || k == .cell)) && (match sc.kind with | .function => true | _ => false)
  | _ => false
def noswC (sc : Scope) (x : Str) (px : Pos) : Expr → Bool
  | .ListComp _ _ scope pos => !(px.line == pos.line) || decide (sc.names.lookup x ≠ some .local) || (scope.names.any fun (n, k) => n == x && (k == .local || k == .cell))
  | .SetComp _ _ _ _ => false
  | .DictComp _ _ _ _ _ => false
  | _ => true
def noTup : Expr → Bool
  | .Tuple _ _ _ => false
  | _ => true
/-- a tuple of targets whose stores are not swapped -/
def nonLoc (sc : Scope) : Expr → Bool
  | .Name x _ => decide (sc.names.lookup x ≠ some .local)
  | _ => true
def nosw2 (sc : Scope) (ts : List Expr) : Bool := ts.any (nonLoc sc) || !(ts.length == 2 || ts.length == 3)

structure CkS where
  S : Stmt → Bool := fun _ => false
  B : List Stmt → Bool := fun _ => false
def exS (f : Expr → Bool) : Stmt → Bool
  | .Expr e _ => noComp e && f e
  | _ => false
def docS : Stmt → Bool
  | .Expr (.Constant (.str _) _ _) _ => true
  | _ => false
def pasS : Stmt → Bool
  | .Pass _ => true
  | _ => false
def brkS : Stmt → Bool
  | .Break _ => true
  | _ => false
def cntS : Stmt → Bool
  | .Continue _ => true
  | _ => false
def setS (S : Sx) (i : Nat) (f g : Expr → Bool) : Stmt → Bool
  | .Assign [.Name x px] e _ => decide (S.N[i]? = some x) && ownB S.so x && ((f e && noswC S.sc x px e) || (g e && swC S.sc x px e))
  | _ => false
def tgtS (S : Sx) (t : T1) (f : Expr → Bool) : Stmt → Bool
  | .Assign [.Tuple ts kk p] e _ => ckG S t (.Tuple ts kk p) && f e && (noTup e || nosw2 S.sc ts)
  | _ => false
def parS (S : Sx) (i j : Nat) (f : List Expr → Bool) : Stmt → Bool
  | .Assign [.Tuple [.Name x px, .Name y py] _ _] (.Tuple [a, b] _ _) _ => decide (S.N[i]? = some x) && decide (S.N[j]? = some y) && decide (i ≠ j) && decide (S.sc.names.lookup x = some .local) && decide (S.sc.names.lookup y = some .local) &&
      (px.line == py.line) && decide (x ≠ y) && noStar a && noStar b && !(foldedForSure 8 a && foldedForSure 8 b) && !(constantsAlone 8 a && constantsAlone 8 b) && f [a, b]
  | _ => false
def par3S (S : Sx) (i j l : Nat) (f : List Expr → Bool) : Stmt → Bool
  | .Assign [.Tuple [.Name x px, .Name y py, .Name z pz] _ _] (.Tuple [a, b, c] _ _) _ => decide (S.N[i]? = some x) && decide (S.N[j]? = some y) && decide (S.N[l]? = some z) && decide (i ≠ j ∧ i ≠ l ∧ j ≠ l) && decide (S.sc.names.lookup x = some .local) && decide (S.sc.names.lookup y = some .local) && decide (S.sc.names.lookup z = some .local) &&
      (px.line == py.line) && (px.line == pz.line) && decide (x ≠ y ∧ x ≠ z ∧ y ≠ z) && noStar a && noStar b && noStar c && !(foldedForSure 8 a && foldedForSure 8 b && foldedForSure 8 c) && !(constantsAlone 8 a && constantsAlone 8 b && constantsAlone 8 c) && f [a, b, c]
  | _ => false
def setiS (f g h : Expr → Bool) : Stmt → Bool
  | .Assign [.Subscript o i _] e _ => f o && g i && h e && noSlice i && noComp e
  | _ => false
def iteS (f : Expr → Bool) (g h : List Stmt → Bool) : Stmt → Bool
  | .If c a b _ => f c && g a && h b
  | _ => false
def forS (S : Sx) (t : T1) (f : Expr → Expr → Bool) (g : List Stmt → Bool) : Stmt → Bool
  | .For tg it b [] _ => ckG S t tg && f tg it && noSet it && g b
  | _ => false
def whlS (f : Expr → Bool) (g : List Stmt → Bool) : Stmt → Bool
  | .While c b [] _ => f c && g b
  | _ => false
def retS (f : Expr → Bool) : Stmt → Bool
  | .Return (some e) _ => f e
  | _ => false
def ret0S : Stmt → Bool
  | .Return none _ => true
  | _ => false
def nilB : List Stmt → Bool
  | [] => true
  | _ => false
def seqB' (f : Stmt → Bool) (g : List Stmt → Bool) : List Stmt → Bool
  | s :: r => f s && g r
  | _ => false
/-- the check of a comprehension, for a store that is swapped in -/
def compCk (Γn : List Str) (S : Sx) : Y → Expr → Bool
  | .comp _ vs tg src tst elt => compC (ck Γn tst) (ck Γn elt) (ck Γn src S) S vs tg (isYes tst)
  | _ => fun _ => false
def ckS (Γn : List Str) : YS → Sx → CkS
  | .nil, _ => { B := nilB }
  | .seq a r, S => { B := seqB' (ckS Γn a S).S (ckS Γn r S).B }
  | .pas, _ => { S := pasS }
  | .doc, _ => { S := docS }
  | .ex y, S => { S := exS (ck Γn y S).E }
  | .set i y, S => { S := setS S i (ck Γn y S).E (compCk Γn S y) }
  | .tgt t y, S => { S := tgtS S t (ck Γn y S).E }
  | .par i j es, S => { S := parS S i j (ck Γn es S).A }
  | .par3 i j l es, S => { S := par3S S i j l (ck Γn es S).A }
  | .seti o ix y, S => { S := setiS (ck Γn o S).E (ck Γn ix S).E (ck Γn y S).E }
  | .ite c a b, S => { S := iteS (ck Γn c S).T (ckS Γn a S).B (ckS Γn b S).B }
  | .for_ t src b, S => { S := forS S t (ck Γn src S).I (ckS Γn b S).B }
  | .whl c b, S => { S := whlS (ck Γn c S).T (ckS Γn b S).B }
  | .ret y, S => { S := retS (ck Γn y S).E }
  | .ret0, _ => { S := ret0S }
  | .brk, _ => { S := brkS }
  | .cnt, _ => { S := cntS }
  | .nev, _ => { S := fun _ => true }

/-! ### soundness -/
structure DLow (G : Gx) (B : Addr → Prop) (α : List Addr) (O : List DO) (H : Hp) (D0 : ZD) (D : Ends) : Prop where
  nx : ∀ ρ' O', D0.nx ρ' O' → ∀ α' σ' H', Stp α O H α' O' H' → Rep G B α' σ' H' ρ' O' → D.nx σ' H'
  rt : ∀ u O', D0.rt u O' → ∀ α' v H', Stp α O H α' O' H' → Own G B α' O' H' → AtU G.K B α' O' H' v u → D.rt v H'
  bk : ∀ ρ' O', D0.bk ρ' O' → ∀ α' σ' H', Stp α O H α' O' H' → Rep G B α' σ' H' ρ' O' → D.bk σ' H'
  ct : ∀ ρ' O', D0.ct ρ' O' → ∀ α' σ' H', Stp α O H α' O' H' → Rep G B α' σ' H' ρ' O' → D.ct σ' H'
def LfS (G : Gx) (W0 : XK) (t : ZS) : TS := fun D σ H => ∃ B α ρ O D0 E0, Rep G B α σ H ρ O ∧ t E0 D0 ρ O ∧ DLow G B α O H D0 D ∧ ELow G B W0 α O H E0
theorem DLow.stp {G : Gx} {B : Addr → Prop} {α α' : List Addr} {O O' : List DO} {H H' : Hp} {D0 : ZD} {D : Ends} (d : DLow G B α O H D0 D) (s : Stp α O H α' O' H') : DLow G B α' O' H' D0 D :=
  ⟨fun ρ O e α σ H s2 r => d.nx ρ O e α σ H (s.trans s2) r, fun u O e α v H s2 w a => d.rt u O e α v H (s.trans s2) w a, fun ρ O e α σ H s2 r => d.bk ρ O e α σ H (s.trans s2) r, fun ρ O e α σ H s2 r => d.ct ρ O e α σ H (s.trans s2) r⟩
theorem ps_imp {X : Cx} {e : Stmt} {t t' : TS} (h : PS X e t) (i : ∀ D σ H, t' D σ H → t D σ H) : PS X e t' := ⟨fun pins s σ H D I q => h.run pins s σ H D I (i D σ H q)⟩
theorem pss_imp {X : Cx} {e : List Stmt} {t t' : TS} (h : PSs X e t) (i : ∀ D σ H, t' D σ H → t D σ H) : PSs X e t' := ⟨fun pins s σ H D I q => h.run pins s σ H D I (i D σ H q)⟩
structure GoodS (X : Cx) (G : Gx) (W0 : XK) (k : Nat) (S : Sx) (Γ : List (Str × ZSp)) : Prop extends Good X G W0 k S Γ where
  po : PassesOwn (model X.prog X.w) X.A X.env X.xe
  fk : X.env.scope.kind = .function
structure SdS (G : Gx) (k : Nat) (Γ : List (Str × ZSp)) (z : YS) : Prop where
  S : ∀ X W0 S, GoodS X G W0 k S Γ → ∀ e, (ckS (Γ.map (·.1)) z S).S e = true → PS X e (LfS G W0 (vcS Γ z))
  B : ∀ X W0 S, GoodS X G W0 k S Γ → ∀ e, (ckS (Γ.map (·.1)) z S).B e = true → PSs X e (LfS G W0 (vcS Γ z))
section
variable {G : Gx} {k : Nat} {Γ : List (Str × ZSp)}
theorem SdS.ofS {z : YS} (f : Sx → Stmt → Bool) (hf : ∀ S, ckS (Γ.map (·.1)) z S = { S := f S }) (h : ∀ X W0 S, GoodS X G W0 k S Γ → ∀ e, f S e = true → PS X e (LfS G W0 (vcS Γ z))) : SdS G k Γ z where
  S := fun X W0 S g e c => h X W0 S g e (by rw [hf S] at c; exact c)
  B := fun X W0 S g e c => by rw [hf S] at c; cases c
theorem ss_nil : SdS G k Γ .nil where
  S := fun X W0 S g e c => by cases c
  B := fun X W0 S g e c => by
    have c' : nilB e = true := c
    unfold nilB at c'
    split at c'
    · exact pss_imp pss_nil fun D σ H ⟨B, α, ρ, O, D0, E0, R, h, hd, hl⟩ => hd.nx _ _ h _ _ _ Stp.refl R
    · cases c'
theorem ss_seq {a r : YS} (da : SdS G k Γ a) (dr : SdS G k Γ r) : SdS G k Γ (.seq a r) where
  S := fun X W0 S g e c => by cases c
  B := fun X W0 S g e c => by
    have c' : seqB' (ckS (Γ.map (·.1)) a S).S (ckS (Γ.map (·.1)) r S).B e = true := c
    unfold seqB' at c'
    split at c'
    · obtain ⟨c1, c2⟩ := ba c'
      refine pss_imp (pss_cons (da.S X W0 S g _ c1) (dr.B X W0 S g _ c2)) fun D σ H ⟨B, α, ρ, O, D0, E0, R, h, hd, hl⟩ => ?_
      exact ⟨B, α, ρ, O, _, E0, R, h, ⟨fun ρ' O' q α' σ' H' s R' => ⟨B, α', ρ', O', D0, E0, R', q, hd.stp s, hl.stp s⟩, hd.rt, hd.bk, hd.ct⟩, hl⟩
    · cases c'
theorem ss_pas : SdS G k Γ .pas := .ofS _ (fun _ => rfl) fun X W0 S g e c => by
  unfold pasS at c
  split at c
  · exact ps_imp ps_pass fun D σ H ⟨B, α, ρ, O, D0, E0, R, h, hd, hl⟩ => hd.nx _ _ h _ _ _ Stp.refl R
  · cases c
theorem ss_doc : SdS G k Γ .doc := .ofS _ (fun _ => rfl) fun X W0 S g e c => by
  unfold docS at c
  split at c
  · exact ps_imp ps_doc fun D σ H ⟨B, α, ρ, O, D0, E0, R, h, hd, hl⟩ => hd.nx _ _ h _ _ _ Stp.refl R
  · cases c
theorem ss_brk : SdS G k Γ .brk := .ofS _ (fun _ => rfl) fun X W0 S g e c => by
  unfold brkS at c
  split at c
  · exact ps_imp ps_break fun D σ H ⟨B, α, ρ, O, D0, E0, R, h, hd, hl⟩ => hd.bk _ _ h _ _ _ Stp.refl R
  · cases c
theorem ss_cnt : SdS G k Γ .cnt := .ofS _ (fun _ => rfl) fun X W0 S g e c => by
  unfold cntS at c
  split at c
  · exact ps_imp ps_continue fun D σ H ⟨B, α, ρ, O, D0, E0, R, h, hd, hl⟩ => hd.ct _ _ h _ _ _ Stp.refl R
  · cases c
theorem ss_nev : SdS G k Γ .nev := .ofS _ (fun _ => rfl) fun X W0 S g e c => ps_imp ps_never fun D σ H ⟨B, α, ρ, O, D0, E0, R, h, hd, hl⟩ => h
theorem ss_ret0 : SdS G k Γ .ret0 := .ofS _ (fun _ => rfl) fun X W0 S g e c => by
  unfold ret0S at c
  split at c
  · exact ps_imp ps_retN fun D σ H ⟨B, α, ρ, O, D0, E0, R, h, hd, hl⟩ => hd.rt _ _ h _ _ _ Stp.refl R.own (.d .non)
  · cases c
theorem nosw_none {e : Expr} {l : Nat} {env : Env} (h : noComp e = true) : swapsWith e none l env = pure false := by
  cases e <;> first | rfl | cases h
theorem nosw_sub {e o i : Expr} {p : Pos} {l : Nat} {env : Env} (h : noComp e = true) : swapsWithSole [.Subscript o i p] e l env = pure false := by
  cases e <;> first | rfl | cases h
theorem nosw_tup {e : Expr} {ts : List Expr} {kk : Nat} {p : Pos} {l : Nat} {env : Env} : swapsWithSole [.Tuple ts kk p] e l env = pure false := by
  cases e <;> rfl
theorem sws_sub {e o i : Expr} {p : Pos} {env : Env} : swappedStores [.Subscript o i p] e env = pure none := by
  cases e <;> rfl
theorem ss_ex {y : Y} : SdS G k Γ (.ex y) := .ofS _ (fun _ => rfl) fun X W0 S g e c => by
  unfold exS at c
  split at c
  · obtain ⟨c1, c2⟩ := ba c
    refine ps_imp (ps_expr ((sd_all y).E X W0 S g.toGood _ c2) (nosw_none c1)) fun D σ H ⟨B, α, ρ, O, D0, E0, R, h, hd, hl⟩ => ?_
    exact seqE R h hl fun u O1 f α1 v H1 s1 w1 a1 => hd.nx _ _ f _ _ _ s1 (R.stp s1 w1)
  · cases c
theorem ss_ret {y : Y} : SdS G k Γ (.ret y) := .ofS _ (fun _ => rfl) fun X W0 S g e c => by
  unfold retS at c
  split at c
  · refine ps_imp (ps_ret ((sd_all y).E X W0 S g.toGood _ c)) fun D σ H ⟨B, α, ρ, O, D0, E0, R, h, hd, hl⟩ => ?_
    exact seqE R h hl fun u O1 f α1 v H1 s1 w1 a1 => hd.rt _ _ f _ _ _ s1 w1 a1
  · cases c
theorem ss_ite {c : Y} {a b : YS} (da : SdS G k Γ a) (db : SdS G k Γ b) : SdS G k Γ (.ite c a b) := .ofS _ (fun _ => rfl) fun X W0 S g e ch => by
  unfold iteS at ch
  split at ch
  · obtain ⟨ch, c3⟩ := ba ch
    obtain ⟨c1, c2⟩ := ba ch
    refine ps_imp (ps_if ((sd_all c).T X W0 S g.toGood _ c1) (da.B X W0 S g _ c2) (db.B X W0 S g _ c3)) fun D σ H ⟨B, α, ρ, O, D0, E0, R, h, hd, hl⟩ => ?_
    refine seqT R h hl fun t O1 f α1 H1 s1 w1 => ?_
    cases t with
    | true => rw [if_pos rfl]; exact ⟨B, α1, ρ, O1, D0, E0, R.stp s1 w1, f.1 rfl, hd.stp s1, hl.stp s1⟩
    | false => rw [if_neg (by decide)]; exact ⟨B, α1, ρ, O1, D0, E0, R.stp s1 w1, f.2 rfl, hd.stp s1, hl.stp s1⟩
  · cases ch
end
end Z

set_option Elab.async false
set_option linter.all false
set_option maxRecDepth 100000
set_option maxHeartbeats 4000000
namespace Z
open PySem PySem.Spec PyProof.Rows L2
theorem nosw_name {e : Expr} {x : Str} {px : Pos} {l : Nat} {env : Env} (h : noswC env.scope x px e = true) : swapsWith e (some (.Name x px)) l env = pure false := by
  cases e with
  | ListComp elt gs scope pos =>
    have e1 : swapsWith (.ListComp elt gs scope pos) (some (.Name x px)) l env = pure (env.blockKind == .function && env.kindOf x == some .local && px.line == pos.line && !(scope.names.any fun (n, k) => n == x && (k == .local || k == .cell))) := rfl
    rw [e1]
    congr 1
    have h' : (!(px.line == pos.line) || decide (env.scope.names.lookup x ≠ some .local) || (scope.names.any fun (n, k) => n == x && (k == .local || k == .cell))) = true := h
    rw [Bool.or_eq_true, Bool.or_eq_true] at h'
    rcases h' with (h' | h') | h'
    · have : (px.line == pos.line) = false := by simpa using h'
      rw [this, Bool.and_false, Bool.false_and]
    · have h2 := of_decide_eq_true h'
      have : (env.kindOf x == some .local) = false := by
        show (env.scope.names.lookup x == some .local) = false
        exact beq_eq_false_iff_ne.mpr h2
      rw [this, Bool.and_false, Bool.false_and, Bool.false_and]
    · rw [h', Bool.not_true, Bool.and_false]
  | SetComp _ _ _ _ => cases h
  | DictComp _ _ _ _ _ => cases h
  | _ => rfl
theorem sws_noTup {e : Expr} {ts : List Expr} {kk : Nat} {p : Pos} {env : Env} (h : noTup e = true) : swappedStores [.Tuple ts kk p] e env = pure none := by
  cases e <;> first | rfl | cases h
def nms (env : Env) (ts : List Expr) : List Str := ts.filterMap fun
    | .Name id pos => if (env.kindOf id == some .local && pos.line == ((ts.head?.map (·.pos.line)).getD 0)) = true then some id else none
    | _ => none
theorem sws_eq {ts vs : List Expr} {kk k2 : Nat} {p p2 : Pos} {env : Env} : ∃ X, swappedStores [.Tuple ts kk p] (.Tuple vs k2 p2) env =
    if (!(ts.length == 2 || ts.length == 3) || vs.length != ts.length || env.blockKind != .function) = true then pure none else
    if (vs.any fun | .Starred .. => true | _ => false) = true then pure none else
    if ((nms env ts).length != ts.length || (nms env ts).eraseDups.length != (nms env ts).length) = true then pure none else
    if (vs.all (foldedForSure 8)) = true then pure none else
    if (vs.all (constantsAlone 8)) = true then X else
    pure (some (nms env ts)) := ⟨_, rfl⟩
theorem fm_lt {α β : Type} {f : α → Option β} : ∀ {l : List α} {a : α}, a ∈ l → f a = none → (l.filterMap f).length < l.length
  | x :: l, a, hm, hf => by
    rcases List.mem_cons.mp hm with rfl | hm
    · rw [List.filterMap_cons_none hf, List.length_cons]
      exact Nat.lt_succ_of_le (List.length_filterMap_le f l)
    · have ih := fm_lt hm hf
      rw [List.length_cons]
      cases q : f x with
      | none => rw [List.filterMap_cons_none q]; omega
      | some y => rw [List.filterMap_cons_some q, List.length_cons]; omega
theorem sws_tup {e : Expr} {ts : List Expr} {kk : Nat} {p : Pos} {env : Env} (h : (noTup e || nosw2 env.scope ts) = true) : swappedStores [.Tuple ts kk p] e env = pure none := by
  rw [Bool.or_eq_true] at h
  rcases h with h | h
  · exact sws_noTup h
  · by_cases hn : noTup e = true
    · exact sws_noTup hn
    · cases e with
      | Tuple vs k2 p2 =>
        obtain ⟨X, e1⟩ := @sws_eq ts vs kk k2 p p2 env
        rw [e1]
        by_cases c1 : (!(ts.length == 2 || ts.length == 3) || vs.length != ts.length || env.blockKind != .function) = true
        · rw [if_pos c1]
        · rw [if_neg c1]
          by_cases c2 : (vs.any fun | .Starred .. => true | _ => false) = true
          · rw [if_pos c2]
          · rw [if_neg c2, if_pos]
            unfold nosw2 at h
            rw [Bool.or_eq_true] at h
            rcases h with h | h
            · obtain ⟨t, hm, ht⟩ := List.any_eq_true.mp h
              rw [Bool.or_eq_true]
              left
              have : (nms env ts).length < ts.length := by
                refine fm_lt hm ?_
                cases t with
                | Name x px =>
                  have h2 : (env.kindOf x == some .local) = false := beq_eq_false_iff_ne.mpr (of_decide_eq_true ht)
                  show (if (env.kindOf x == some .local && _) = true then some x else none) = none
                  rw [h2, Bool.false_and, if_neg (by decide)]
                | _ => rfl
              exact bne_iff_ne.mpr (Nat.ne_of_lt this)
            · exact absurd (by rw [h]; rfl) c1
      | _ => exact absurd rfl hn
theorem nms_loc {env : Env} {l : Nat} : ∀ {xs : List (Str × Pos)}, (∀ p ∈ xs, env.scope.names.lookup p.1 = some .local ∧ (p.2.line == l) = true) → (xs.filterMap fun p => if (env.kindOf p.1 == some .local && p.2.line == l) = true then some p.1 else none) = xs.map (·.1)
  | [], _ => rfl
  | p :: xs, h => by
    obtain ⟨h1, h2⟩ := h p List.mem_cons_self
    have h3 : (env.kindOf p.1 == some .local) = true := beq_iff_eq.mpr h1
    rw [List.filterMap_cons_some (b := p.1) (by rw [h3, h2]; rfl), nms_loc fun q hq => h q (List.mem_cons_of_mem _ hq)]
    rfl
theorem sws_par {x y : Str} {px py : Pos} {a b : Expr} {kk k2 : Nat} {p p2 : Pos} {env : Env} (hk : env.scope.kind = .function) (hx : env.scope.names.lookup x = some .local) (hy : env.scope.names.lookup y = some .local) (hl : (px.line == py.line) = true) (hne : x ≠ y)
    (ha : noStar a = true) (hb : noStar b = true) (hf : (foldedForSure 8 a && foldedForSure 8 b) = false) (hc : (constantsAlone 8 a && constantsAlone 8 b) = false) :
    swappedStores [.Tuple [.Name x px, .Name y py] kk p] (.Tuple [a, b] k2 p2) env = pure (some [x, y]) := by
  obtain ⟨X, e1⟩ := @sws_eq [.Name x px, .Name y py] [a, b] kk k2 p p2 env
  have hn : nms env [.Name x px, .Name y py] = [x, y] := by
    have h3 : (env.kindOf x == some .local) = true := beq_iff_eq.mpr hx
    have h4 : (env.kindOf y == some .local) = true := beq_iff_eq.mpr hy
    have hl' : (py.line == px.line) = true := by rw [beq_iff_eq] at hl ⊢; exact hl.symm
    unfold nms
    rw [List.filterMap_cons_some (b := x) (by show (if (env.kindOf x == some .local && px.line == px.line) = true then some x else none) = some x; rw [h3]; simp), List.filterMap_cons_some (b := y) (by show (if (env.kindOf y == some .local && py.line == px.line) = true then some y else none) = some y; rw [h4, hl']; rfl)]
    rfl
  have hbk : env.blockKind = .function := by unfold Env.blockKind; rw [hk]; rfl
  have star : ∀ {e : Expr}, noStar e = true → (match e with | .Starred .. => true | _ => false) = false := fun {e} h => by cases e <;> first | rfl | cases h
  rw [e1, if_neg (by rw [hbk]; show ¬ (false = true); decide), if_neg, hn, if_neg, if_neg, if_neg]
  · simp only [List.all_cons, List.all_nil, Bool.and_true]; rw [hc]; decide
  · simp only [List.all_cons, List.all_nil, Bool.and_true]; rw [hf]; decide
  · have : [x, y].eraseDups = [x, y] := by
      have h2 : (y == x) = false := beq_eq_false_iff_ne.mpr (Ne.symm hne)
      simp [List.eraseDups_cons, h2]
    rw [this]
    show ¬ (false = true)
    decide
  · simp only [List.any_cons, List.any_nil]
    have h1 := star ha
    have h2 := star hb
    simp only [Bool.or_false, Bool.or_eq_true, not_or]
    exact ⟨by rw [Bool.not_eq_true]; exact h1, by rw [Bool.not_eq_true]; exact h2⟩
theorem sws_par3 {x y z : Str} {px py pz : Pos} {a b c : Expr} {kk k2 : Nat} {p p2 : Pos} {env : Env} (hk : env.scope.kind = .function) (hx : env.scope.names.lookup x = some .local) (hy : env.scope.names.lookup y = some .local) (hz : env.scope.names.lookup z = some .local) (hl : (px.line == py.line) = true) (hl2 : (px.line == pz.line) = true) (hne : x ≠ y ∧ x ≠ z ∧ y ≠ z)
    (ha : noStar a = true) (hb : noStar b = true) (hcs : noStar c = true) (hf : (foldedForSure 8 a && foldedForSure 8 b && foldedForSure 8 c) = false) (hc : (constantsAlone 8 a && constantsAlone 8 b && constantsAlone 8 c) = false) :
    swappedStores [.Tuple [.Name x px, .Name y py, .Name z pz] kk p] (.Tuple [a, b, c] k2 p2) env = pure (some [x, y, z]) := by
  obtain ⟨X, e1⟩ := @sws_eq [.Name x px, .Name y py, .Name z pz] [a, b, c] kk k2 p p2 env
  have hn : nms env [.Name x px, .Name y py, .Name z pz] = [x, y, z] := by
    have h3 : (env.kindOf x == some .local) = true := beq_iff_eq.mpr hx
    have h4 : (env.kindOf y == some .local) = true := beq_iff_eq.mpr hy
    have h5 : (env.kindOf z == some .local) = true := beq_iff_eq.mpr hz
    have hl' : (py.line == px.line) = true := by rw [beq_iff_eq] at hl ⊢; exact hl.symm
    have hl3 : (pz.line == px.line) = true := by rw [beq_iff_eq] at hl2 ⊢; exact hl2.symm
    unfold nms
    rw [List.filterMap_cons_some (b := x) (by show (if (env.kindOf x == some .local && px.line == px.line) = true then some x else none) = some x; rw [h3]; simp), List.filterMap_cons_some (b := y) (by show (if (env.kindOf y == some .local && py.line == px.line) = true then some y else none) = some y; rw [h4, hl']; rfl), List.filterMap_cons_some (b := z) (by show (if (env.kindOf z == some .local && pz.line == px.line) = true then some z else none) = some z; rw [h5, hl3]; rfl)]
    rfl
  have hbk : env.blockKind = .function := by unfold Env.blockKind; rw [hk]; rfl
  have star : ∀ {e : Expr}, noStar e = true → (match e with | .Starred .. => true | _ => false) = false := fun {e} h => by cases e <;> first | rfl | cases h
  rw [e1, if_neg (by rw [hbk]; show ¬ (false = true); decide), if_neg, hn, if_neg, if_neg, if_neg]
  · simp only [List.all_cons, List.all_nil, Bool.and_true]; rw [← Bool.and_assoc, hc]; decide
  · simp only [List.all_cons, List.all_nil, Bool.and_true]; rw [← Bool.and_assoc, hf]; decide
  · have : [x, y, z].eraseDups = [x, y, z] := by
      have h1 : (y == x) = false := beq_eq_false_iff_ne.mpr (Ne.symm hne.1)
      have h2 : (z == x) = false := beq_eq_false_iff_ne.mpr (Ne.symm hne.2.1)
      have h3 : (z == y) = false := beq_eq_false_iff_ne.mpr (Ne.symm hne.2.2)
      simp [List.eraseDups_cons, h1, h2, h3]
    rw [this]
    show ¬ (false = true)
    decide
  · simp only [List.any_cons, List.any_nil]
    have h1 := star ha
    have h2 := star hb
    have h3 := star hcs
    simp only [Bool.or_false, Bool.or_eq_true, not_or]
    exact ⟨by rw [Bool.not_eq_true]; exact h1, by rw [Bool.not_eq_true]; exact h2, by rw [Bool.not_eq_true]; exact h3⟩

section
variable {G : Gx} {k : Nat} {Γ : List (Str × ZSp)}
theorem bnot {b : Bool} (h : (!b) = true) : b = false := by cases b <;> first | rfl | cases h
theorem kind_of_swC {sc : Scope} {x : Str} {px : Pos} {e : Expr} (h : swC sc x px e = true) : ∃ elt gs scope pos, e = .ListComp elt gs scope pos ∧ (px.line == pos.line) = true ∧ sc.names.lookup x = some .local ∧ (scope.names.any fun (n, k) => n == x && (k == .local || k == .cell)) = false ∧ sc.kind = .function := by
  cases e with
  | ListComp elt gs scope pos =>
    have h' : ((px.line == pos.line) && decide (sc.names.lookup x = some .local) && !(scope.names.any fun (n, k) => n == x && (k == .local || k == .cell)) && (match sc.kind with | .function => true | _ => false)) = true := h
    obtain ⟨h', h4⟩ := ba h'
    obtain ⟨h', h3⟩ := ba h'
    obtain ⟨h1, h2⟩ := ba h'
    refine ⟨elt, gs, scope, pos, rfl, h1, of_decide_eq_true h2, by simpa using h3, ?_⟩
    cases q : sc.kind <;> rw [q] at h4 <;> first | rfl | cases h4
  | _ => cases h
theorem ss_set (i : Nat) (y : Y) : SdS G k Γ (.set i y) := .ofS _ (fun _ => rfl) fun X W0 S g e c => by
  unfold setS at c
  split at c
  · rename_i x px e sp
    obtain ⟨c, c3⟩ := ba c
    obtain ⟨c1, c2⟩ := ba c
    obtain ⟨l, hf⟩ := g.sto x c2
    have hi : X.N[i]? = some x := by rw [g.hN]; exact of_decide_eq_true c1
    have low : ∀ D σ H, LfS G W0 (vcS Γ (.set i y)) D σ H → tAsg (LfE G W0 (vc Γ y)) (gName i) D σ H := fun D σ H ⟨B, α, ρ, O, D0, E0, R, h, hd, hl⟩ => by
      exact seqE R h hl fun u O1 f α1 v H1 s1 w1 a1 => hd.nx _ _ f _ _ _ s1 ((R.stp s1 w1).st i a1)
    rw [Bool.or_eq_true] at c3
    rcases c3 with c3 | c3
    · obtain ⟨c3, c4⟩ := ba c3
      exact ps_imp (ps_set g.nd hi l ((sd_all y).E X W0 S g.toGood _ c3) (nosw_name (by rw [g.sc]; exact c4)) hf) low
    · obtain ⟨c3, c4⟩ := ba c3
      cases y with
      | comp own vs tg src tst elt =>
        obtain ⟨e0, t, it, ifs, scope, pos, wi, gg, tt, te, rfl, pi, ok, hg, ht, he, hs, imp⟩ := comp_ex own vs tg (sd_all src) (sd_all tst) (sd_all elt) (by
          intro h
          cases tst <;> first | rfl | cases h) g.toGood c3
        obtain ⟨elt', gs', scope', pos', e1, h1, h2, h3, h4⟩ := kind_of_swC c4
        cases e1
        rw [← g.sc] at h2 h4
        exact ps_imp (ps_setLc g.calm g.nd hi h2 (sw_true h4 h2 h1 h3) pi ok hg ht he hs) fun D σ H h => imp _ _ _ (low D σ H h)
      | _ => cases c3
  · cases c
theorem ss_tgt (t : T1) (y : Y) : SdS G k Γ (.tgt t y) := .ofS _ (fun _ => rfl) fun X W0 S g e c => by
  unfold tgtS at c
  split at c
  · obtain ⟨c, c3⟩ := ba c
    obtain ⟨c1, c2⟩ := ba c
    refine ps_imp (ps_asg ((sd_all y).E X W0 S g.toGood _ c2) (sd_tg g.toGood c1) nosw_tup (sws_tup (by rw [g.sc]; exact c3)) rfl) fun D σ H ⟨B, α, ρ, O, D0, E0, R, h, hd, hl⟩ => ?_
    refine seqE R h hl fun u O1 f α1 v H1 s1 w1 a1 => ?_
    obtain ⟨d, e1, f⟩ := toK_of f
    exact ⟨B, α1, O1, ρ, d, _, R.stp s1 w1, At.of w1 a1 e1, f, fun ρ' q σ' R' _ _ => hd.nx _ _ q _ _ _ s1 R'⟩
  · cases c
theorem ss_par (i j : Nat) (es : Y) : SdS G k Γ (.par i j es) := .ofS _ (fun _ => rfl) fun X W0 S g e c => by
  unfold parS at c
  split at c
  · obtain ⟨c, c12⟩ := ba c
    obtain ⟨c, c11⟩ := ba c
    obtain ⟨c, c10⟩ := ba c
    obtain ⟨c, c9⟩ := ba c
    obtain ⟨c, c8⟩ := ba c
    obtain ⟨c, c7⟩ := ba c
    obtain ⟨c, c6⟩ := ba c
    obtain ⟨c, c5⟩ := ba c
    obtain ⟨c, c4⟩ := ba c
    obtain ⟨c, c3⟩ := ba c
    obtain ⟨c1, c2⟩ := ba c
    have hx := of_decide_eq_true c4
    have hy := of_decide_eq_true c5
    rw [← g.sc] at hx hy
    refine ps_imp (ps_par g.calm g.nd (by rw [g.hN]; exact of_decide_eq_true c1) (by rw [g.hN]; exact of_decide_eq_true c2) (of_decide_eq_true c3) hx hy ((sd_all es).A X W0 S g.toGood _ c12) (sws_par g.fk hx hy c6 (of_decide_eq_true c7) c8 c9 (bnot c10) (bnot c11))) fun D σ H ⟨B, α, ρ, O, D0, E0, R, h, hd, hl⟩ => ?_
    refine seqA R h hl fun us O1 f α1 vs H1 s1 w1 a1 => ?_
    split at f
    · cases a1 with
      | cons a r => cases r with
        | cons a2 r => cases r with
          | nil => exact ⟨_, _, rfl, hd.nx _ _ f _ _ _ s1 (((R.stp s1 w1).st i a).st j a2)⟩
    · exact f.elim
  · cases c
theorem ss_par3 (i j l : Nat) (es : Y) : SdS G k Γ (.par3 i j l es) := .ofS _ (fun _ => rfl) fun X W0 S g e c => by
  unfold par3S at c
  split at c
  · obtain ⟨c, c16⟩ := ba c
    obtain ⟨c, c15⟩ := ba c
    obtain ⟨c, c14⟩ := ba c
    obtain ⟨c, c13⟩ := ba c
    obtain ⟨c, c12⟩ := ba c
    obtain ⟨c, c11⟩ := ba c
    obtain ⟨c, c10⟩ := ba c
    obtain ⟨c, c9⟩ := ba c
    obtain ⟨c, c8⟩ := ba c
    obtain ⟨c, c7⟩ := ba c
    obtain ⟨c, c6⟩ := ba c
    obtain ⟨c, c5⟩ := ba c
    obtain ⟨c, c4⟩ := ba c
    obtain ⟨c, c3⟩ := ba c
    obtain ⟨c1, c2⟩ := ba c
    have hx := of_decide_eq_true c5
    have hy := of_decide_eq_true c6
    have hz := of_decide_eq_true c7
    rw [← g.sc] at hx hy hz
    obtain ⟨n1, n2, n3⟩ := of_decide_eq_true c4
    refine ps_imp (ps_par3 g.calm g.nd (by rw [g.hN]; exact of_decide_eq_true c1) (by rw [g.hN]; exact of_decide_eq_true c2) (by rw [g.hN]; exact of_decide_eq_true c3) n1 n2 n3 hx hy hz ((sd_all es).A X W0 S g.toGood _ c16) (sws_par3 g.fk hx hy hz c8 c9 (of_decide_eq_true c10) c11 c12 c13 (bnot c14) (bnot c15))) fun D σ H ⟨B, α, ρ, O, D0, E0, R, h, hd, hl⟩ => ?_
    refine seqA R h hl fun us O1 f α1 vs H1 s1 w1 a1 => ?_
    split at f
    · cases a1 with
      | cons a r => cases r with
        | cons a2 r => cases r with
          | cons a3 r => cases r with
            | nil => exact ⟨_, _, _, rfl, hd.nx _ _ f _ _ _ s1 ((((R.stp s1 w1).st i a).st j a2).st l a3)⟩
    · exact f.elim
  · cases c
theorem asg_sub {o i : Expr} {pos : Pos} {env : Env} (h : noSlice i = true) (v : Value) : assign (.Subscript o i pos) env v = (do
      let ov ← holding [v] (eval o env)
      let iv ← holding [v, ov] (eval i env)
      standAt pos
      holding [v, ov, iv] (setItem ov iv v)
      release [v, ov, iv] []) := by
  cases i <;> first | rfl | cases h
theorem ss_seti (o ix y : Y) : SdS G k Γ (.seti o ix y) := .ofS _ (fun _ => rfl) fun X W0 S g e c => by
  unfold setiS at c
  split at c
  · obtain ⟨c, c5⟩ := ba c
    obtain ⟨c, c4⟩ := ba c
    obtain ⟨c, c3⟩ := ba c
    obtain ⟨c1, c2⟩ := ba c
    refine ps_imp (ps_asg ((sd_all y).E X W0 S g.toGood _ c3) (pg_sub ((sd_all o).E X W0 S g.toGood _ c1) ((sd_all ix).E X W0 S g.toGood _ c2) set_list (asg_sub c4)) (nosw_sub c5) sws_sub rfl) fun D σ H ⟨B, α, ρ, O, D0, E0, R, h, hd, hl⟩ => ?_
    refine seqE R h hl fun u O1 f α1 v H1 s1 w1 a1 => ?_
    refine seqE (R.stp s1 w1) f (hl.stp s1) fun r O2 f2 α2 v2 H2 s2 w2 a2 => ?_
    refine seqE ((R.stp s1 w1).stp s2 w2) f2 ((hl.stp s1).stp s2) fun kx O3 f3 α3 v3 H3 s3 w3 a3 => ?_
    split at f3
    · rename_i k' i'
      rw [go_eq] at f3
      cases q : O3[k']? with
      | none => rw [q] at f3; exact f3.elim
      | some oo =>
        rw [q] at f3
        cases oo with
        | frz _ => exact f3.elim
        | brw _ => exact f3.elim
        | lst ds =>
          obtain ⟨x, e1, j, e2, f3⟩ := toK_of f3
          cases (s3.atU a2) with
          | @o _ a ek =>
          cases a3 with
          | d a3 =>
          cases a3
          obtain ⟨vs, e4, r4⟩ := w3.at_ k' a _ ek q
          have ax := At.of w3 ((s2.trans s3).atU a1) e1
          rw [so_eq] at f3
          have S3 := (s1.trans s2).trans s3
          refine ⟨a, vs, i', j, rfl, rfl, e4, by rw [r4.length]; exact e2, ?_⟩
          have s5 : Stp α3 O3 H3 α3 (O3.set k' (.lst (ds.set j x))) (upd H3 a (.lst (vs.set j v))) := stp_set ek q rfl
          exact hd.nx _ _ f3 _ _ _ (S3.trans s5) ((R.stp S3 w3).stp s5 (own_set w3 ek q (r4.set ax j)))
    · exact f3.elim
  · cases c
theorem AtU.unb {B : Addr → Prop} {α : List Addr} {O O2 : List DO} {H : Hp} (h : ∀ b, Mu B α O2 b → Mu B α O b) {v : V} {u : U} (a : AtU G.K B α O H v u) : AtU G.K B α O2 H v u := a.later (fun _ _ z => z) fun b o m e _ => ⟨e, fun z => m (h b z)⟩
theorem ss_for (t : T1) (src : Y) {b : YS} (db : SdS G k Γ b) : SdS G k Γ (.for_ t src b) := .ofS _ (fun _ => rfl) fun X W0 S g e c => by
  unfold forS at c
  split at c
  · obtain ⟨c, c4⟩ := ba c
    obtain ⟨c, c3⟩ := ba c
    obtain ⟨c1, c2⟩ := ba c
    refine ps_imp (ps_for g.po g.calm ((sd_all src).I X W0 S g.toGood _ _ c2) (sd_tg g.toGood c1) (db.B X W0 S g _ c4) (folded_of c3)) fun D σ H ⟨B, α, ρ, O, D0, E0, R, h, hd, hl⟩ => ?_
    refine ⟨B, α, ρ, O, _, E0, R, h, fun us O1 q => ?_, hl⟩
    obtain ⟨xs, rfl, q⟩ := q
    refine ⟨xs, rfl, fun α1 H1 J s1 w1 wk => ?_⟩
    obtain ⟨Gd, Yy, wk, hwk⟩ := wk.ex
    refine for_it wk (fun i σ H => ∃ α2 ρ2 O2, Stp α1 O1 H1 α2 O2 H ∧ Rep G B α2 σ H ρ2 O2 ∧ forR t (vcS Γ b) E0 D0 O (xs.drop i) ρ2 O2) ?_ ?_ ?_ ?_
    · exact ⟨α1, ρ, O1, Stp.refl, R.stp s1 w1, q⟩
    · rintro i σ2 H2 hi ⟨α2, ρ2, O2, s2, R2, q2⟩
      exact (hwk _ _ _ _ (fun b m => by
        rcases m with m | m
        · exact .inl (.inl m)
        · rcases s2.new b m with z | z
          · exact .inl (.inr z)
          · exact .inr z) (fun b o e m n => s2.keep b o e m n) R2.own).1
    · rintro i x σ2 H2 H3 hi ⟨α2, ρ2, O2, s2, R2, q2⟩ y
      obtain ⟨d, ed, hH3, ax⟩ := (hwk _ _ _ _ (fun b m => by
        rcases m with m | m
        · exact .inl (.inl m)
        · rcases s2.new b m with z | z
          · exact .inl (.inr z)
          · exact .inr z) (fun b o e m n => s2.keep b o e m n) R2.own).2 i x H3 hi y
      have st3 : Stp α2 O2 H2 α2 O2 H3 ∧ Own G B α2 O2 H3 := by
        rcases hH3 with rfl | ⟨p, vs, hp, rfl⟩
        · exact ⟨Stp.refl, R2.own⟩
        · exact ⟨stp_new hp, own_new R2.own hp⟩
      obtain ⟨s3, w3⟩ := st3
      have hdrop : xs.drop i = d :: xs.drop (i + 1) := by
        obtain ⟨hlt, ed⟩ := List.getElem?_eq_some_iff.mp ed
        rw [← ed]
        exact List.drop_eq_getElem_cons hlt
      rw [hdrop, forR] at q2
      have S03 := s1.trans (s2.trans s3)
      refine ⟨B, α2, O2, ρ2, d, _, R2.stp s3 w3, ax, q2, fun ρ3 q3 σ3 R3 _ _ => ?_⟩
      refine ⟨B, α2, ρ3, O2, _, _, R3, q3, ⟨fun ρ' O' e α' σ' H' s' R' => ⟨α', ρ', O', (s2.trans s3).trans s', R', e⟩, fun u O' e α' v H' s' w' a' => ?_, fun ρ' O' e α' σ' H' s' R' => ?_, fun ρ' O' e α' σ' H' s' R' => ⟨α', ρ', O', (s2.trans s3).trans s', R', e⟩⟩, fun x O' e α' cls dd H' s' w' ex => ?_⟩
      · obtain ⟨z1, z2, z3⟩ := unb_ok (S03.trans s') R.own w'
        exact hd.rt _ _ e _ _ _ z1 z2 (a'.unb z3)
      · obtain ⟨z1, z2, z3⟩ := unb_ok (S03.trans s') R.own R'.own
        exact hd.nx _ _ e _ _ _ z1 ⟨fun j u e => let ⟨v, h1, h2⟩ := R'.vars j u e; ⟨v, h1, h2.unb z3⟩, z2, R'.len⟩
      · obtain ⟨z1, z2, z3⟩ := unb_ok (S03.trans s') R.own w'
        obtain ⟨h1, dx, fs, h2, h3, h4, h5, h6⟩ := ex
        exact hl _ _ e _ _ _ _ z1 z2 ⟨h1, dx, fs, h2, h3, fun m => h4 (z3 _ m), h5, h6.less z3⟩
    · rintro σ2 H2 ⟨α2, ρ2, O2, s2, R2, q2⟩
      rw [List.drop_length, forR] at q2
      obtain ⟨z1, z2, z3⟩ := unb_ok (s1.trans s2) R.own R2.own
      exact hd.nx _ _ q2 _ _ _ z1 ⟨fun j u e => let ⟨v, h1, h2⟩ := R2.vars j u e; ⟨v, h1, h2.unb z3⟩, z2, R2.len⟩
  · cases c
theorem ss_whl (c : Y) {b : YS} (db : SdS G k Γ b) : SdS G k Γ (.whl c b) := .ofS _ (fun _ => rfl) fun X W0 S g e ch => by
  unfold whlS at ch
  split at ch
  · obtain ⟨c1, c2⟩ := ba ch
    refine ps_imp (ps_while g.po ((sd_all c).T X W0 S g.toGood _ c1) (db.B X W0 S g _ c2)) fun D σ H ⟨B, α, ρ, O, D0, E0, R, ⟨W, ⟨m, h0⟩, hw⟩, hd, hl⟩ => ?_
    refine ⟨fun n σ H1 => ∃ α1 ρ1 O1, Stp α O H α1 O1 H1 ∧ Rep G B α1 σ H1 ρ1 O1 ∧ W n ρ1 O1, ⟨m, α, ρ, O, Stp.refl, R, h0⟩, ?_⟩
    rintro n σ1 H1 ⟨α1, ρ1, O1, s1, R1, w1⟩
    refine seqT R1 (hw n ρ1 O1 w1) (hl.stp s1) fun t O2 f α2 H2 s2 w2 => ?_
    cases t with
    | true =>
      rw [if_pos rfl]
      have s12 := s1.trans s2
      refine ⟨fun σ3 H3 => ∃ m', m' < n ∧ ∃ α1 ρ1 O1, Stp α O H α1 O1 H3 ∧ Rep G B α1 σ3 H3 ρ1 O1 ∧ W m' ρ1 O1, fun _ _ h => h, B, α2, ρ1, O2, _, E0, R1.stp s2 w2, f.1 rfl, ?_, hl.stp s12⟩
      exact ⟨fun ρ' O' ⟨m', hm, q⟩ α' σ' H' s R' => ⟨m', hm, α', ρ', O', s12.trans s, R', q⟩, fun u O' q α' v H' s w a => hd.rt _ _ q _ _ _ (s12.trans s) w a, fun ρ' O' q α' σ' H' s R' => hd.nx _ _ q _ _ _ (s12.trans s) R',
        fun ρ' O' ⟨m', hm, q⟩ α' σ' H' s R' => ⟨m', hm, α', ρ', O', s12.trans s, R', q⟩⟩
    | false =>
      rw [if_neg (by decide)]
      exact hd.nx _ _ (f.2 rfl) _ _ _ (s1.trans s2) (R1.stp s2 w2)
  · cases ch
theorem ss_all : ∀ z : YS, SdS G k Γ z
  | .nil => ss_nil
  | .seq a r => ss_seq (ss_all a) (ss_all r)
  | .pas => ss_pas
  | .doc => ss_doc
  | .ex _ => ss_ex
  | .set i y => ss_set i y
  | .tgt t y => ss_tgt t y
  | .par i j es => ss_par i j es
  | .par3 i j l es => ss_par3 i j l es
  | .seti o ix y => ss_seti o ix y
  | .ite _ a b => ss_ite (ss_all a) (ss_all b)
  | .for_ t src b => ss_for t src (ss_all b)
  | .whl c b => ss_whl c (ss_all b)
  | .ret _ => ss_ret
  | .ret0 => ss_ret0
  | .brk => ss_brk
  | .cnt => ss_cnt
  | .nev => ss_nev
end
end Z

set_option Elab.async false
set_option linter.all false
set_option maxRecDepth 100000
set_option maxHeartbeats 4000000
namespace Z
open PySem PySem.Spec PyProof.Rows L2
/-- the def x keeps the promise S, without a context -/
def FnT (P : Program) (w : World) (K : PySem.W.Frag) (mg : Str → Option Value) (base : Heap) (G : Gx) (k : Nat) (x : Str) (S : ZSp) : Prop :=
  ∃ f fd ps, mg x = some (.ref f) ∧ PySem.W.keepIn K (.ref f) = true ∧ FnOk P w K mg base (L2.CX P w) k f fd ps (lowSp G S) ∧ Binds K fd ps []
theorem FnT.mono {P : Program} {w : World} {K : PySem.W.Frag} {mg : Str → Option Value} {base : Heap} {G : Gx} {j k : Nat} {x : Str} {S : ZSp} (h : FnT P w K mg base G j x S) (l : j ≤ k) : FnT P w K mg base G k x S :=
  let ⟨f, fd, ps, h1, h2, h3, h4⟩ := h; ⟨f, fd, ps, h1, h2, h3.mono l, h4⟩
/-- the body does as the promise says -/
def Keeps (Γ : List (Str × ZSp)) (z : YS) (n : Nat) (S : ZSp) : Prop := ∀ us O Q E, S us O Q E →
  vcS Γ z E ⟨fun _ O' => Q (.d .non) O', Q, fun _ _ => False, fun _ _ => False⟩ (us.map some ++ List.replicate (n - us.length) none) O
/-- .. for a def that gives data alone: its own places are left behind -/
def KeepsD (Γ : List (Str × ZSp)) (z : YS) (n : Nat) (S : ZSp) : Prop := ∀ us O Q E, S us O Q E →
  vcS Γ z E ⟨fun _ O' => Q (.d .non) (O'.take O.length), fun u O' => ∃ x, u = .d x ∧ Q u (O'.take O.length), fun _ _ => False, fun _ _ => False⟩ (us.map some ++ List.replicate (n - us.length) none) O
theorem gt_start : ∀ {us : List U} {m i : Nat} {u : U}, gt (us.map some ++ List.replicate m none) i = some u → us[i]? = some u
  | [], 0, _, _, h => by cases h
  | [], m + 1, 0, _, h => by cases h
  | [], m + 1, i + 1, u, h => by
    have h' : gt (([] : List U).map some ++ List.replicate m none) i = some u := h
    have := gt_start h'
    simp at this
  | v :: us, m, 0, u, h => h
  | v :: us, m, i + 1, u, h => by
    have h' : gt (us.map some ++ List.replicate m none) i = some u := h
    have := gt_start h'
    simpa using this
theorem ownB_loc {sc : Scope} {x : Str} (h : ownB sc x = true) : Loc sc x := by
  unfold ownB at h
  split at h
  · exact .inl (by assumption)
  · exact .inr (by assumption)
  · cases h
section
variable {P : Program} {w : World} {K : PySem.W.Frag} {mg : Str → Option Value} {base : Heap} {G : Gx} {k : Nat}
theorem fnOk_of {x qual : Str} {params : Arguments} {body : List Stmt} {scope : Scope} {kws : List (Str × V)} {dvs : List V} {f : Addr} {fd : FuncData} {N ps : List Str} {Γ : List (Str × ZSp)} {z : YS} {S : ZSp} (F : FunD K x qual params body scope dvs kws f fd) (hK : K = G.K)
    (hS : C8.scC N ps scope = true) (hck : (ckS (Γ.map (·.1)) z ⟨N, scope, scope⟩).B body = true) (hfree : ∀ y ∈ bnames, mg y = none)
    (hfn : ∀ (i : Nat) (y : Str) (Q : ZSp), Γ[i]? = some (y, Q) → FnT P w K mg base G k y Q) (len : ∀ us O Q E, S us O Q E → us.length = ps.length) (spec : Keeps Γ z N.length S) : FnOk P w K mg base (L2.CX P w) (k + 1) f fd ps (lowSp G S) := by
  have fs := C8.fnScope_by hS
  refine F.ok fs (fun vs H Q E ⟨B, α, O, us, Q0, E0, ow, ha, h, hq, he⟩ => by rw [ha.length]; exact len _ _ _ _ h) fun cdv A outer s H vs Q E hr ⟨B, α, O, us, Q0, E0, ow, ha, h, hq, he⟩ => ?_
  have good : GoodS (cxOf (L2.CX P w) P w K mg base N qual scope f cdv A outer s H E) G E k ⟨N, scope, scope⟩ Γ := {
    hN := rfl
    nd := fs.nd
    sc := rfl
    calm := rfl
    hK := hK
    takes := takes_of rfl rfl rfl rfl
    room := hr
    fns := fun i y Q h => hfn i y Q h
    free := hfree
    sto := fun x h => ⟨ownB_loc h, .inl rfl⟩
    po := passes_of rfl
    fk := fs.kind }
  refine ⟨_, (ss_all z).B _ E _ good _ hck, B, α, _, O, _, E0, ⟨fun i u e => ?_, ow, ?_⟩, spec _ _ _ _ h, ⟨fun ρ' O' q α' σ' H' s R' => hq _ _ q _ _ _ s R'.own (.d .non), fun u O' q α' v H' s w a => hq _ _ q _ _ _ s w a, fun _ _ q => q.elim, fun _ _ q => q.elim⟩, he⟩
  · have e := gt_start e
    obtain ⟨v, e1, a1⟩ := ha.get e
    refine ⟨v, ?_, a1⟩
    unfold L2.start
    rw [List.getElem?_append_left (by rw [List.length_map]; exact (List.getElem?_eq_some_iff.mp e1).1), List.getElem?_map, e1]
    rfl
  · unfold L2.start
    rw [List.length_append, List.length_append, List.length_map, List.length_map, List.length_replicate, List.length_replicate, ha.length]
    exact Nat.le_refl _
theorem fnOkD_of {x qual : Str} {params : Arguments} {body : List Stmt} {scope : Scope} {kws : List (Str × V)} {dvs : List V} {f : Addr} {fd : FuncData} {N ps : List Str} {Γ : List (Str × ZSp)} {z : YS} {S : ZSp} (F : FunD K x qual params body scope dvs kws f fd) (hK : K = G.K)
    (hS : C8.scC N ps scope = true) (hck : (ckS (Γ.map (·.1)) z ⟨N, scope, scope⟩).B body = true) (hfree : ∀ y ∈ bnames, mg y = none)
    (hfn : ∀ (i : Nat) (y : Str) (Q : ZSp), Γ[i]? = some (y, Q) → FnT P w K mg base G k y Q) (len : ∀ us O Q E, S us O Q E → us.length = ps.length) (spec : KeepsD Γ z N.length S) : FnOk P w K mg base (L2.CX P w) (k + 1) f fd ps (lowSp G S) := by
  have fs := C8.fnScope_by hS
  refine F.ok fs (fun vs H Q E ⟨B, α, O, us, Q0, E0, ow, ha, h, hq, he⟩ => by rw [ha.length]; exact len _ _ _ _ h) fun cdv A outer s H vs Q E hr ⟨B, α, O, us, Q0, E0, ow, ha, h, hq, he⟩ => ?_
  have good : GoodS (cxOf (L2.CX P w) P w K mg base N qual scope f cdv A outer s H E) G E k ⟨N, scope, scope⟩ Γ := {
    hN := rfl
    nd := fs.nd
    sc := rfl
    calm := rfl
    hK := hK
    takes := takes_of rfl rfl rfl rfl
    room := hr
    fns := fun i y Q h => hfn i y Q h
    free := hfree
    sto := fun x h => ⟨ownB_loc h, .inl rfl⟩
    po := passes_of rfl
    fk := fs.kind }
  have cut : ∀ {x : D} {v : V} (O' : List DO), Q0 (.d x) (O'.take O.length) → ∀ α' H', Stp α O H α' O' H' → Own G B α' O' H' → AtU G.K B α' O' H' v (.d x) → Q v H' := fun {x v} O' q α' H' s w a => by
    have h1 := stp_take s ow
    have h2 := own_take w α.length
    rw [h1.2] at h2
    rw [← ow.len] at q
    cases a with
    | d a =>
      refine hq _ _ q _ _ _ h1.1 h2 (.d (a.less fun b m => ?_))
      rcases m with m | ⟨j, o, e1, e2, l⟩
      · exact .inl m
      · exact .inr ⟨j, o, s.idx e1, take_some e2, l⟩
  refine ⟨_, (ss_all z).B _ E _ good _ hck, B, α, _, O, _, E0, ⟨fun i u e => ?_, ow, ?_⟩, spec _ _ _ _ h, ⟨fun ρ' O' q α' σ' H' s R' => cut _ q _ _ s R'.own (.d .non), fun u O' ⟨x, e, q⟩ α' v H' s w a => by
      subst e
      cases a with
      | d a => exact cut _ q _ _ s w (.d a), fun _ _ q => q.elim, fun _ _ q => q.elim⟩, he⟩
  · have e := gt_start e
    obtain ⟨v, e1, a1⟩ := ha.get e
    refine ⟨v, ?_, a1⟩
    unfold L2.start
    rw [List.getElem?_append_left (by rw [List.length_map]; exact (List.getElem?_eq_some_iff.mp e1).1), List.getElem?_map, e1]
    rfl
  · unfold L2.start
    rw [List.length_append, List.length_append, List.length_map, List.length_map, List.length_replicate, List.length_replicate, ha.length]
    exact Nat.le_refl _
theorem fnT_of {x qual : Str} {params : Arguments} {body : List Stmt} {scope : Scope} {kws : List (Str × V)} {dvs : List V} {f : Addr} {fd : FuncData} {N ps : List Str} {Γ : List (Str × ZSp)} {z : YS} {S : ZSp} (F : FunD K x qual params body scope dvs kws f fd) (hK : K = G.K) (hm : mg x = some (.ref f)) (hb : Binds K fd ps [])
    (hS : C8.scC N ps scope = true) (hck : (ckS (Γ.map (·.1)) z ⟨N, scope, scope⟩).B body = true) (hfree : ∀ y ∈ bnames, mg y = none)
    (hfn : ∀ (i : Nat) (y : Str) (Q : ZSp), Γ[i]? = some (y, Q) → FnT P w K mg base G k y Q) (len : ∀ us O Q E, S us O Q E → us.length = ps.length) (spec : Keeps Γ z N.length S) : FnT P w K mg base G (k + 1) x S :=
  ⟨f, fd, ps, hm, F.kp, fnOk_of F hK hS hck hfree hfn len spec, hb⟩
theorem fnTD_of {x qual : Str} {params : Arguments} {body : List Stmt} {scope : Scope} {kws : List (Str × V)} {dvs : List V} {f : Addr} {fd : FuncData} {N ps : List Str} {Γ : List (Str × ZSp)} {z : YS} {S : ZSp} (F : FunD K x qual params body scope dvs kws f fd) (hK : K = G.K) (hm : mg x = some (.ref f)) (hb : Binds K fd ps [])
    (hS : C8.scC N ps scope = true) (hck : (ckS (Γ.map (·.1)) z ⟨N, scope, scope⟩).B body = true) (hfree : ∀ y ∈ bnames, mg y = none)
    (hfn : ∀ (i : Nat) (y : Str) (Q : ZSp), Γ[i]? = some (y, Q) → FnT P w K mg base G k y Q) (len : ∀ us O Q E, S us O Q E → us.length = ps.length) (spec : KeepsD Γ z N.length S) : FnT P w K mg base G (k + 1) x S :=
  ⟨f, fd, ps, hm, F.kp, fnOkD_of F hK hS hck hfree hfn len spec, hb⟩
/-- the law's own promise: one script, no places -/
def lawZ (n : Nat) : ZSp := fun us O Q _ => ∃ ns : List Int, us = [.d (.scr ns)] ∧ O = [] ∧ ns.length ≤ n ∧ ∀ O', Q (.d (.bl true)) O'
theorem lawZ_low {n : Nat} {H : Hp} {a : Addr} {ns : List Int} (hT : G.T = []) (hl : ns.length ≤ n) (hS : SqL G.K H a (ns.map V.int)) : lowSp G (lawZ n) [.ref a] H (fun v _ => v = .bl true) fun _ _ _ => False := by
  refine ⟨fun _ => False, [], [], [.d (.scr ns)], fun u _ => u = .d (.bl true), fun _ _ => False, ⟨rfl, List.nodup_nil, fun k a o e => by simp at e, fun _ z => z.elim, fun a _ z => z, by rw [hT]; intro p hp; cases hp⟩, .cons (.d ?_) .nil, ⟨ns, rfl, rfl, hl, fun _ => rfl⟩, fun u O' e α' v H' s w a => ?_, fun _ _ z => z.elim⟩
  · have hn : ¬ Mu (fun _ => False) [] [] a := fun m => m.elim id fun ⟨k, o, e, _⟩ => by simp at e
    rcases hS with h | h
    · exact .scr h hn
    · exact .scrK fun _ => .inr h
  · cases e
    cases a with
    | d a => cases a; rfl
end
end Z

set_option Elab.async false
set_option linter.all false
set_option maxRecDepth 100000
set_option maxHeartbeats 4000000
namespace Z
open PySem PySem.Spec PyProof.Rows L2
/-! ### steps of the reading, by cases -/
theorem nrm_d {O : List DO} {x : D} : nrm O (.d x) = some x := rfl
theorem toD_d {O : List DO} {x : D} : toD O (.d x) = some x := by rw [toD]
theorem nrK_d {O : List DO} {x : D} {k : D → Prop} : nrK O (.d x) k = k x := rfl
theorem toK_d {O : List DO} {x : D} {k : D → Prop} : toK O (.d x) k = k x := by unfold toK; rw [toD_d]
theorem nrK_lst {O : List DO} {i : Nat} {ds : List D} {k : D → Prop} (h : go O i = some (.lst ds)) : nrK O (.o i) k = k (.lst ds) := by simp only [nrK, nrm, h]
theorem nrK_lst0 {O : List DO} {ds : List D} {k : D → Prop} : nrK (.lst ds :: O) (.o 0) k = k (.lst ds) := rfl
theorem nrK_lst1 {O : List DO} {x : DO} {ds : List D} {k : D → Prop} : nrK (x :: .lst ds :: O) (.o 1) k = k (.lst ds) := rfl
theorem nrK_frz {O : List DO} {i : Nat} {ds : List D} {k : D → Prop} (h : go O i = some (.frz ds)) : nrK O (.o i) k = k (.lst ds) := by simp only [nrK, nrm, h]
theorem nrK_frz0 {O : List DO} {ds : List D} {k : D → Prop} : nrK (.frz ds :: O) (.o 0) k = k (.lst ds) := rfl
theorem nrK_frz1 {O : List DO} {x : DO} {ds : List D} {k : D → Prop} : nrK (x :: .frz ds :: O) (.o 1) k = k (.lst ds) := rfl
theorem nrK_brw {O : List DO} {i : Nat} {ds : List D} {k : D → Prop} (h : go O i = some (.brw ds)) : nrK O (.o i) k = k (.lst ds) := by simp only [nrK, nrm, h]
theorem nrK_brw0 {O : List DO} {ds : List D} {k : D → Prop} : nrK (.brw ds :: O) (.o 0) k = k (.lst ds) := rfl
theorem nrK_brw1 {O : List DO} {x : DO} {ds : List D} {k : D → Prop} : nrK (x :: .brw ds :: O) (.o 1) k = k (.lst ds) := rfl
theorem oneK_1 {u : U} {k : U → Prop} : oneK [u] k = k u := rfl
theorem boolK_1 {b : Bool} {k : Bool → Prop} : boolK [.d (.bl b)] k = k b := rfl
theorem nrs_nil {O : List DO} : nrs O [] = some [] := rfl
theorem nrs_d {O : List DO} {x : D} {us : List U} : nrs O (.d x :: us) = (nrs O us).map (x :: ·) := by
  rw [nrs, nrm_d]
  cases nrs O us <;> rfl
theorem toDs_nil {O : List DO} : toDs O [] = some [] := by rw [toDs]
theorem toDs_d {O : List DO} {x : D} {us : List U} : toDs O (.d x :: us) = (toDs O us).map (x :: ·) := by
  rw [toDs, toD_d]
  cases toDs O us <;> rfl
theorem nrsK_some {O : List DO} {us : List U} {ds : List D} {k : List D → Prop} (h : nrs O us = some ds) : nrsK O us k = k ds := by unfold nrsK; rw [h]
theorem tosK_some {O : List DO} {us : List U} {ds : List D} {k : List D → Prop} (h : toDs O us = some ds) : tosK O us k = k ds := by unfold tosK; rw [h]
theorem nrsK_1 {O : List DO} {x : D} {k : List D → Prop} : nrsK O [.d x] k = k [x] := rfl
theorem nrsK_2 {O : List DO} {x y : D} {k : List D → Prop} : nrsK O [.d x, .d y] k = k [x, y] := rfl
theorem nrsK_o {O : List DO} {i : Nat} {ds : List D} {k : List D → Prop} (h : nrm O (.o i) = some (.lst ds)) : nrsK O [.o i] k = k [.lst ds] := by unfold nrsK; rw [nrs, h]; rfl
theorem tosK_0 {O : List DO} {k : List D → Prop} : tosK O [] k = k [] := tosK_some toDs_nil
theorem tosK_1 {O : List DO} {x : D} {k : List D → Prop} : tosK O [.d x] k = k [x] := tosK_some (by simp [toDs_d, toDs_nil])
theorem tosK_2 {O : List DO} {x y : D} {k : List D → Prop} : tosK O [.d x, .d y] k = k [x, y] := tosK_some (by simp [toDs_d, toDs_nil])
theorem tosK_3 {O : List DO} {x y z : D} {k : List D → Prop} : tosK O [.d x, .d y, .d z] k = k [x, y, z] := tosK_some (by simp [toDs_d, toDs_nil])
theorem tosK_5 {O : List DO} {x y z a b : D} {k : List D → Prop} : tosK O [.d x, .d y, .d z, .d a, .d b] k = k [x, y, z, a, b] := tosK_some (by simp [toDs_d, toDs_nil])
theorem add_i {i j : Int} {Q : D → Prop} : binD .Add (.int i) (.int j) Q = Q (.int (i + j)) := rfl
theorem sub_i {i j : Int} {Q : D → Prop} : binD .Sub (.int i) (.int j) Q = Q (.int (i - j)) := rfl
theorem mul_i {i j : Int} {Q : D → Prop} : binD .Mult (.int i) (.int j) Q = (MulOk i j ∧ Q (.int (i * j))) := rfl
theorem div_i {i j : Int} {Q : D → Prop} : binD .FloorDiv (.int i) (.int j) Q = (DivOk j ∧ Q (.int (i.fdiv j))) := rfl
theorem mod_i {i j : Int} {Q : D → Prop} : binD .Mod (.int i) (.int j) Q = (j ≠ 0 ∧ Q (.int (i.fmod j))) := rfl
theorem pow_i {i j : Int} {Q : D → Prop} : binD .Pow (.int i) (.int j) Q = (CPow i j ∧ Q (.int (i ^ j.toNat))) := rfl
theorem eq_i {i j : Int} {Q : Bool → Prop} : cmpD .Eq (.int i) (.int j) Q = Q (decide (i = j)) := rfl
theorem ne_i {i j : Int} {Q : Bool → Prop} : cmpD .NotEq (.int i) (.int j) Q = Q (!(decide (i = j))) := rfl
theorem lt_i {i j : Int} {Q : Bool → Prop} : cmpD .Lt (.int i) (.int j) Q = Q (decide (i < j)) := rfl
theorem le_i {i j : Int} {Q : Bool → Prop} : cmpD .LtE (.int i) (.int j) Q = Q (decide (i ≤ j)) := rfl
theorem gt_i {i j : Int} {Q : Bool → Prop} : cmpD .Gt (.int i) (.int j) Q = Q (decide (i > j)) := rfl
theorem ge_i {i j : Int} {Q : Bool → Prop} : cmpD .GtE (.int i) (.int j) Q = Q (decide (i ≥ j)) := rfl
theorem len_l {ds : List D} {Q : D → Prop} : BF.op .len [.lst ds] Q = Q (.int ds.length) := rfl
theorem len_t {ds : List D} {Q : D → Prop} : BF.op .len [.tup ds] Q = Q (.int ds.length) := rfl
theorem abs_i {i : Int} {Q : D → Prop} : BF.op .abs [.int i] Q = Q (.int (i.natAbs : Nat)) := rfl
theorem int_i {i : Int} {Q : D → Prop} : BF.op .int [.int i] Q = Q (.int i) := rfl
theorem int_b {b : Bool} {Q : D → Prop} : BF.op .int [.bl b] Q = Q (.int (if b = true then 1 else 0)) := rfl
theorem list_l {ds : List D} {Q : D → Prop} : BF.op .list [.lst ds] Q = Q (.lst ds) := rfl
theorem list_t {ds : List D} {Q : D → Prop} : BF.op .list [.tup ds] Q = Q (.lst ds) := rfl
theorem tuple_l {ds : List D} {Q : D → Prop} : BF.op .tuple [.lst ds] Q = Q (.tup ds) := rfl
theorem tuple_t {ds : List D} {Q : D → Prop} : BF.op .tuple [.tup ds] Q = Q (.tup ds) := rfl
theorem ix_l {ds : List D} {i : Int} {Q : D → Prop} : ixD (.lst ds) (.int i) Q = ∃ d, atI ds i = some d ∧ Q d := rfl
theorem ix_t {ds : List D} {i : Int} {Q : D → Prop} : ixD (.tup ds) (.int i) Q = ∃ d, atI ds i = some d ∧ Q d := rfl
theorem ex_some {α : Type} {a : α} {P : α → Prop} : (∃ d, some a = some d ∧ P d) = P a := by
  refine propext ⟨?_, fun h => ⟨a, rfl, h⟩⟩
  rintro ⟨d, e, h⟩
  cases e
  exact h
theorem at_0 {α : Type} {a : α} {l : List α} : atI (a :: l) 0 = some a := by
  unfold atI ixN
  rw [if_pos (by decide), if_pos (by simp)]
  rfl
theorem at_1 {α : Type} {a b : α} {l : List α} : atI (a :: b :: l) 1 = some b := atI_nat (j := 1) rfl
theorem at_2 {α : Type} {a b c : α} {l : List α} : atI (a :: b :: c :: l) 2 = some c := atI_nat (j := 2) rfl
theorem at_3 {α : Type} {a b c d : α} {l : List α} : atI (a :: b :: c :: d :: l) 3 = some d := atI_nat (j := 3) rfl
theorem at_4 {α : Type} {a b c d e : α} {l : List α} : atI (a :: b :: c :: d :: e :: l) 4 = some e := atI_nat (j := 4) rfl
theorem ixN_nat {n j : Nat} (h : j < n) : ixN n (j : Int) = some j := by
  unfold ixN
  rw [if_pos (by omega), if_pos (by omega)]
  rfl
theorem ixN_0 {n : Nat} : ixN (n + 1) 0 = some 0 := ixN_nat (j := 0) (by omega)
theorem ixN_5 {i : Int} {a b c d e : D} (j : Nat) (h : i = j) (l : j < 5) : ixN [a, b, c, d, e].length i = some j := by rw [h]; exact ixN_nat l
theorem at_nat {α : Type} {l : List α} {j : Nat} (h : j < l.length) : atI l (j : Int) = some l[j] := atI_nat (List.getElem?_eq_getElem h)
theorem ix5_0 {α : Type} {a b c d e : α} : ixN [a, b, c, d, e].length 0 = some 0 := ixN_nat (j := 0) (by decide : 0 < 5)
theorem ix5_1 {α : Type} {a b c d e : α} : ixN [a, b, c, d, e].length 1 = some 1 := ixN_nat (j := 1) (by decide : 1 < 5)
theorem ix5_2 {α : Type} {a b c d e : α} : ixN [a, b, c, d, e].length 2 = some 2 := ixN_nat (j := 2) (by decide : 2 < 5)
theorem ix5_3 {α : Type} {a b c d e : α} : ixN [a, b, c, d, e].length 3 = some 3 := ixN_nat (j := 3) (by decide : 3 < 5)
theorem ix5_4 {α : Type} {a b c d e : α} : ixN [a, b, c, d, e].length 4 = some 4 := ixN_nat (j := 4) (by decide : 4 < 5)
theorem true_and' {p q : Prop} : ((true = true → p) ∧ (true = false → q)) = p := propext ⟨fun h => h.1 rfl, fun h => ⟨fun _ => h, fun z => by cases z⟩⟩
theorem false_and' {p q : Prop} : ((false = true → p) ∧ (false = false → q)) = q := propext ⟨fun h => h.2 rfl, fun h => ⟨fun z => (by cases z), fun _ => h⟩⟩
theorem dec_t {p : Prop} [Decidable p] {a b : Prop} (h : p) : ((decide p = true → a) ∧ (decide p = false → b)) = a := by rw [decide_eq_true h]; exact true_and'
theorem dec_f {p : Prop} [Decidable p] {a b : Prop} (h : ¬ p) : ((decide p = true → a) ∧ (decide p = false → b)) = b := by rw [decide_eq_false h]; exact false_and'
/-- two ways by a test -/
theorem way {p : Prop} [Decidable p] {a b : Prop} (h1 : p → a) (h2 : ¬ p → b) : (decide p = true → a) ∧ (decide p = false → b) := ⟨fun h => h1 (of_decide_eq_true h), fun h => h2 (of_decide_eq_false h)⟩
theorem wayN {p : Prop} [Decidable p] {a b : Prop} (h1 : ¬ p → a) (h2 : p → b) : ((!(decide p)) = true → a) ∧ ((!(decide p)) = false → b) :=
  ⟨fun h => h1 (of_decide_eq_false (by simpa using h)), fun h => h2 (by simpa using h)⟩
/-! ### calls -/
theorem lendU_d {O : List DO} : ∀ {ds : List D} {f : Bool} {j : Nat}, lendU O f (ds.map .d) j = some (ds.map .d, [], [])
  | [], _, _ => by rw [List.map_nil, lendU]
  | d :: ds, f, j => by
    have ih := @lendU_d O ds false j
    rw [List.map_cons, lendU]
    · simp only [toD_d, ih]
    · intro k z
      cases z
theorem mrg_nil {A O : List DO} : mrg [] [] A O = some (O ++ A) := by rw [mrg]
theorem shU_d {f : Nat → Nat} {d : D} : shU f (.d d) = .d d := by rw [shU]
theorem shU_o {f : Nat → Nat} {k : Nat} : shU f (.o k) = .o (f k) := by rw [shU]
/-- a call by data -/
theorem callD {P : ZSp} {O : List DO} {Q : U → List DO → Prop} {E : ZX} (ds : List D) (h : P (ds.map .d) [] (fun u O' => Q (shU (ren [] O.length) u) (O ++ O')) (fun x O' => E x ((O ++ O').take O.length))) : callZ P (ds.map .d) O Q E :=
  ⟨ds.map .d, [], [], lendU_d, List.nodup_nil, by simpa only [mrg_nil, ex_some'] using h⟩
where ex_some' : ∀ {α : Type} {a : α} {P : α → Prop}, (∃ d, some a = some d ∧ P d) = P a := ex_some
/-- .. that gives data alone -/
theorem callD0 {P : ZSp} {O : List DO} {Q : U → List DO → Prop} {E : ZX} (ds : List D) (h : ∀ F X, (∀ d, Q (.d d) O → F (.d d) []) → P (ds.map .d) [] F X) : callZ P (ds.map .d) O Q E :=
  callD ds (h _ _ fun d q => by
    show Q (shU _ (.d d)) (O ++ [])
    rw [shU_d, List.append_nil]
    exact q)
/-- the first argument is an owned list, the others are data; data comes back -/
theorem callO {P : ZSp} {O : List DO} {Q : U → List DO → Prop} {E : ZX} {k : Nat} {l : List D} (ds : List D) (e : go O k = some (.lst l)) (h : ∀ F X, (∀ d l', Q (.d d) (so O k (.lst l')) → F (.d d) [.lst l']) → P (.o 0 :: ds.map .d) [.lst l] F X) : callZ P (.o k :: ds.map .d) O Q E := by
  refine ⟨.o 0 :: ds.map .d, [k], [.lst l], ?_, by simp, h _ _ fun d l' q => ⟨so O k (.lst l'), ?_, by rw [shU_d]; exact q⟩⟩
  · rw [lendU]
    simp only [e, lendU_d]
    rfl
  · rw [mrg, mrg_nil, List.append_nil]
/-- .. and a second owned list, to be read -/
theorem callOB {P : ZSp} {O : List DO} {Q : U → List DO → Prop} {E : ZX} {k j : Nat} {l m : List D} (ds : List D) (e : go O k = some (.lst l)) (e2 : go O j = some (.lst m)) (hkj : k ≠ j) (h : ∀ F X, (∀ d l', Q (.d d) (so O k (.lst l')) → F (.d d) [.lst l', .brw m]) → P (.o 0 :: .o 1 :: ds.map .d) [.lst l, .brw m] F X) : callZ P (.o k :: .o j :: ds.map .d) O Q E := by
  refine ⟨.o 0 :: .o 1 :: ds.map .d, [k, j], [.lst l, .brw m], ?_, by simp [hkj], h _ _ fun d l' q => ⟨so O k (.lst l'), ?_, by rw [shU_d]; exact q⟩⟩
  · rw [lendU]
    simp only [e]
    rw [lendU]
    simp only [e2, lendU_d]
    rfl
  · rw [mrg, mrg, mrg_nil, List.append_nil]
/-! ### for, comprehensions -/
theorem compR_nil {tg : T1} {vt ve : List (Option U) → List DO → ZQ → Prop} {ρ0 : List (Option U)} {n : Nat} {acc : List D} {O : List DO} {Q : List D → List DO → Prop} : compR tg vt ve ρ0 n [] acc O Q = Q acc O := by rw [compR]
mutual
theorem bindT_mono : ∀ {t : T1} {d : D} {ρ : List (Option U)} {k k' : List (Option U) → Prop}, (∀ ρ, k ρ → k' ρ) → bindT t d ρ k → bindT t d ρ k'
  | .nm i, d, ρ, k, k', h, q => h _ q
  | .tp r, d, ρ, k, k', h, q => by
    cases d <;> first | exact bindTs_mono (t := r) h q | exact False.elim q
  | .nil, d, ρ, k, k', h, q => q.elim
  | .cons _ _, d, ρ, k, k', h, q => q.elim
theorem bindTs_mono : ∀ {t : T1} {ds : List D} {ρ : List (Option U)} {k k' : List (Option U) → Prop}, (∀ ρ, k ρ → k' ρ) → bindTs t ds ρ k → bindTs t ds ρ k'
  | .nil, [], ρ, k, k', h, q => h _ q
  | .nil, _ :: _, ρ, k, k', h, q => q.elim
  | .cons a r, d :: ds, ρ, k, k', h, q => by
    have q' : bindT a d ρ fun ρ1 => bindTs r ds ρ1 k := q
    exact bindT_mono (t := a) (d := d) (k' := fun ρ1 => bindTs r ds ρ1 k') (fun ρ1 z => bindTs_mono h z) q'
  | .cons a r, [], ρ, k, k', h, q => q.elim
  | .nm _, ds, ρ, k, k', h, q => q.elim
  | .tp _, ds, ρ, k, k', h, q => q.elim
end
/-- no test -/
abbrev yesV : List (Option U) → List DO → ZQ → Prop := fun _ O Q => Q [.d (.bl true)] O
section
variable {Γ : List (Str × ZSp)} {tg : T1} {ve : List (Option U) → List DO → ZQ → Prop} {ρ0 : List (Option U)} {n : Nat} {Q : List D → List DO → Prop}
/-- a comprehension without a test, by an invariant -/
theorem compR_inv (I : Nat → List D → List DO → Prop) : ∀ (ds acc : List D) (O : List DO) (i : Nat), I i acc O →
    (∀ (j : Nat) d acc O, ds[j]? = some d → I (i + j) acc O → ∀ F : ZQ, (∀ x O2, I (i + j + 1) (acc ++ [x]) (O2.take n) → F [.d x] O2) → bindT tg d ρ0 fun ρ1 => ve ρ1 O F) → (∀ acc O, I (i + ds.length) acc O → Q acc O) →
    compR tg yesV ve ρ0 n ds acc O Q
  | [], acc, O, i, h0, hs, hq => by
    rw [compR_nil]
    exact hq _ _ h0
  | d :: ds, acc, O, i, h0, hs, hq => by
    rw [compR]
    refine bindT_mono (fun ρ1 z => ?_) (hs 0 d acc O rfl h0 (fun ws O2 => oneK ws fun w => toK O2 w fun x => compR tg yesV ve ρ0 n ds (acc ++ [x]) (O2.take n) Q) fun x O2 hx => ?_)
    · show boolK [.d (.bl true)] _
      rw [boolK_1]
      exact ⟨fun _ => z, fun h => by cases h⟩
    · rw [oneK_1, toK_d]
      refine compR_inv I ds (acc ++ [x]) (O2.take n) (i + 1) hx (fun j d' acc' O' e hi F hF => ?_) fun acc' O' hi => hq _ _ (by rw [List.length_cons, show i + (ds.length + 1) = i + 1 + ds.length by omega]; exact hi)
      refine hs (j + 1) d' acc' O' (by simpa using e) (by rw [show i + (j + 1) = i + 1 + j by omega]; exact hi) F fun x O2 hx => hF x O2 (by rw [show i + 1 + j + 1 = i + (j + 1) + 1 by omega]; exact hx)
/-- .. each item by f, the places as they are -/
theorem compR_map (f : D → D) {O : List DO} (hO : O.length ≤ n) (ds : List D) (hs : ∀ d ∈ ds, ∀ F : ZQ, F [.d (f d)] O → bindT tg d ρ0 fun ρ1 => ve ρ1 O F) (hq : Q (ds.map f) O) : compR tg yesV ve ρ0 n ds [] O Q := by
  have ht : O.take n = O := List.take_of_length_le hO
  refine compR_inv (fun i acc O' => acc = (ds.take i).map f ∧ O' = O) ds [] O 0 ⟨rfl, rfl⟩ (fun j d acc O' e ⟨h1, h2⟩ F hF => ?_) fun acc O' ⟨h1, h2⟩ => ?_
  · subst h2
    refine hs d (List.mem_of_getElem? e) F (hF _ _ ⟨?_, ht⟩)
    rw [h1, Nat.zero_add]
    obtain ⟨hj, e⟩ := List.getElem?_eq_some_iff.mp e
    rw [List.take_succ, List.getElem?_eq_getElem hj, e]
    simp
  · subst h2
    rw [h1, Nat.zero_add, List.take_length]
    exact hq
/-- .. those that pass a test alone -/
theorem compR_filter {vt : List (Option U) → List DO → ZQ → Prop} (p : D → Bool) (f : D → D) {O : List DO} (hO : O.length ≤ n) : ∀ (ds acc : List D)
    (hs : ∀ d ∈ ds, ∀ (F : ZQ) (S : List DO → Prop), (p d = true → F [.d (f d)] O) → (p d = false → S O) → bindT tg d ρ0 fun ρ1 => vt ρ1 O fun us O1 => boolK us fun b => (b = true → ve ρ1 O1 F) ∧ (b = false → S O1)) (hq : Q (acc ++ (ds.filter p).map f) O), compR tg vt ve ρ0 n ds acc O Q
  | [], acc, hs, hq => by
    rw [compR_nil]
    simpa using hq
  | d :: ds, acc, hs, hq => by
    have ht : O.take n = O := List.take_of_length_le hO
    have rest : ∀ acc, Q (acc ++ (ds.filter p).map f) O → compR tg vt ve ρ0 n ds acc O Q := fun acc hq => compR_filter p f hO ds acc (fun d h => hs d (List.mem_cons_of_mem _ h)) hq
    rw [compR]
    refine hs d List.mem_cons_self (fun ws O2 => oneK ws fun w => toK O2 w fun x => compR tg vt ve ρ0 n ds (acc ++ [x]) (O2.take n) Q) (fun O1 => compR tg vt ve ρ0 n ds acc (O1.take n) Q) (fun hp => ?_) fun hp => ?_
    · rw [oneK_1, toK_d, ht]
      refine rest _ ?_
      rw [List.filter_cons_of_pos hp] at hq
      simpa using hq
    · show compR tg vt ve ρ0 n ds acc (O.take n) Q
      rw [ht]
      refine rest _ ?_
      rw [List.filter_cons_of_neg (by simp [hp])] at hq
      exact hq
end
/-- a for by an invariant -/
theorem forR_inv {tg : T1} {body : ZS} {E : ZX} {D : ZD} {O0 : List DO} (I : Nat → List (Option U) → List DO → Prop) : ∀ (ds : List Z.D) (ρ : List (Option U)) (O : List DO) (i : Nat), I i ρ O →
    (∀ (j : Nat) d ρ O, ds[j]? = some d → I (i + j) ρ O → ∀ N : List (Option U) → List DO → Prop, (∀ ρ' O', I (i + j + 1) ρ' O' → N ρ' O') → bindT tg d ρ fun ρ1 => body (fun x O' => E x (unb O0 O')) ⟨N, fun u O' => D.rt u (unb O0 O'), fun ρ' O' => D.nx ρ' (unb O0 O'), N⟩ ρ1 O) →
    (∀ ρ O, I (i + ds.length) ρ O → D.nx ρ (unb O0 O)) → forR tg body E D O0 ds ρ O
  | [], ρ, O, i, h0, hs, hq => by
    rw [forR]
    exact hq _ _ h0
  | d :: ds, ρ, O, i, h0, hs, hq => by
    rw [forR]
    refine hs 0 d ρ O rfl h0 _ fun ρ' O' hi => ?_
    refine forR_inv I ds ρ' O' (i + 1) hi (fun j d' ρ2 O2 e h N hN => ?_) fun ρ2 O2 h => hq _ _ (by rw [List.length_cons, show i + (ds.length + 1) = i + 1 + ds.length by omega]; exact h)
    exact hs (j + 1) d' ρ2 O2 (by simpa using e) (by rw [show i + (j + 1) = i + 1 + j by omega]; exact h) N fun ρ' O' h => hN ρ' O' (by rw [show i + 1 + j + 1 = i + (j + 1) + 1 by omega]; exact h)
theorem unb_nil {O : List DO} : unb [] O = O := by rw [unb]
theorem brK_d {O : List DO} {x : D} {k : D → List DO → Prop} : brK O (.d x) k = k x O := by
  unfold brK
  show (match toD O (.d x) with
    | some x => k x O
    | none => False) = _
  rw [toD_d]
theorem unb_0 {O : List DO} : unb [] O = O := by rw [unb]
end Z

set_option linter.all false
set_option maxRecDepth 100000
set_option maxHeartbeats 4000000
namespace Z
/-! ### lattices of rows: functions from places to whole numbers -/
abbrev Fn := Nat → Int
inductive Lat (A : List Fn) : Fn → Prop
  | zero : Lat A (fun _ => 0)
  | add {x a : Fn} (t : Int) : Lat A x → a ∈ A → Lat A (fun j => x j + t * a j)
section
variable {A B : List Fn} {a b x y : Fn}
theorem Lat.eq (h : Lat A x) (e : ∀ j, x j = y j) : Lat A y := by
  have : x = y := funext e
  rw [← this]
  exact h
theorem Lat.mem (h : a ∈ A) : Lat A a := (Lat.add 1 Lat.zero h).eq fun j => by simp
theorem Lat.comb (t : Int) (hx : Lat A x) (hy : Lat A y) : Lat A (fun j => x j + t * y j) := by
  induction hy with
  | zero => exact hx.eq fun j => by simp
  | add s _ ha ih => exact (ih.add (t * s) ha).eq fun j => by rw [Int.mul_add, Int.mul_assoc, Int.add_assoc]
theorem Lat.smul (t : Int) (hy : Lat A y) : Lat A (fun j => t * y j) := (Lat.comb t Lat.zero hy).eq fun j => by simp
theorem Lat.sub (h : ∀ a ∈ A, Lat B a) (hx : Lat A x) : Lat B x := by
  induction hx with
  | zero => exact .zero
  | add t _ ha ih => exact ih.comb t (h _ ha)
theorem Lat.mono (h : ∀ a ∈ A, a ∈ B) (hx : Lat A x) : Lat B x := hx.sub fun a ha => .mem (h a ha)
theorem Lat.cons (h : Lat (a :: A) x) : ∃ (t : Int) (y : Fn), Lat A y ∧ ∀ j, x j = t * a j + y j := by
  induction h with
  | zero => exact ⟨0, _, .zero, fun j => by simp⟩
  | @add x c t _ hc ih =>
    obtain ⟨s, y, hy, e⟩ := ih
    rcases List.mem_cons.mp hc with rfl | m
    · exact ⟨s + t, y, hy, fun j => by
        show x j + t * c j = (s + t) * c j + y j
        rw [e j, Int.add_mul]; omega⟩
    · exact ⟨s, _, hy.add t m, fun j => by
        show x j + t * c j = s * a j + (y j + t * c j)
        rw [e j, Int.add_assoc]⟩
theorem Lat.at_zero {j : Nat} (h : ∀ a ∈ A, a j = 0) (hx : Lat A x) : x j = 0 := by
  induction hx with
  | zero => rfl
  | @add x a t _ ha ih =>
    show x j + t * a j = 0
    rw [ih, h _ ha]; simp
theorem Lat.nil (h : Lat [] x) : ∀ j, x j = 0 := fun j => h.at_zero fun _ h => by cases h
end
/-! ### pivots -/
def pvF (f : Fn) (i : Nat) : Nat → Nat
  | 0 => i
  | n + 1 => if f i ≠ 0 then i else pvF f (i + 1) n
theorem pvF_spec (f : Fn) : ∀ n i, i ≤ pvF f i n ∧ pvF f i n ≤ i + n ∧ (∀ j, i ≤ j → j < pvF f i n → f j = 0) ∧ (pvF f i n < i + n → f (pvF f i n) ≠ 0)
  | 0, i => ⟨Nat.le_refl _, Nat.le_refl _, fun j h1 h2 => by rw [pvF] at h2; omega, fun h => by rw [pvF] at h; omega⟩
  | n + 1, i => by
    rw [pvF]
    by_cases h : f i ≠ 0
    · rw [if_pos h]
      exact ⟨Nat.le_refl _, by omega, fun j h1 h2 => by omega, fun _ => h⟩
    · rw [if_neg h]
      obtain ⟨h1, h2, h3, h4⟩ := pvF_spec f n (i + 1)
      refine ⟨by omega, by omega, fun j h5 h6 => ?_, fun h5 => h4 (by omega)⟩
      by_cases e : j = i
      · rw [e]
        exact Decidable.not_not.mp h
      · exact h3 j (by omega) h6
def pv (w : Nat) (f : Fn) : Nat := pvF f 0 w
section
variable {w : Nat} {f g : Fn}
theorem pv_le : pv w f ≤ w := by
  have h := (pvF_spec f w 0).2.1
  rw [Nat.zero_add] at h
  exact h
theorem pv_zero {j : Nat} (h : j < pv w f) : f j = 0 := (pvF_spec f w 0).2.2.1 j (Nat.zero_le _) h
theorem pv_ne (h : pv w f < w) : f (pv w f) ≠ 0 := (pvF_spec f w 0).2.2.2 (by rw [Nat.zero_add]; exact h)
theorem pv_eq {c : Nat} (hc : c < w) (h : f c ≠ 0) (h0 : ∀ j, j < c → f j = 0) : pv w f = c := by
  have h1 : pv w f ≤ c := Nat.le_of_not_lt fun z => h (pv_zero z)
  refine Nat.le_antisymm h1 (Nat.le_of_not_lt fun z => ?_)
  exact pv_ne (by omega) (h0 _ z)
theorem pv_out (h : ¬ pv w f < w) {j : Nat} (hj : j < w) : f j = 0 := pv_zero (w := w) (by omega)
end
structure Ech (w : Nat) (A : List Fn) : Prop where
  lt : ∀ a ∈ A, pv w a < w
  inc : A.Pairwise fun a b => pv w a < pv w b
structure Red (w : Nat) (A : List Fn) : Prop where
  pos : ∀ a ∈ A, 0 < a (pv w a)
  low : A.Pairwise fun a b => 0 ≤ a (pv w b) ∧ a (pv w b) < b (pv w b)
section
variable {w : Nat} {A B : List Fn} {a b x y : Fn}
theorem Ech.tail (h : Ech w (a :: A)) : Ech w A := ⟨fun b hb => h.lt b (List.mem_cons_of_mem _ hb), (List.pairwise_cons.mp h.inc).2⟩
theorem Red.tail (h : Red w (a :: A)) : Red w A := ⟨fun b hb => h.pos b (List.mem_cons_of_mem _ hb), (List.pairwise_cons.mp h.low).2⟩
theorem Ech.head_lt (h : Ech w (a :: A)) : ∀ b ∈ A, pv w a < pv w b := (List.pairwise_cons.mp h.inc).1
/-- the rows behind are nothing up to the first row's pivot -/
theorem Ech.tail_zero (h : Ech w (a :: A)) (hx : Lat A x) {j : Nat} (hj : j ≤ pv w a) : x j = 0 :=
  hx.at_zero fun b hb => pv_zero (w := w) (by have := h.head_lt b hb; omega)
theorem Ech.all_zero (h : Ech w (a :: A)) (hx : Lat (a :: A) x) {j : Nat} (hj : j < pv w a) : x j = 0 :=
  hx.at_zero fun b hb => by
    rcases List.mem_cons.mp hb with rfl | m
    · exact pv_zero hj
    · exact pv_zero (w := w) (by have := h.head_lt b m; omega)
/-- the first row's part, and the rest -/
theorem Ech.split (h : Ech w (a :: A)) (hx : Lat (a :: A) x) : ∃ (t : Int) (y : Fn), Lat A y ∧ (∀ j, x j = t * a j + y j) ∧ x (pv w a) = t * a (pv w a) := by
  obtain ⟨t, y, hy, e⟩ := hx.cons
  refine ⟨t, y, hy, e, ?_⟩
  rw [e, h.tail_zero hy (Nat.le_refl _), Int.add_zero]
/-- nothing at the first pivot: of the rows behind -/
theorem Ech.behind (h : Ech w (a :: A)) (hx : Lat (a :: A) x) (h0 : x (pv w a) = 0) : Lat A x := by
  obtain ⟨t, y, hy, e, e2⟩ := h.split hx
  have ha := pv_ne (h.lt a List.mem_cons_self)
  rw [h0] at e2
  have ht : t = 0 := by
    rcases Int.mul_eq_zero.mp e2.symm with z | z
    · exact z
    · exact absurd z ha
  exact hy.eq fun j => by rw [e j, ht]; simp
/-- each of the lattice begins at a pivot, with a multiple of it -/
theorem Ech.pivot : ∀ {A : List Fn}, Ech w A → ∀ {x : Fn}, Lat A x → pv w x < w → ∃ a ∈ A, pv w x = pv w a ∧ a (pv w a) ∣ x (pv w a)
  | [], _, x, hx, hp => absurd (hx.nil _) (pv_ne hp)
  | a :: A, h, x, hx, hp => by
    obtain ⟨t, y, hy, e, e2⟩ := h.split hx
    by_cases h0 : x (pv w a) = 0
    · obtain ⟨c, hc, e3⟩ := Ech.pivot h.tail (h.behind hx h0) hp
      exact ⟨c, List.mem_cons_of_mem _ hc, e3⟩
    · exact ⟨a, List.mem_cons_self, pv_eq (h.lt a List.mem_cons_self) h0 fun j hj => h.all_zero hx hj, ⟨t, by rw [e2, Int.mul_comm]⟩⟩
/-- small at all pivots: nothing -/
theorem Ech.small : ∀ {A : List Fn}, Ech w A → ∀ {x : Fn}, Lat A x → (∀ a ∈ A, (x (pv w a)).natAbs < (a (pv w a)).natAbs) → ∀ j, x j = 0
  | [], _, x, hx, _ => hx.nil
  | a :: A, h, x, hx, hs => by
    obtain ⟨t, y, hy, e, e2⟩ := h.split hx
    have h1 := hs a List.mem_cons_self
    rw [e2, Int.natAbs_mul] at h1
    have ht : t.natAbs = 0 := by
      by_cases z : t.natAbs = 0
      · exact z
      · have := Nat.le_mul_of_pos_left (a (pv w a)).natAbs (Nat.pos_of_ne_zero z)
        omega
    have ht : t = 0 := by omega
    exact Ech.small h.tail (h.behind hx (by rw [e2, ht, Int.zero_mul])) fun b hb => hs b (List.mem_cons_of_mem _ hb)
theorem pos_dvd {p q : Int} (hp : 0 < p) (hq : 0 < q) (h1 : p ∣ q) (h2 : q ∣ p) : p = q := by
  have := Int.le_of_dvd hq h1
  have := Int.le_of_dvd hp h2
  omega
/-- the reduced staircase of a lattice is the only one -/
theorem uniq : ∀ {A B : List Fn}, Ech w A → Red w A → Ech w B → Red w B → (∀ x, Lat A x ↔ Lat B x) → A = B
  | [], [], _, _, _, _, _ => rfl
  | [], b :: B, _, _, hB, _, h => absurd (((h b).mpr (.mem List.mem_cons_self)).nil _) (pv_ne (hB.lt b List.mem_cons_self))
  | a :: A, [], hA, _, _, _, h => absurd (((h a).mp (.mem List.mem_cons_self)).nil _) (pv_ne (hA.lt a List.mem_cons_self))
  | a :: A, b :: B, hA, rA, hB, rB, h => by
    have la : Lat (b :: B) a := (h a).mp (.mem List.mem_cons_self)
    have lb : Lat (a :: A) b := (h b).mpr (.mem List.mem_cons_self)
    have na := pv_ne (hA.lt a List.mem_cons_self)
    have nb := pv_ne (hB.lt b List.mem_cons_self)
    have ep : pv w a = pv w b := by
      refine Nat.le_antisymm (Nat.le_of_not_lt fun z => nb (hA.all_zero lb z)) (Nat.le_of_not_lt fun z => na (hB.all_zero la z))
    obtain ⟨t, y, hy, e, e2⟩ := hB.split la
    obtain ⟨s, z, hz, e3, e4⟩ := hA.split lb
    have ev : a (pv w a) = b (pv w a) := by
      refine pos_dvd (rA.pos a List.mem_cons_self) (by rw [ep]; exact rB.pos b List.mem_cons_self) ⟨s, by rw [e4, Int.mul_comm]⟩ ⟨t, ?_⟩
      rw [ep, e2, Int.mul_comm]
    have ht : ∀ x, Lat A x ↔ Lat B x := fun x => by
      constructor
      · intro hx
        refine hB.behind ((h x).mp (hx.mono fun c hc => List.mem_cons_of_mem _ hc)) ?_
        rw [← ep]
        exact hA.tail_zero hx (Nat.le_refl _)
      · intro hx
        refine hA.behind ((h x).mpr (hx.mono fun c hc => List.mem_cons_of_mem _ hc)) ?_
        rw [ep]
        exact hB.tail_zero hx (Nat.le_refl _)
    have eA := uniq hA.tail rA.tail hB.tail rB.tail ht
    subst eA
    have hd : Lat A (fun j => a j + -1 * b j) := by
      refine hA.behind ((Lat.mem List.mem_cons_self).comb (-1) lb) ?_
      rw [ev]
      omega
    have hz := Ech.small hA.tail hd fun c hc => by
      have h1 := (List.pairwise_cons.mp rA.low).1 c hc
      have h2 := (List.pairwise_cons.mp rB.low).1 c hc
      omega
    have : a = b := funext fun j => by
      have := hz j
      omega
    rw [this]
end
end Z

set_option linter.all false
set_option maxRecDepth 100000
set_option maxHeartbeats 4000000
namespace Z
/-! ### remainders -/
def lessF (x o : Fn) (t : Int) : Fn := fun j => x j - t * o j
def remF (w : Nat) : List Fn → Fn → Fn
  | [], x => x
  | a :: A, x => remF w A (lessF x a ((x (pv w a)).fdiv (a (pv w a))))
section
variable {w : Nat} {A B : List Fn} {a b x y l : Fn}
theorem lessF_eq (t : Int) : lessF x a t = fun j => x j + -t * a j := funext fun j => by
  show x j - t * a j = _
  rw [Int.neg_mul]
  omega
theorem rem_keep {j : Nat} : ∀ {A : List Fn} {x : Fn}, (∀ a ∈ A, a j = 0) → remF w A x j = x j
  | [], x, _ => rfl
  | a :: A, x, h => by
    rw [remF, rem_keep fun b hb => h b (List.mem_cons_of_mem _ hb)]
    show x j - _ * a j = x j
    rw [h a List.mem_cons_self]
    simp
/-- a remainder differs by one of the lattice -/
theorem rem_lat : ∀ {A : List Fn} {x : Fn}, ∃ y, Lat A y ∧ ∀ j, remF w A x j = x j + y j
  | [], x => ⟨_, .zero, fun j => by rw [remF]; simp⟩
  | a :: A, x => by
    obtain ⟨y, hy, e⟩ := rem_lat (A := A) (x := lessF x a ((x (pv w a)).fdiv (a (pv w a))))
    refine ⟨_, (hy.mono fun b hb => List.mem_cons_of_mem _ hb).add (-((x (pv w a)).fdiv (a (pv w a)))) List.mem_cons_self, fun j => ?_⟩
    rw [remF, e j, lessF_eq]
    show x j + _ * a j + y j = x j + (y j + _ * a j)
    omega
theorem rem_mem (h : ∀ a ∈ A, Lat B a) (hx : Lat B x) : Lat B (remF w A x) := by
  obtain ⟨y, hy, e⟩ := rem_lat (w := w) (A := A) (x := x)
  exact (hx.comb 1 (hy.sub h)).eq fun j => by rw [e j, Int.one_mul]
theorem rem_back (h : ∀ a ∈ A, Lat B a) (hx : Lat B (remF w A x)) : Lat B x := by
  obtain ⟨y, hy, e⟩ := rem_lat (w := w) (A := A) (x := x)
  exact (hx.comb (-1) (hy.sub h)).eq fun j => by rw [e j]; omega
theorem fmod_sub (x p : Int) : x - x.fdiv p * p = x.fmod p := by
  have := Int.fmod_add_fdiv_mul x p
  omega
theorem rem_low : ∀ {A : List Fn} {x : Fn}, Ech w A → (∀ a ∈ A, 0 < a (pv w a)) → ∀ a ∈ A, 0 ≤ remF w A x (pv w a) ∧ remF w A x (pv w a) < a (pv w a)
  | [], _, _, _, _, h => by cases h
  | c :: A, x, h, hp, a, ha => by
    rcases List.mem_cons.mp ha with rfl | m
    · have hc := hp a List.mem_cons_self
      rw [remF, rem_keep fun b hb => pv_zero (h.head_lt b hb)]
      show 0 ≤ x (pv w a) - _ * a (pv w a) ∧ x (pv w a) - _ * a (pv w a) < _
      rw [fmod_sub]
      exact ⟨Int.fmod_nonneg_of_pos _ hc, Int.fmod_lt_of_pos _ hc⟩
    · rw [remF]
      exact rem_low h.tail (fun b hb => hp b (List.mem_cons_of_mem _ hb)) a m
/-! ### reduced -/
def redF (w : Nat) : List Fn → List Fn
  | [] => []
  | a :: A => remF w A a :: redF w A
theorem rem_pv (h : Ech w (a :: A)) : pv w (remF w A a) = pv w a ∧ remF w A a (pv w a) = a (pv w a) := by
  have hk : ∀ j, j ≤ pv w a → remF w A a j = a j := fun j hj => rem_keep fun b hb => pv_zero (w := w) (by have := h.head_lt b hb; omega)
  have hl := h.lt a List.mem_cons_self
  exact ⟨pv_eq hl (by rw [hk _ (Nat.le_refl _)]; exact pv_ne hl) fun j hj => by rw [hk j (by omega)]; exact pv_zero hj, hk _ (Nat.le_refl _)⟩
theorem red_piv : ∀ {A : List Fn}, Ech w A → ∀ b ∈ redF w A, ∃ a ∈ A, pv w b = pv w a ∧ b (pv w a) = a (pv w a)
  | [], _, b, h => by cases h
  | a :: A, h, b, hb => by
    rcases List.mem_cons.mp hb with rfl | m
    · obtain ⟨h1, h2⟩ := rem_pv h
      exact ⟨a, List.mem_cons_self, h1, h2⟩
    · obtain ⟨c, hc, e⟩ := red_piv h.tail b m
      exact ⟨c, List.mem_cons_of_mem _ hc, e⟩
theorem red_ok : ∀ {A : List Fn}, Ech w A → (∀ a ∈ A, 0 < a (pv w a)) → Ech w (redF w A) ∧ Red w (redF w A)
  | [], h, _ => ⟨h, ⟨(fun a h => by cases h), .nil⟩⟩
  | a :: A, h, hp => by
    have hp' : ∀ b ∈ A, 0 < b (pv w b) := fun b hb => hp b (List.mem_cons_of_mem _ hb)
    obtain ⟨h1, h2⟩ := red_ok h.tail hp'
    obtain ⟨e1, e2⟩ := rem_pv h
    refine ⟨⟨fun b hb => ?_, List.pairwise_cons.mpr ⟨fun b hb => ?_, h1.inc⟩⟩, ⟨fun b hb => ?_, List.pairwise_cons.mpr ⟨fun b hb => ?_, h2.low⟩⟩⟩
    · rcases List.mem_cons.mp hb with rfl | m
      · rw [e1]
        exact h.lt a List.mem_cons_self
      · exact h1.lt b m
    · obtain ⟨c, hc, e3, _⟩ := red_piv h.tail b hb
      rw [e1, e3]
      exact h.head_lt c hc
    · rcases List.mem_cons.mp hb with rfl | m
      · rw [e1, e2]
        exact hp a List.mem_cons_self
      · exact h2.pos b m
    · obtain ⟨c, hc, e3, e4⟩ := red_piv h.tail b hb
      rw [e3, e4]
      exact rem_low h.tail hp' c hc
theorem red_lat : ∀ {A : List Fn}, (∀ a ∈ redF w A, Lat A a) ∧ ∀ a ∈ A, Lat (redF w A) a
  | [] => ⟨(fun a h => by cases h), (fun a h => by cases h)⟩
  | a :: A => by
    obtain ⟨h1, h2⟩ := red_lat (A := A)
    have h3 : ∀ b ∈ A, Lat (redF w (a :: A)) b := fun b hb => (h2 b hb).mono fun c hc => List.mem_cons_of_mem _ hc
    refine ⟨fun b hb => ?_, fun b hb => ?_⟩
    · rcases List.mem_cons.mp hb with rfl | m
      · exact rem_mem (fun c hc => .mem (List.mem_cons_of_mem _ hc)) (.mem List.mem_cons_self)
      · exact (h1 b m).mono fun c hc => List.mem_cons_of_mem _ hc
    · rcases List.mem_cons.mp hb with rfl | m
      · exact rem_back h3 (.mem List.mem_cons_self)
      · exact h3 b m
/-! ### two rows by Euclid -/
structure EucR (at_ : Nat) (k l k' l' : Fn) : Prop where
  comb : ∃ a b c d : Int, (∀ j, k' j = a * k j + b * l j) ∧ (∀ j, l' j = c * k j + d * l j) ∧ (a * d - b * c = 1 ∨ a * d - b * c = -1) ∧ a.natAbs ≤ (l at_).natAbs
  zero : l' at_ = 0
  ne : k' at_ ≠ 0
theorem EucR.to {p : Nat} {k l k' l' : Fn} (h : EucR p k l k' l') : Lat [k, l] k' ∧ Lat [k, l] l' := by
  obtain ⟨a, b, c, d, e1, e2, _, _⟩ := h.comb
  refine ⟨((Lat.smul a (Lat.mem (a := k) (A := [k, l]) (by simp))).comb b (Lat.mem (a := l) (by simp))).eq fun j => (e1 j).symm, ((Lat.smul c (Lat.mem (a := k) (A := [k, l]) (by simp))).comb d (Lat.mem (a := l) (by simp))).eq fun j => (e2 j).symm⟩
theorem det_back {a b c d k l k' l' s : Int} (e1 : k' = a * k + b * l) (e2 : l' = c * k + d * l) (hs : a * d - b * c = s) : s * k = d * k' - b * l' ∧ s * l = a * l' - c * k' := by
  subst e1
  subst e2
  subst hs
  constructor
  · rw [Int.sub_mul, Int.mul_add, Int.mul_add]
    have h1 : d * (a * k) = a * d * k := by simp only [Int.mul_assoc, Int.mul_left_comm, Int.mul_comm]
    have h2 : d * (b * l) = b * (d * l) := by simp only [Int.mul_assoc, Int.mul_left_comm, Int.mul_comm]
    have h3 : b * (c * k) = b * c * k := by simp only [Int.mul_assoc, Int.mul_left_comm, Int.mul_comm]
    rw [h1, h2, h3]
    omega
  · rw [Int.sub_mul, Int.mul_add, Int.mul_add]
    have h1 : a * (c * k) = c * (a * k) := by simp only [Int.mul_assoc, Int.mul_left_comm, Int.mul_comm]
    have h2 : a * (d * l) = a * d * l := by simp only [Int.mul_assoc, Int.mul_left_comm, Int.mul_comm]
    have h3 : c * (b * l) = b * c * l := by simp only [Int.mul_assoc, Int.mul_left_comm, Int.mul_comm]
    rw [h1, h2, h3]
    omega
theorem EucR.back {p : Nat} {k l k' l' : Fn} (h : EucR p k l k' l') : Lat [k', l'] k ∧ Lat [k', l'] l := by
  obtain ⟨a, b, c, d, e1, e2, hd, _⟩ := h.comb
  have m1 : Lat [k', l'] k' := .mem (by simp)
  have m2 : Lat [k', l'] l' := .mem (by simp)
  rcases hd with hd | hd
  · refine ⟨((Lat.smul d m1).comb (-b) m2).eq fun j => ?_, ((Lat.smul (-c) m1).comb a m2).eq fun j => ?_⟩
    · have := (det_back (e1 j) (e2 j) hd).1
      rw [Int.neg_mul]
      omega
    · have := (det_back (e1 j) (e2 j) hd).2
      rw [Int.neg_mul]
      omega
  · refine ⟨((Lat.smul (-d) m1).comb b m2).eq fun j => ?_, ((Lat.smul c m1).comb (-a) m2).eq fun j => ?_⟩
    · have := (det_back (e1 j) (e2 j) hd).1
      rw [Int.neg_mul]
      omega
    · have := (det_back (e1 j) (e2 j) hd).2
      rw [Int.neg_mul]
      omega
/-- the numbers of the combination are small -/
theorem EucR.small {p : Nat} {k l k' l' : Fn} (h : EucR p k l k' l') (hl : l p ≠ 0) : ∃ a b c d : Int, (∀ j, k' j = a * k j + b * l j) ∧ (∀ j, l' j = c * k j + d * l j) ∧ a.natAbs ≤ (l p).natAbs ∧ c.natAbs ≤ (l p).natAbs ∧ b.natAbs ≤ (k p).natAbs + 1 ∧ d.natAbs ≤ (k p).natAbs := by
  obtain ⟨a, b, c, d, e1, e2, hd, ha⟩ := h.comb
  have hz := h.zero
  have hn := h.ne
  have key : (k p).natAbs = d.natAbs * (k' p).natAbs ∧ (l p).natAbs = c.natAbs * (k' p).natAbs := by
    rcases hd with hd | hd
    · obtain ⟨h1, h2⟩ := det_back (e1 p) (e2 p) hd
      rw [hz, Int.mul_zero] at h1 h2
      rw [← Int.natAbs_mul, ← Int.natAbs_mul]
      exact ⟨by congr 1; omega, by omega⟩
    · obtain ⟨h1, h2⟩ := det_back (e1 p) (e2 p) hd
      rw [hz, Int.mul_zero] at h1 h2
      rw [← Int.natAbs_mul, ← Int.natAbs_mul]
      exact ⟨by omega, by omega⟩
  have hk : 1 ≤ (k' p).natAbs := by omega
  have hkl : (k' p).natAbs ≤ (l p).natAbs := by
    rw [key.2]
    refine Nat.le_mul_of_pos_left _ (Nat.pos_of_ne_zero fun z => hl ?_)
    have := key.2
    rw [z, Nat.zero_mul] at this
    omega
  refine ⟨a, b, c, d, e1, e2, ha, by rw [key.2]; exact Nat.le_mul_of_pos_right _ hk, ?_, by rw [key.1]; exact Nat.le_mul_of_pos_right _ hk⟩
  have h3 : (b * l p).natAbs ≤ (k' p).natAbs + (a * k p).natAbs := by
    have := e1 p
    omega
  rw [Int.natAbs_mul, Int.natAbs_mul] at h3
  have h4 : a.natAbs * (k p).natAbs ≤ (l p).natAbs * (k p).natAbs := Nat.mul_le_mul_right _ ha
  have h5 : b.natAbs * (l p).natAbs ≤ ((k p).natAbs + 1) * (l p).natAbs := by
    rw [Nat.add_mul, Nat.one_mul, Nat.mul_comm (k p).natAbs]
    omega
  exact Nat.le_of_mul_le_mul_right h5 (by omega)
/-! ### a row more -/
inductive Ins (w : Nat) : List Fn → Fn → List Fn → Prop
  | inn {l : Fn} : pv w l < w → Ins w [] l [l]
  | out {l : Fn} : ¬ pv w l < w → Ins w [] l []
  | gt {r l : Fn} {rs res : List Fn} : pv w r < pv w l → Ins w rs l res → Ins w (r :: rs) l (r :: res)
  | lt {r l : Fn} {rs res : List Fn} : pv w l < pv w r → Ins w rs r res → Ins w (r :: rs) l (l :: res)
  | eq {r l k' l' : Fn} {rs res : List Fn} : pv w l = pv w r → EucR (pv w l) r l k' l' → Ins w rs l' res → Ins w (r :: rs) l (k' :: res)
theorem comb_pv {k l : Fn} {c d : Int} {k' : Fn} (e : ∀ j, k' j = c * k j + d * l j) (h : pv w l = pv w k) {j : Nat} (hj : j < pv w l) : k' j = 0 := by
  rw [e j, pv_zero hj, pv_zero (by omega : j < pv w k)]
  simp
theorem EucR.pv1 {k l k' l' : Fn} (h : EucR (pv w l) k l k' l') (hl : pv w l < w) (e : pv w l = pv w k) : pv w k' = pv w l := by
  obtain ⟨a, b, c, d, e1, e2, _, _⟩ := h.comb
  exact pv_eq hl h.ne fun j hj => comb_pv e1 e hj
theorem EucR.pv2 {k l k' l' : Fn} (h : EucR (pv w l) k l k' l') (hl : pv w l < w) (e : pv w l = pv w k) : pv w l < pv w l' := by
  obtain ⟨a, b, c, d, e1, e2, _, _⟩ := h.comb
  refine Nat.lt_of_not_le fun z => ?_
  have hz := pv_ne (w := w) (f := l') (by omega)
  by_cases q : pv w l' = pv w l
  · rw [q] at hz
    exact hz h.zero
  · exact hz (comb_pv e2 e (by omega))
theorem ins_low {rs res : List Fn} (h : Ins w rs l res) : ∀ c, (∀ r ∈ rs, c ≤ pv w r ∧ pv w r < w) → c ≤ pv w l → ∀ r ∈ res, c ≤ pv w r ∧ pv w r < w := by
  induction h with
  | inn hl =>
    intro c _ h2 r hr
    rw [List.mem_singleton.mp hr]
    exact ⟨h2, hl⟩
  | out _ =>
    intro c _ _ r hr
    cases hr
  | gt hlt _ ih =>
    intro c h1 h2 r hr
    rcases List.mem_cons.mp hr with rfl | m
    · exact h1 _ List.mem_cons_self
    · exact ih c (fun q hq => h1 q (List.mem_cons_of_mem _ hq)) h2 r m
  | lt hlt _ ih =>
    intro c h1 h2 r hr
    have h3 := h1 _ List.mem_cons_self
    rcases List.mem_cons.mp hr with rfl | m
    · exact ⟨h2, by omega⟩
    · exact ih c (fun q hq => h1 q (List.mem_cons_of_mem _ hq)) h3.1 r m
  | eq he hE _ ih =>
    intro c h1 h2 r hr
    have h3 := h1 _ List.mem_cons_self
    rcases List.mem_cons.mp hr with rfl | m
    · rw [hE.pv1 (by omega) he]
      exact ⟨h2, by omega⟩
    · have := hE.pv2 (by omega) he
      exact ih c (fun q hq => h1 q (List.mem_cons_of_mem _ hq)) (by omega) r m
theorem ins_ech {rs res : List Fn} (h : Ins w rs l res) : Ech w rs → Ech w res := by
  induction h with
  | inn hl => exact fun _ => ⟨fun a ha => by rw [List.mem_singleton.mp ha]; exact hl, by simp⟩
  | out _ => exact fun h => h
  | @gt r l rs res hlt hi ih =>
    intro hE
    have h1 := ih hE.tail
    refine ⟨fun a ha => ?_, List.pairwise_cons.mpr ⟨fun a ha => ?_, h1.inc⟩⟩
    · rcases List.mem_cons.mp ha with rfl | m
      · exact hE.lt _ List.mem_cons_self
      · exact h1.lt a m
    · exact (ins_low hi (pv w r + 1) (fun q hq => ⟨hE.head_lt q hq, hE.lt q (List.mem_cons_of_mem _ hq)⟩) hlt a ha).1
  | @lt r l rs res hlt hi ih =>
    intro hE
    have h1 := ih hE.tail
    have hr := hE.lt _ List.mem_cons_self
    refine ⟨fun a ha => ?_, List.pairwise_cons.mpr ⟨fun a ha => ?_, h1.inc⟩⟩
    · rcases List.mem_cons.mp ha with rfl | m
      · omega
      · exact h1.lt a m
    · exact (ins_low hi (pv w l + 1) (fun q hq => ⟨by have := hE.head_lt q hq; omega, hE.lt q (List.mem_cons_of_mem _ hq)⟩) hlt a ha).1
  | @eq r l k' l' rs res he hR hi ih =>
    intro hE
    have h1 := ih hE.tail
    have hr := hE.lt _ List.mem_cons_self
    have p1 := hR.pv1 (by omega) he
    have p2 := hR.pv2 (by omega) he
    refine ⟨fun a ha => ?_, List.pairwise_cons.mpr ⟨fun a ha => ?_, h1.inc⟩⟩
    · rcases List.mem_cons.mp ha with rfl | m
      · omega
      · exact h1.lt a m
    · rw [p1]
      exact (ins_low hi (pv w l + 1) (fun q hq => ⟨by have := hE.head_lt q hq; omega, hE.lt q (List.mem_cons_of_mem _ hq)⟩) p2 a ha).1
theorem ins_to {rs res : List Fn} (h : Ins w rs l res) : ∀ x, Lat res x → Lat (l :: rs) x := by
  induction h with
  | inn _ => exact fun x h => h
  | out _ => exact fun x h => h.mono fun a ha => by cases ha
  | @gt r l rs res _ _ ih =>
    refine fun x h => h.sub fun a ha => ?_
    rcases List.mem_cons.mp ha with rfl | m
    · exact .mem (by simp)
    · exact (ih a (.mem m)).mono fun b hb => by
        rcases List.mem_cons.mp hb with rfl | m
        · simp
        · simp [m]
  | @lt r l rs res _ _ ih =>
    refine fun x h => h.sub fun a ha => ?_
    rcases List.mem_cons.mp ha with rfl | m
    · exact .mem (by simp)
    · exact (ih a (.mem m)).mono fun b hb => List.mem_cons_of_mem _ hb
  | @eq r l k' l' rs res _ hR _ ih =>
    have up : ∀ b, Lat [r, l] b → Lat (l :: r :: rs) b := fun b hb => hb.mono fun c hc => by
      rcases List.mem_cons.mp hc with rfl | m
      · simp
      · rw [List.mem_singleton.mp m]
        simp
    refine fun x h => h.sub fun a ha => ?_
    rcases List.mem_cons.mp ha with rfl | m
    · exact up _ hR.to.1
    · refine (ih a (.mem m)).sub fun b hb => ?_
      rcases List.mem_cons.mp hb with rfl | m2
      · exact up _ hR.to.2
      · exact .mem (by simp [m2])
/-- up to what is nothing below w -/
def LatE (w : Nat) (A : List Fn) (x : Fn) : Prop := ∃ y, Lat A y ∧ ∀ j, j < w → x j = y j
theorem Lat.e (h : Lat A x) : LatE w A x := ⟨x, h, fun _ _ => rfl⟩
theorem LatE.sub (h : ∀ a ∈ A, LatE w B a) (hx : LatE w A x) : LatE w B x := by
  obtain ⟨y, hy, e⟩ := hx
  have : LatE w B y := by
    clear e
    induction hy with
    | zero => exact ⟨_, .zero, fun _ _ => rfl⟩
    | @add x a t _ ha ih =>
      obtain ⟨z, hz, e⟩ := ih
      obtain ⟨u, hu, e2⟩ := h a ha
      exact ⟨_, hz.comb t hu, fun j hj => by
        show x j + t * a j = z j + t * u j
        rw [e j hj, e2 j hj]⟩
  obtain ⟨z, hz, e2⟩ := this
  exact ⟨z, hz, fun j hj => by rw [e j hj, e2 j hj]⟩
theorem ins_back {rs res : List Fn} (h : Ins w rs l res) : ∀ a ∈ l :: rs, LatE w res a := by
  induction h with
  | inn _ => exact fun a ha => (Lat.mem ha).e
  | out hl =>
    intro a ha
    rw [List.mem_singleton.mp ha]
    exact ⟨_, .zero, fun j hj => pv_out hl hj⟩
  | @gt r l rs res _ _ ih =>
    have up : ∀ b, LatE w res b → LatE w (r :: res) b := fun b ⟨y, hy, e⟩ => ⟨y, hy.mono fun c hc => List.mem_cons_of_mem _ hc, e⟩
    intro a ha
    rcases List.mem_cons.mp ha with rfl | m
    · exact up _ (ih _ List.mem_cons_self)
    · rcases List.mem_cons.mp m with rfl | m
      · exact (Lat.mem List.mem_cons_self).e
      · exact up _ (ih _ (List.mem_cons_of_mem _ m))
  | @lt r l rs res _ _ ih =>
    have up : ∀ b, LatE w res b → LatE w (l :: res) b := fun b ⟨y, hy, e⟩ => ⟨y, hy.mono fun c hc => List.mem_cons_of_mem _ hc, e⟩
    intro a ha
    rcases List.mem_cons.mp ha with rfl | m
    · exact (Lat.mem List.mem_cons_self).e
    · exact up _ (ih _ m)
  | @eq r l k' l' rs res _ hR _ ih =>
    have up : ∀ b, LatE w res b → LatE w (k' :: res) b := fun b ⟨y, hy, e⟩ => ⟨y, hy.mono fun c hc => List.mem_cons_of_mem _ hc, e⟩
    have two : ∀ b ∈ [k', l'], LatE w (k' :: res) b := fun b hb => by
      rcases List.mem_cons.mp hb with rfl | m
      · exact (Lat.mem List.mem_cons_self).e
      · rw [List.mem_singleton.mp m]
        exact up _ (ih _ List.mem_cons_self)
    intro a ha
    rcases List.mem_cons.mp ha with rfl | m
    · exact LatE.sub two hR.back.2.e
    · rcases List.mem_cons.mp m with rfl | m
      · exact LatE.sub two hR.back.1.e
      · exact up _ (ih _ (List.mem_cons_of_mem _ m))
end
end Z

set_option linter.all false
set_option maxRecDepth 100000
set_option maxHeartbeats 4000000
namespace Z
/-! ### sizes by elimination -/
def elim (j : Nat) (e g : Fn) : Fn := fun i => e j * g i - g j * e i
section
variable {w m : Nat} {G A : List Fn} {e g x y : Fn}
theorem elim_lat {G1 G2 : List Fn} {j : Nat} (h : Lat (G1 ++ e :: G2) x) : Lat ((G1 ++ G2).map (elim j e)) (elim j e x) := by
  induction h with
  | zero => exact Lat.zero.eq fun i => by show (0 : Int) = e j * 0 - 0 * e i; simp
  | @add x a t _ ha ih =>
    have key : ∀ i, elim j e (fun j => x j + t * a j) i = elim j e x i + t * elim j e a i := fun i => by
      show e j * (x i + t * a i) - (x j + t * a j) * e i = e j * x i - x j * e i + t * (e j * a i - a j * e i)
      rw [Int.mul_add, Int.add_mul, Int.mul_sub, Int.mul_left_comm, Int.mul_assoc t (a j)]
      omega
    by_cases hae : a = e
    · refine ih.eq fun i => ?_
      rw [key i, hae]
      show _ = _ + t * (e j * e i - e j * e i)
      simp
    · refine (ih.add t (List.mem_map.mpr ⟨a, ?_, rfl⟩)).eq fun i => (key i).symm
      rcases List.mem_append.mp ha with k | k
      · exact List.mem_append_left _ k
      · rcases List.mem_cons.mp k with k | k
        · exact absurd k hae
        · exact List.mem_append_right _ k
theorem elim_back {G1 G2 : List Fn} {j : Nat} : ∀ g ∈ (G1 ++ G2).map (elim j e), Lat (G1 ++ e :: G2) g := fun g hg => by
  obtain ⟨a, ha, rfl⟩ := List.mem_map.mp hg
  have h1 : Lat (G1 ++ e :: G2) a := .mem (by
    rcases List.mem_append.mp ha with k | k
    · exact List.mem_append_left _ k
    · exact List.mem_append_right _ (List.mem_cons_of_mem _ k))
  have h2 : Lat (G1 ++ e :: G2) e := .mem (List.mem_append_right _ List.mem_cons_self)
  exact ((Lat.smul (e j) h1).comb (-(a j)) h2).eq fun i => by
    show e j * a i + -(a j) * e i = e j * a i - a j * e i
    rw [Int.neg_mul]
    omega
def Sb (w b : Nat) (f : Fn) : Prop := ∀ i, i < w → (f i).natAbs < 2 ^ b
theorem mul_lt2 {a b : Nat} {x y : Int} (h : x.natAbs < 2 ^ a) (k : y.natAbs < 2 ^ b) : (x * y).natAbs < 2 ^ (a + b) := by
  rw [Int.natAbs_mul, Nat.pow_add]
  by_cases hx : x.natAbs = 0
  · rw [hx, Nat.zero_mul]
    exact Nat.mul_pos (Nat.pow_pos (by decide)) (Nat.pow_pos (by decide))
  · exact Nat.mul_lt_mul'' h k
theorem sub_lt2 {a b c : Nat} {x y : Int} (h : x.natAbs < 2 ^ a) (k : y.natAbs < 2 ^ b) (h1 : a + 1 ≤ c) (h2 : b + 1 ≤ c) : (x - y).natAbs < 2 ^ c := by
  have e1 : 2 ^ (a + 1) ≤ 2 ^ c := Nat.pow_le_pow_right (by decide) h1
  have e2 : 2 ^ (b + 1) ≤ 2 ^ c := Nat.pow_le_pow_right (by decide) h2
  rw [Nat.pow_succ] at e1 e2
  omega
theorem add_lt2 {a b c : Nat} {x y : Int} (h : x.natAbs < 2 ^ a) (k : y.natAbs < 2 ^ b) (h1 : a + 1 ≤ c) (h2 : b + 1 ≤ c) : (x + y).natAbs < 2 ^ c := by
  have e1 : 2 ^ (a + 1) ≤ 2 ^ c := Nat.pow_le_pow_right (by decide) h1
  have e2 : 2 ^ (b + 1) ≤ 2 ^ c := Nat.pow_le_pow_right (by decide) h2
  rw [Nat.pow_succ] at e1 e2
  omega
theorem lt2_mono {a b : Nat} {x : Int} (h : x.natAbs < 2 ^ a) (l : a ≤ b) : x.natAbs < 2 ^ b := Nat.lt_of_lt_of_le h (Nat.pow_le_pow_right (by decide) l)
theorem elim_sb {b j : Nat} (hj : j < w) (he : Sb w b e) (hg : Sb w b g) : Sb w (2 * b + 1) (elim j e g) := fun i hi =>
  sub_lt2 (mul_lt2 (he j hj) (hg i hi)) (mul_lt2 (hg j hj) (he i hi)) (by omega) (by omega)
/-- where the lattice's rows begin, one begins with a small number -/
theorem piv_small : ∀ (n j m b : Nat) (G : List Fn), j + n = w → G.length ≤ m → (∀ g ∈ G, Sb w b g ∧ ∀ i, i < j → g i = 0) → ∀ x, Lat G x → pv w x < w → ∃ e, Lat G e ∧ pv w e = pv w x ∧ (e (pv w x)).natAbs < 2 ^ (2 ^ (m - 1) * (b + 1))
  | 0, j, m, b, G, hn, _, hG, x, hx, hp => absurd (hx.at_zero fun g hg => (hG g hg).2 (pv w x) (by omega)) (pv_ne hp)
  | n + 1, j, m, b, G, hn, hm, hG, x, hx, hp => by
    by_cases hall : ∀ g ∈ G, g j = 0
    · refine piv_small n (j + 1) m b G (by omega) hm (fun g hg => ⟨(hG g hg).1, fun i hi => ?_⟩) x hx hp
      by_cases q : i = j
      · rw [q]
        exact hall g hg
      · exact (hG g hg).2 i (by omega)
    · obtain ⟨e, he, hej⟩ : ∃ e, e ∈ G ∧ e j ≠ 0 := by
        refine Classical.byContradiction fun z => hall fun g hg => Classical.byContradiction fun k => z ⟨g, hg, k⟩
      obtain ⟨G1, G2, rfl⟩ := List.append_of_mem he
      obtain ⟨eb, ez⟩ := hG e he
      have hm1 : 1 ≤ m := by
        rw [List.length_append, List.length_cons] at hm
        omega
      by_cases hc : pv w x = j
      · refine ⟨e, .mem he, by rw [hc]; exact pv_eq (by omega) hej ez, ?_⟩
        rw [hc]
        refine lt2_mono (eb j (by omega)) ?_
        have := Nat.le_mul_of_pos_left (b + 1) (Nat.pow_pos (n := m - 1) (by decide : 0 < 2))
        omega
      · have hxz : ∀ i, i < j → x i = 0 := fun i hi => hx.at_zero fun g hg => (hG g hg).2 i hi
        have hjp : j < pv w x := by
          refine Nat.lt_of_not_le fun z => pv_ne hp (hxz _ (by omega))
        have hxj : x j = 0 := pv_zero hjp
        have hx' := elim_lat (j := j) hx
        have ep : pv w (elim j e x) = pv w x := by
          refine pv_eq hp ?_ fun i hi => ?_
          · show e j * x _ - x j * e _ ≠ 0
            rw [hxj, Int.zero_mul, Int.sub_zero]
            exact Int.mul_ne_zero hej (pv_ne hp)
          · show e j * x i - x j * e i = 0
            rw [hxj, pv_zero hi]
            simp
        obtain ⟨e', h1, h2, h3⟩ := piv_small n (j + 1) (m - 1) (2 * b + 1) ((G1 ++ G2).map (elim j e)) (by omega) (by
          rw [List.length_map, List.length_append]
          rw [List.length_append, List.length_cons] at hm
          omega) (fun g hg => by
          obtain ⟨a, ha, rfl⟩ := List.mem_map.mp hg
          have hag : a ∈ G1 ++ e :: G2 := by
            rcases List.mem_append.mp ha with k | k
            · exact List.mem_append_left _ k
            · exact List.mem_append_right _ (List.mem_cons_of_mem _ k)
          obtain ⟨ab, az⟩ := hG a hag
          refine ⟨elim_sb (by omega) eb ab, fun i hi => ?_⟩
          show e j * a i - a j * e i = 0
          by_cases q : i = j
          · rw [q, Int.mul_comm]
            omega
          · rw [az i (by omega), ez i (by omega)]
            simp) _ hx' (by rw [ep]; exact hp)
        rw [ep] at h2 h3
        refine ⟨e', h1.sub elim_back, h2, lt2_mono h3 ?_⟩
        by_cases hm2 : m = 1
        · subst hm2
          exfalso
          have hl : (G1 ++ G2).length = 0 := by
            rw [List.length_append] at hm ⊢
            rw [List.length_cons] at hm
            omega
          have : G1 ++ G2 = [] := List.eq_nil_of_length_eq_zero hl
          rw [this] at h1
          have hz := h1.nil (pv w x)
          have hpe := pv_ne (w := w) (f := e') (by omega)
          rw [h2] at hpe
          exact hpe hz
        · have : m - 1 = (m - 1 - 1) + 1 := by omega
          rw [show 2 * b + 1 + 1 = 2 * (b + 1) by omega, ← Nat.mul_assoc, ← Nat.pow_succ, show (m - 1 - 1).succ = m - 1 by omega]
          exact Nat.le_refl _
/-- small at all places where the lattice's rows begin: small everywhere -/
theorem all_small : ∀ (n j m b X : Nat) (G : List Fn), j + n = w → G.length ≤ m → (∀ g ∈ G, Sb w b g ∧ ∀ i, i < j → g i = 0) → ∀ x, Lat G x → (∀ e, Lat G e → pv w e < w → (x (pv w e)).natAbs < 2 ^ X) → Sb w (X + (b + 1) * (2 ^ m - 1) + m) x
  | 0, j, m, b, X, G, hn, _, hG, x, hx, _ => fun i hi => by
    rw [hx.at_zero fun g hg => (hG g hg).2 i (by omega)]
    exact Nat.pow_pos (by decide)
  | n + 1, j, m, b, X, G, hn, hm, hG, x, hx, hp => by
    by_cases hall : ∀ g ∈ G, g j = 0
    · refine all_small n (j + 1) m b X G (by omega) hm (fun g hg => ⟨(hG g hg).1, fun i hi => ?_⟩) x hx hp
      by_cases q : i = j
      · rw [q]
        exact hall g hg
      · exact (hG g hg).2 i (by omega)
    · obtain ⟨e, he, hej⟩ : ∃ e, e ∈ G ∧ e j ≠ 0 := by
        refine Classical.byContradiction fun z => hall fun g hg => Classical.byContradiction fun k => z ⟨g, hg, k⟩
      obtain ⟨G1, G2, rfl⟩ := List.append_of_mem he
      obtain ⟨eb, ez⟩ := hG e he
      obtain ⟨m', rfl⟩ : ∃ m', m = m' + 1 := by
        rw [List.length_append, List.length_cons] at hm
        exact ⟨m - 1, by omega⟩
      have hjw : j < w := by omega
      have hxj : (x j).natAbs < 2 ^ X := by
        have pe : pv w e = j := pv_eq hjw hej ez
        have := hp e (.mem he) (by omega)
        rw [pe] at this
        exact this
      have ih := all_small n (j + 1) m' (2 * b + 1) (X + b + 1) ((G1 ++ G2).map (elim j e)) (by omega) (by
          rw [List.length_map, List.length_append]
          rw [List.length_append, List.length_cons] at hm
          omega) (fun g hg => by
          obtain ⟨a, ha, rfl⟩ := List.mem_map.mp hg
          have hag : a ∈ G1 ++ e :: G2 := by
            rcases List.mem_append.mp ha with k | k
            · exact List.mem_append_left _ k
            · exact List.mem_append_right _ (List.mem_cons_of_mem _ k)
          obtain ⟨ab, az⟩ := hG a hag
          refine ⟨elim_sb hjw eb ab, fun i hi => ?_⟩
          show e j * a i - a j * e i = 0
          by_cases q : i = j
          · rw [q, Int.mul_comm]
            omega
          · rw [az i (by omega), ez i (by omega)]
            simp) _ (elim_lat (j := j) hx) (fun c hc hcw => by
          have h1 := hp c (hc.sub elim_back) hcw
          show (e j * x _ - x j * e _).natAbs < _
          exact sub_lt2 (mul_lt2 (eb j hjw) h1) (mul_lt2 hxj (eb _ hcw)) (by omega) (by omega))
      have hpw : 1 ≤ 2 ^ m' := Nat.pow_pos (by decide)
      have hR : X + b + 1 + (2 * b + 1 + 1) * (2 ^ m' - 1) + m' + 1 = X + (b + 1) * (2 ^ (m' + 1) - 1) + (m' + 1) := by
        have e1 : (2 * b + 1 + 1) * (2 ^ m' - 1) = (b + 1) * (2 * (2 ^ m' - 1)) := by
          rw [show 2 * b + 1 + 1 = (b + 1) * 2 by omega, Nat.mul_assoc]
        have e2 : 2 ^ (m' + 1) - 1 = 2 * (2 ^ m' - 1) + 1 := by rw [Nat.pow_succ]; omega
        rw [e1, e2, Nat.mul_add]
        omega
      intro i hi
      have h1 := ih i hi
      have h2 : (x j * e i).natAbs < 2 ^ (X + b) := mul_lt2 hxj (eb i hi)
      have h3 : e j * x i = elim j e x i + x j * e i := by
        show _ = e j * x i - x j * e i + _
        omega
      have h4 : (x i).natAbs ≤ (e j * x i).natAbs := by
        rw [Int.natAbs_mul]
        exact Nat.le_mul_of_pos_left _ (by omega)
      rw [h3] at h4
      refine Nat.lt_of_le_of_lt h4 ?_
      rw [← hR]
      refine add_lt2 h1 h2 (by omega) ?_
      have : b ≤ b + 1 + (2 * b + 1 + 1) * (2 ^ m' - 1) := by omega
      omega
/-! ### of a staircase -/
def cut (w : Nat) (f : Fn) : Fn := fun j => if j < w then f j else 0
theorem cut_at {j : Nat} (h : j < w) : cut w x j = x j := if_pos h
theorem lat_cut {vs : List Fn} (h : Lat vs x) : Lat (vs.map (cut w)) (cut w x) := by
  induction h with
  | zero => exact Lat.zero.eq fun j => by unfold cut; split <;> rfl
  | @add x a t _ ha ih =>
    refine (ih.add t (List.mem_map.mpr ⟨a, ha, rfl⟩)).eq fun j => ?_
    show cut w x j + t * cut w a j = cut w (fun j => x j + t * a j) j
    unfold cut
    split <;> simp
theorem pv_same {f g : Fn} (h : ∀ j, j < w → f j = g j) (hp : pv w f < w) : pv w g = pv w f :=
  pv_eq hp (by rw [← h _ hp]; exact pv_ne hp) fun j hj => by rw [← h j (by omega)]; exact pv_zero hj
theorem pw_mem {α : Type} {R : α → α → Prop} : ∀ {l : List α}, l.Pairwise R → ∀ a ∈ l, ∀ b ∈ l, a = b ∨ R a b ∨ R b a
  | [], _, a, ha, _, _ => by cases ha
  | c :: l, h, a, ha, b, hb => by
    obtain ⟨h1, h2⟩ := List.pairwise_cons.mp h
    rcases List.mem_cons.mp ha with ea | ma <;> rcases List.mem_cons.mp hb with e2 | mb
    · exact .inl (ea.trans e2.symm)
    · rw [ea]; exact .inr (.inl (h1 b mb))
    · rw [e2]; exact .inr (.inr (h1 a ma))
    · exact pw_mem h2 a ma b mb
theorem Ech.inj (h : Ech w A) {a b : Fn} (ha : a ∈ A) (hb : b ∈ A) (e : pv w a = pv w b) : a = b := by
  rcases pw_mem h.inc a ha b hb with z | z | z
  · exact z
  · omega
  · omega
/-- a staircase over some vectors -/
structure Over (w : Nat) (vs A : List Fn) : Prop where
  ech : Ech w A
  to : ∀ a ∈ A, Lat vs a
  back : ∀ v ∈ vs, LatE w A v
theorem Over.cut_back {vs : List Fn} (h : Over w vs A) (hx : Lat (vs.map (cut w)) x) : LatE w A x :=
  LatE.sub (fun a ha => by
    obtain ⟨v, hv, rfl⟩ := List.mem_map.mp ha
    obtain ⟨y, hy, e⟩ := h.back v hv
    exact ⟨y, hy, fun j hj => by rw [cut_at hj, e j hj]⟩) hx.e
theorem Over.piv {vs : List Fn} {b : Nat} (h : Over w vs A) (hm : vs.length ≤ m) (hv : ∀ v ∈ vs, Sb w b v) : ∀ a ∈ A, (a (pv w a)).natAbs < 2 ^ (2 ^ (m - 1) * (b + 1)) := fun a ha => by
  have hp := h.ech.lt a ha
  have hc : pv w (cut w a) = pv w a := pv_same (fun j hj => (cut_at hj).symm) hp
  obtain ⟨e, he, e1, e2⟩ := piv_small (w := w) w 0 m b (vs.map (cut w)) (by omega) (by rw [List.length_map]; exact hm) (fun g hg => by
    obtain ⟨v, hv', rfl⟩ := List.mem_map.mp hg
    exact ⟨fun i hi => by rw [cut_at hi]; exact hv v hv' i hi, fun i hi => by omega⟩) _ (lat_cut (h.to a ha)) (by rw [hc]; exact hp)
  rw [hc] at e1 e2
  obtain ⟨y, hy, e3⟩ := h.cut_back he
  have ep : pv w y = pv w a := by rw [pv_same e3 (by omega), e1]
  obtain ⟨c, hcm, e4, e5⟩ := h.ech.pivot hy (by omega)
  have hac : a = c := h.ech.inj ha hcm (by omega)
  subst hac
  rw [← e3 _ hp] at e5
  refine Nat.lt_of_le_of_lt (Nat.le_of_dvd (Nat.pos_of_ne_zero fun z => ?_) (Int.natAbs_dvd_natAbs.mpr e5)) e2
  have := pv_ne (w := w) (f := e) (by omega)
  rw [e1] at this
  omega
theorem Over.small {vs : List Fn} {b : Nat} (h : Over w vs A) (hr : Red w A) (hm : vs.length ≤ m) (hv : ∀ v ∈ vs, Sb w b v) : ∀ a ∈ A, Sb w (2 ^ (m - 1) * (b + 1) + (b + 1) * (2 ^ m - 1) + m) a := fun a ha => by
  have hp := h.ech.lt a ha
  have key := all_small (w := w) w 0 m b (2 ^ (m - 1) * (b + 1)) (vs.map (cut w)) (by omega) (by rw [List.length_map]; exact hm) (fun g hg => by
    obtain ⟨v, hv', rfl⟩ := List.mem_map.mp hg
    exact ⟨fun i hi => by rw [cut_at hi]; exact hv v hv' i hi, fun i hi => by omega⟩) _ (lat_cut (h.to a ha)) (fun e he hep => by
    obtain ⟨y, hy, e3⟩ := h.cut_back he
    have ep : pv w y = pv w e := pv_same e3 hep
    obtain ⟨c, hcm, e4, _⟩ := h.ech.pivot hy (by omega)
    rw [cut_at hep, ← ep, e4]
    have pc := h.piv hm hv c hcm
    have both : A.Pairwise fun a b => pv w a < pv w b ∧ 0 ≤ a (pv w b) ∧ a (pv w b) < b (pv w b) := List.Pairwise.and h.ech.inc hr.low
    rcases pw_mem both a ha c hcm with z | ⟨_, z1, z2⟩ | ⟨z, _, _⟩
    · rw [z]
      exact pc
    · omega
    · rw [pv_zero z]
      exact Nat.pow_pos (by decide))
  intro i hi
  have := key i hi
  rw [cut_at hi] at this
  exact this
end
end Z

set_option linter.all false
set_option maxRecDepth 100000
set_option maxHeartbeats 4000000
namespace Z
/-! ### sizes of the staircase's making -/
def Pz (w Mx b : Nat) (f : Fn) : Prop := (∀ j, j < w → (f j).natAbs < 2 ^ b) ∧ ∀ j, (f j).natAbs < 2 ^ (Mx + b)
def Rz (w a Mx : Nat) (f : Fn) : Prop := (∀ j, j < w → (f j).natAbs < 2 ^ a) ∧ ∀ j, (f j).natAbs < 2 ^ Mx
section
variable {w Mx a b : Nat} {A : List Fn} {x o l : Fn}
theorem Pz.mono {b2 M2 : Nat} (h : Pz w Mx b x) (hb : b ≤ b2) (hm : Mx + b ≤ M2 + b2) : Pz w M2 b2 x := ⟨fun j hj => lt2_mono (h.1 j hj) hb, fun j => lt2_mono (h.2 j) hm⟩
theorem Rz.mono {a2 M2 : Nat} (h : Rz w a Mx x) (hb : a ≤ a2) (hm : Mx ≤ M2) : Rz w a2 M2 x := ⟨fun j hj => lt2_mono (h.1 j hj) hb, fun j => lt2_mono (h.2 j) hm⟩
theorem fdiv_abs {x p : Int} (hp : 0 < p) : (x.fdiv p).natAbs ≤ x.natAbs := by
  rw [Int.fdiv_eq_ediv_of_nonneg _ (by omega)]
  exact Int.natAbs_ediv_le_natAbs x p
theorem less_pz {t : Int} (hx : Pz w Mx b x) (ho : Rz w a Mx o) (ht : t.natAbs < 2 ^ b) : Pz w Mx (b + a + 1) (lessF x o t) :=
  ⟨fun j hj => sub_lt2 (hx.1 j hj) (mul_lt2 ht (ho.1 j hj)) (by omega) (by omega), fun j => sub_lt2 (hx.2 j) (mul_lt2 ht (ho.2 j)) (by omega) (by omega)⟩
theorem rem_pz : ∀ {A : List Fn} {b : Nat} {x : Fn}, (∀ c ∈ A, Rz w a Mx c ∧ pv w c < w ∧ 0 < c (pv w c)) → Pz w Mx b x → Pz w Mx (b + A.length * (a + 1)) (remF w A x)
  | [], b, x, _, h => by
    rw [List.length_nil, Nat.zero_mul]
    exact h
  | c :: A, b, x, hA, h => by
    obtain ⟨h1, h2, h3⟩ := hA c List.mem_cons_self
    have ht : ((x (pv w c)).fdiv (c (pv w c))).natAbs < 2 ^ b := Nat.lt_of_le_of_lt (fdiv_abs h3) (h.1 _ h2)
    have := rem_pz (fun d hd => hA d (List.mem_cons_of_mem _ hd)) (less_pz h h1 ht)
    rw [remF]
    refine this.mono ?_ ?_ <;> (rw [List.length_cons, Nat.succ_mul]; omega)
theorem rem_snoc {c : Fn} : ∀ {A : List Fn} {x : Fn}, remF w (A ++ [c]) x = lessF (remF w A x) c ((remF w A x (pv w c)).fdiv (c (pv w c)))
  | [], x => rfl
  | d :: A, x => by
    show remF w (A ++ [c]) _ = lessF (remF w A _) c _
    rw [rem_snoc]
    rfl
theorem mul_le_lt {p q : Nat} {x y : Int} (h : x.natAbs ≤ 2 ^ p) (k : y.natAbs < 2 ^ q) : (x * y).natAbs < 2 ^ (p + q) := by
  rw [Int.natAbs_mul, Nat.pow_add]
  exact Nat.lt_of_le_of_lt (Nat.mul_le_mul_right _ h) (Nat.mul_lt_mul_of_pos_left k (Nat.pow_pos (by decide)))
theorem ins_pz {rs res : List Fn} (h : Ins w rs l res) : ∀ b, (∀ r ∈ rs, Rz w a Mx r ∧ pv w r < w) → Pz w Mx b l → a ≤ b → ∀ x ∈ res, Pz w Mx (b + rs.length * (a + 1)) x := by
  induction h with
  | inn _ =>
    intro b _ hl _ x hx
    rw [List.mem_singleton.mp hx]
    exact hl.mono (by omega) (by omega)
  | out _ =>
    intro b _ _ _ x hx
    cases hx
  | @gt r l rs res _ _ ih =>
    intro b hr hl hab x hx
    rcases List.mem_cons.mp hx with rfl | m
    · obtain ⟨h1, _⟩ := hr x List.mem_cons_self
      exact ⟨fun j hj => lt2_mono (h1.1 j hj) (by omega), fun j => lt2_mono (h1.2 j) (by omega)⟩
    · refine (ih b (fun q hq => hr q (List.mem_cons_of_mem _ hq)) hl hab x m).mono ?_ ?_ <;> (rw [List.length_cons, Nat.succ_mul]; omega)
  | @lt r l rs res _ _ ih =>
    intro b hr hl hab x hx
    obtain ⟨h1, _⟩ := hr r List.mem_cons_self
    rcases List.mem_cons.mp hx with rfl | m
    · exact hl.mono (by omega) (by omega)
    · refine (ih b (fun q hq => hr q (List.mem_cons_of_mem _ hq)) ⟨fun j hj => lt2_mono (h1.1 j hj) hab, fun j => lt2_mono (h1.2 j) (by omega)⟩ hab x m).mono ?_ ?_ <;> (rw [List.length_cons, Nat.succ_mul]; omega)
  | @eq r l k' l' rs res he hR _ ih =>
    intro b hr hl hab x hx
    obtain ⟨h1, h2⟩ := hr r List.mem_cons_self
    have hp : pv w l < w := by omega
    obtain ⟨α, β, γ, δ, e1, e2, s1, s2, s3, s4⟩ := hR.small (pv_ne hp)
    have lp := hl.1 _ hp
    have rp := h1.1 _ hp
    have key : ∀ (p q : Int) (f : Fn), (∀ j, f j = p * r j + q * l j) → p.natAbs < 2 ^ b → q.natAbs ≤ 2 ^ a → Pz w Mx (b + a + 1) f := fun p q f e hp hq =>
      ⟨fun j hj => by rw [e j]; exact add_lt2 (mul_lt2 hp (h1.1 j hj)) (mul_le_lt hq (hl.1 j hj)) (by omega) (by omega), fun j => by rw [e j]; exact add_lt2 (mul_lt2 hp (h1.2 j)) (mul_le_lt hq (hl.2 j)) (by omega) (by omega)⟩
    rcases List.mem_cons.mp hx with rfl | m
    · exact (key α β _ e1 (by omega) (by omega)).mono (by rw [List.length_cons, Nat.succ_mul]; omega) (by rw [List.length_cons, Nat.succ_mul]; omega)
    · refine (ih (b + a + 1) (fun q hq => hr q (List.mem_cons_of_mem _ hq)) (key γ δ _ e2 (by omega) (by omega)) (by omega) x m).mono ?_ ?_ <;> (rw [List.length_cons, Nat.succ_mul]; omega)
theorem red_pz : ∀ {A : List Fn}, (∀ c ∈ A, Pz w Mx b c ∧ pv w c < w ∧ 0 < c (pv w c)) → ∀ x ∈ redF w A, Pz w (Mx + b) (b + A.length * (b + 1)) x
  | [], _, x, hx => by cases hx
  | c :: A, hA, x, hx => by
    rcases List.mem_cons.mp hx with rfl | m
    · have h1 := (hA c List.mem_cons_self).1
      have := rem_pz (w := w) (a := b) (Mx := Mx + b) (A := A) (b := b) (x := c) (fun d hd => by
        obtain ⟨k1, k2, k3⟩ := hA d (List.mem_cons_of_mem _ hd)
        exact ⟨⟨k1.1, k1.2⟩, k2, k3⟩) ⟨h1.1, fun j => lt2_mono (h1.2 j) (by omega)⟩
      refine this.mono ?_ ?_ <;> (rw [List.length_cons, Nat.succ_mul]; omega)
    · refine (red_pz (fun d hd => hA d (List.mem_cons_of_mem _ hd)) x m).mono ?_ ?_ <;> (rw [List.length_cons, Nat.succ_mul]; omega)
/-! ### positive pivots -/
def posF (w : Nat) (f : Fn) : Fn := if 0 < f (pv w f) then f else fun j => f j * -1
theorem pos_pv (h : pv w x < w) : pv w (posF w x) = pv w x ∧ 0 < posF w x (pv w x) ∧ (posF w x (pv w x)).natAbs = (x (pv w x)).natAbs := by
  have hn := pv_ne h
  unfold posF
  by_cases hp : 0 < x (pv w x)
  · rw [if_pos hp]
    exact ⟨rfl, hp, rfl⟩
  · rw [if_neg hp]
    refine ⟨pv_eq h ?_ fun j hj => ?_, ?_, ?_⟩
    · show x (pv w x) * -1 ≠ 0
      omega
    · show x j * -1 = 0
      rw [pv_zero hj]
      rfl
    · show 0 < x (pv w x) * -1
      omega
    · show (x (pv w x) * -1).natAbs = _
      omega
theorem pos_two {B : List Fn} : (Lat B x → Lat B (posF w x)) ∧ (Lat B (posF w x) → Lat B x) := by
  unfold posF
  split
  · exact ⟨id, id⟩
  · exact ⟨fun h => (Lat.smul (-1) h).eq fun j => by omega, fun h => (Lat.smul (-1) h).eq fun j => by omega⟩
theorem pos_pz (h : Pz w Mx b x) : Pz w Mx b (posF w x) := by
  unfold posF
  split
  · exact h
  · exact ⟨fun j hj => by
      have := h.1 j hj
      show (x j * -1).natAbs < _
      omega, fun j => by
      have := h.2 j
      show (x j * -1).natAbs < _
      omega⟩
theorem pos_ech {A : List Fn} (h : Ech w A) : Ech w (A.map (posF w)) ∧ ∀ a ∈ A.map (posF w), 0 < a (pv w a) := by
  refine ⟨⟨fun a ha => ?_, ?_⟩, fun a ha => ?_⟩
  · obtain ⟨c, hc, rfl⟩ := List.mem_map.mp ha
    rw [(pos_pv (h.lt c hc)).1]
    exact h.lt c hc
  · rw [List.pairwise_map]
    refine h.inc.imp_of_mem fun {c d} hc hd hcd => ?_
    rw [(pos_pv (h.lt c hc)).1, (pos_pv (h.lt d hd)).1]
    exact hcd
  · obtain ⟨c, hc, rfl⟩ := List.mem_map.mp ha
    rw [(pos_pv (h.lt c hc)).1]
    exact (pos_pv (h.lt c hc)).2.1
theorem pos_lat {A : List Fn} : (∀ a ∈ A.map (posF w), Lat A a) ∧ ∀ a ∈ A, Lat (A.map (posF w)) a := by
  refine ⟨fun a ha => ?_, fun a ha => ?_⟩
  · obtain ⟨c, hc, rfl⟩ := List.mem_map.mp ha
    exact pos_two.1 (.mem hc)
  · exact pos_two.2 (.mem (List.mem_map.mpr ⟨a, ha, rfl⟩))
/-! ### one vector more -/
theorem Over.red {vs : List Fn} (h : Over w vs A) (hp : ∀ a ∈ A, 0 < a (pv w a)) : Over w vs (redF w A) ∧ Red w (redF w A) := by
  obtain ⟨h1, h2⟩ := red_ok h.ech hp
  obtain ⟨k1, k2⟩ := red_lat (w := w) (A := A)
  exact ⟨⟨h1, fun a ha => (k1 a ha).sub h.to, fun v hv => LatE.sub (fun a ha => (k2 a ha).e) (h.back v hv)⟩, h2⟩
theorem Over.pos {vs : List Fn} (h : Over w vs A) : Over w vs (A.map (posF w)) := by
  obtain ⟨k1, k2⟩ := pos_lat (w := w) (A := A)
  exact ⟨(pos_ech h.ech).1, fun a ha => (k1 a ha).sub h.to, fun v hv => LatE.sub (fun a ha => (k2 a ha).e) (h.back v hv)⟩
theorem Over.ins {vs res : List Fn} {v : Fn} (h : Over w vs A) (hi : Ins w A (remF w A v) res) : Over w (vs ++ [v]) res := by
  have up : ∀ a ∈ A, Lat (vs ++ [v]) a := fun a ha => (h.to a ha).mono fun c hc => List.mem_append_left _ hc
  have hb := ins_back hi
  have hA : ∀ a ∈ A, LatE w res a := fun a ha => hb a (List.mem_cons_of_mem _ ha)
  refine ⟨ins_ech hi h.ech, fun a ha => (ins_to hi a (.mem ha)).sub fun c hc => ?_, fun u hu => ?_⟩
  · rcases List.mem_cons.mp hc with rfl | m
    · exact rem_mem up (.mem (List.mem_append_right _ (List.mem_singleton.mpr rfl)))
    · exact up c m
  · rcases List.mem_append.mp hu with m | m
    · exact LatE.sub hA (h.back u m)
    · rw [List.mem_singleton.mp m]
      obtain ⟨y, hy, e⟩ := rem_lat (w := w) (A := A) (x := v)
      obtain ⟨z, hz, e2⟩ := LatE.sub hA hy.e
      obtain ⟨l, hl, e3⟩ := hb _ List.mem_cons_self
      refine ⟨_, hl.comb (-1) hz, fun j hj => ?_⟩
      have q1 := e j
      have q2 := e2 j hj
      have q3 := e3 j hj
      show v j = l j + -1 * z j
      omega
theorem Over.skip {vs : List Fn} {v : Fn} (h : Over w vs A) (hp : ¬ pv w (remF w A v) < w) : Over w (vs ++ [v]) A := by
  refine ⟨h.ech, fun a ha => (h.to a ha).mono fun c hc => List.mem_append_left _ hc, fun u hu => ?_⟩
  rcases List.mem_append.mp hu with m | m
  · exact h.back u m
  · rw [List.mem_singleton.mp m]
    obtain ⟨y, hy, e⟩ := rem_lat (w := w) (A := A) (x := v)
    refine ⟨_, Lat.smul (-1) hy, fun j hj => ?_⟩
    have q1 := e j
    have q2 := pv_out hp hj
    show v j = -1 * y j
    omega
theorem Over.nil : Over w [] [] := ⟨⟨(fun a h => by cases h), .nil⟩, (fun a h => by cases h), (fun v h => by cases h)⟩
theorem Red.nil : Red w [] := ⟨(fun a h => by cases h), .nil⟩
theorem ins_len {rs res : List Fn} (h : Ins w rs l res) : res.length ≤ rs.length + 1 := by
  induction h with
  | inn _ => exact Nat.le_refl _
  | out _ => exact Nat.zero_le _
  | gt _ _ ih => rw [List.length_cons, List.length_cons]; omega
  | lt _ _ ih => rw [List.length_cons, List.length_cons]; omega
  | eq _ _ _ ih => rw [List.length_cons, List.length_cons]; omega
theorem red_len : ∀ {A : List Fn}, (redF w A).length = A.length
  | [] => rfl
  | a :: A => congrArg (· + 1) red_len
/-- two generators of one lattice have one reduced staircase, below w -/
theorem Over.same {vs us B : List Fn} (hA : Over w vs A) (rA : Red w A) (hB : Over w us B) (rB : Red w B) (h1 : ∀ v ∈ vs, LatE w us v) (h2 : ∀ u ∈ us, LatE w vs u) : A.map (cut w) = B.map (cut w) := by
  have ec : ∀ {A : List Fn}, Ech w A → Red w A → Ech w (A.map (cut w)) ∧ Red w (A.map (cut w)) := fun {A} hE hR => by
    have pc : ∀ a ∈ A, pv w (cut w a) = pv w a := fun a ha => pv_same (fun j hj => (cut_at hj).symm) (hE.lt a ha)
    refine ⟨⟨fun a ha => ?_, ?_⟩, ⟨fun a ha => ?_, ?_⟩⟩
    · obtain ⟨c, hc, rfl⟩ := List.mem_map.mp ha
      rw [pc c hc]
      exact hE.lt c hc
    · rw [List.pairwise_map]
      refine hE.inc.imp_of_mem fun {c d} hc hd hcd => ?_
      rw [pc c hc, pc d hd]
      exact hcd
    · obtain ⟨c, hc, rfl⟩ := List.mem_map.mp ha
      rw [pc c hc, cut_at (hE.lt c hc)]
      exact hR.pos c hc
    · rw [List.pairwise_map]
      refine hR.low.imp_of_mem fun {c d} hc hd hcd => ?_
      rw [pc d hd, cut_at (hE.lt d hd), cut_at (hE.lt d hd)]
      exact hcd
  have ex : ∀ {C : List Fn} {x : Fn}, LatE w C x → Lat (C.map (cut w)) (cut w x) := fun {C x} ⟨y, hy, e⟩ => (lat_cut hy).eq fun j => by
    unfold cut
    split
    · exact (e j (by assumption)).symm
    · rfl
  have to_ : ∀ {vs us A B : List Fn}, Over w vs A → Over w us B → (∀ v ∈ vs, LatE w us v) → ∀ x, Lat (A.map (cut w)) x → Lat (B.map (cut w)) x := fun {vs us A B} hA hB h1 x hx => hx.sub fun c hc => by
    obtain ⟨a, ha, rfl⟩ := List.mem_map.mp hc
    exact ex (LatE.sub hB.back (LatE.sub h1 (hA.to a ha).e))
  obtain ⟨a1, a2⟩ := ec hA.ech rA
  obtain ⟨b1, b2⟩ := ec hB.ech rB
  exact uniq a1 a2 b1 b2 fun x => ⟨to_ hA hB h1 x, to_ hB hA h2 x⟩
end
end Z

set_option linter.all false
set_option maxRecDepth 100000
set_option maxHeartbeats 4000000
namespace Z
/-! ### Euclid by two numbers, with the numbers of the combination -/
theorem fm_spec {x y : Int} (hy : y ≠ 0) : (0 < y → 0 ≤ x - x.fdiv y * y ∧ x - x.fdiv y * y < y) ∧ (y < 0 → y < x - x.fdiv y * y ∧ x - x.fdiv y * y ≤ 0) := by
  rw [fmod_sub]
  refine ⟨fun h => ⟨Int.fmod_nonneg_of_pos _ h, Int.fmod_lt_of_pos _ h⟩, fun h => ?_⟩
  have h1 := Int.fmod_nonneg_of_pos (-x) (show 0 < -y by omega)
  have h2 := Int.fmod_lt_of_pos (-x) (show 0 < -y by omega)
  have e : x.fmod y = -((-x).fmod (-y)) := by
    rw [Int.neg_fmod_neg]
    omega
  omega
theorem fdiv_abs2 {x y : Int} (hy : y ≠ 0) : (x.fdiv y).natAbs ≤ x.natAbs := by
  by_cases h : 0 < y
  · exact fdiv_abs h
  · have e : x.fdiv y = (-x).fdiv (-y) := (Int.neg_fdiv_neg x y).symm
    rw [e]
    have := fdiv_abs (x := -x) (show 0 < -y by omega)
    omega
structure Eu (K L T x y a b c d : Int) : Prop where
  det : a * d - b * c = 1 ∨ a * d - b * c = -1
  na : a.natAbs ≤ L.natAbs
  nb : b.natAbs ≤ K.natAbs + 2 * L.natAbs
  p1 : c.natAbs * x.natAbs + a.natAbs * y.natAbs ≤ L.natAbs
  p2 : d.natAbs * x.natAbs + b.natAbs * y.natAbs ≤ K.natAbs + 2 * L.natAbs
  nx : x ≠ 0
  big : x.natAbs ≤ K.natAbs + L.natAbs
  bigy : y.natAbs ≤ K.natAbs + L.natAbs
  st : (x = K ∧ y = L ∧ a = 1 ∧ b = 0 ∧ c = 0 ∧ d = 1) ∨ (0 < x ∧ 0 ≤ y) ∨ (x < 0 ∧ y ≤ 0)
  dv : y.natAbs ≤ T ∨ (x.natAbs ≤ T ∧ T < y.natAbs) ∨ ((x - y).natAbs ≤ T ∧ T < y.natAbs)
theorem Eu.start {K L T : Int} (hK : K ≠ 0) (hL : L ≠ 0) (hT : K.natAbs ≤ T) : Eu K L T K L 1 0 0 1 := by
  refine ⟨.inl (by decide), by omega, by simp, by simp, by simp, hK, by omega, by omega, .inl ⟨rfl, rfl, rfl, rfl, rfl, rfl⟩, ?_⟩
  by_cases h : L.natAbs ≤ T
  · exact .inl h
  · exact .inr (.inl ⟨hT, by omega⟩)
theorem quo_same {x y q r : Int} (hr : r = x - q * y) (h : (0 < x ∧ 0 < y ∧ 0 ≤ r ∧ r < y) ∨ (x < 0 ∧ y < 0 ∧ y < r ∧ r ≤ 0)) : q.natAbs * y.natAbs + r.natAbs = x.natAbs := by
  have hq : 0 ≤ q := by
    refine Int.not_lt.mp fun z => ?_
    rcases h with ⟨h1, h2, h3, h4⟩ | ⟨h1, h2, h3, h4⟩
    · have := Int.mul_le_mul_of_nonneg_right (show q ≤ -1 by omega) (show 0 ≤ y by omega)
      omega
    · have := Int.mul_le_mul_of_nonneg_right (show q ≤ -1 by omega) (show 0 ≤ -y by omega)
      have e : q * -y = -(q * y) := Int.mul_neg q y
      omega
  have e : q.natAbs * y.natAbs = (q * y).natAbs := (Int.natAbs_mul q y).symm
  rw [e]
  rcases h with ⟨h1, h2, h3, h4⟩ | ⟨h1, h2, h3, h4⟩
  · have := Int.mul_nonneg hq (show 0 ≤ y by omega)
    omega
  · have := Int.mul_nonneg hq (show 0 ≤ -y by omega)
    have e2 : q * -y = -(q * y) := Int.mul_neg q y
    omega
theorem tri {a c q : Int} {y r x : Nat} (h : q.natAbs * y + r ≤ x) : (a - q * c).natAbs * y + c.natAbs * r ≤ c.natAbs * x + a.natAbs * y := by
  have h1 : (a - q * c).natAbs ≤ a.natAbs + q.natAbs * c.natAbs := by
    rw [← Int.natAbs_mul]
    omega
  have h2 := Nat.mul_le_mul_right y h1
  have h3 := Nat.mul_le_mul_left c.natAbs h
  rw [Nat.add_mul] at h2
  rw [Nat.mul_add] at h3
  have e : q.natAbs * c.natAbs * y = c.natAbs * (q.natAbs * y) := by rw [Nat.mul_comm q.natAbs, Nat.mul_assoc]
  omega
theorem near {x y q r T : Int} (hT : 0 ≤ T) (hr : r = x - q * y) (h : (0 < y ∧ 0 ≤ r ∧ r < y) ∨ (y < 0 ∧ y < r ∧ r ≤ 0)) (hd : (x - y).natAbs ≤ T ∧ T < y.natAbs) : r.natAbs ≤ T ∨ ((y - r).natAbs ≤ T ∧ T < r.natAbs) := by
  have hq : q = 0 ∨ q = 1 := by
    rcases h with ⟨h1, h2, h3⟩ | ⟨h1, h2, h3⟩
    · have q1 : ¬ q ≤ -1 := fun z => by
        have := Int.mul_le_mul_of_nonneg_right z (show 0 ≤ y by omega)
        omega
      have q2 : ¬ 2 ≤ q := fun z => by
        have := Int.mul_le_mul_of_nonneg_right z (show 0 ≤ y by omega)
        omega
      omega
    · have q1 : ¬ q ≤ -1 := fun z => by
        have := Int.mul_le_mul_of_nonneg_right z (show 0 ≤ -y by omega)
        have e : q * -y = -(q * y) := Int.mul_neg q y
        omega
      have q2 : ¬ 2 ≤ q := fun z => by
        have := Int.mul_le_mul_of_nonneg_right z (show 0 ≤ -y by omega)
        have e : q * -y = -(q * y) := Int.mul_neg q y
        omega
      omega
  rcases hq with rfl | rfl <;> omega
theorem far {x y q r T : Int} (hT : 0 ≤ T) (hr : r = x - q * y) (h : (0 < y ∧ 0 ≤ r ∧ r < y) ∨ (y < 0 ∧ y < r ∧ r ≤ 0)) (hd : x.natAbs ≤ T ∧ T < y.natAbs) : r.natAbs ≤ T ∨ ((y - r).natAbs ≤ T ∧ T < r.natAbs) := by
  have hq : q = 0 ∨ q = -1 ∨ q = 1 := by
    rcases h with ⟨h1, h2, h3⟩ | ⟨h1, h2, h3⟩
    · have q1 : ¬ q ≤ -2 := fun z => by
        have := Int.mul_le_mul_of_nonneg_right z (show 0 ≤ y by omega)
        omega
      have q2 : ¬ 2 ≤ q := fun z => by
        have := Int.mul_le_mul_of_nonneg_right z (show 0 ≤ y by omega)
        omega
      omega
    · have q1 : ¬ q ≤ -2 := fun z => by
        have := Int.mul_le_mul_of_nonneg_right z (show 0 ≤ -y by omega)
        have e : q * -y = -(q * y) := Int.mul_neg q y
        omega
      have q2 : ¬ 2 ≤ q := fun z => by
        have := Int.mul_le_mul_of_nonneg_right z (show 0 ≤ -y by omega)
        have e : q * -y = -(q * y) := Int.mul_neg q y
        omega
      omega
  rcases hq with rfl | rfl | rfl <;> omega
theorem Eu.next {K L T x y a b c d : Int} (h : Eu K L T x y a b c d) (hT : 0 ≤ T) (hy : y ≠ 0) : Eu K L T y (x - x.fdiv y * y) c d (a - x.fdiv y * c) (b - x.fdiv y * d) ∧ (x - x.fdiv y * y).natAbs < y.natAbs := by
  have sp := fm_spec (x := x) hy
  generalize x.fdiv y = q at *
  generalize hr : x - q * y = r at *
  have hs : (0 < y ∧ 0 ≤ r ∧ r < y) ∨ (y < 0 ∧ y < r ∧ r ≤ 0) := by
    by_cases hp : 0 < y
    · exact .inl ⟨hp, sp.1 hp⟩
    · exact .inr ⟨by omega, sp.2 (by omega)⟩
  have hlt : r.natAbs < y.natAbs := by omega
  have hx1 : 1 ≤ x.natAbs := by have := h.nx; omega
  have hy1 : 1 ≤ y.natAbs := by omega
  have hcL : c.natAbs ≤ L.natAbs := by
    have h1 := h.p1
    have h2 := Nat.le_mul_of_pos_right c.natAbs hx1
    omega
  have hdL : d.natAbs ≤ K.natAbs + 2 * L.natAbs := by
    have h1 := h.p2
    have h2 := Nat.le_mul_of_pos_right d.natAbs hx1
    omega
  refine ⟨⟨?_, hcL, hdL, ?_, ?_, hy, h.bigy, Nat.le_trans (Nat.le_of_lt hlt) h.bigy, ?_, ?_⟩, hlt⟩
  · have e : c * (b - q * d) - d * (a - q * c) = -(a * d - b * c) := by
      rw [Int.mul_sub, Int.mul_sub]
      have e1 : c * (q * d) = d * (q * c) := by simp only [Int.mul_left_comm, Int.mul_comm]
      rw [e1, Int.mul_comm c b, Int.mul_comm d a]
      omega
    rw [e]
    rcases h.det with z | z <;> omega
  · rcases h.st with ⟨e1, e2, e3, e4, e5, e6⟩ | ⟨h1, h2⟩ | ⟨h1, h2⟩
    · have := h.p1
      rw [e5] at this ⊢
      simp only [Int.mul_zero, Int.sub_zero, Int.natAbs_zero, Nat.zero_mul, Nat.zero_add, Nat.add_zero] at this ⊢
      exact this
    · have := tri (a := a) (c := c) (Nat.le_of_eq (quo_same hr.symm (.inl ⟨h1, by omega, by omega, by omega⟩)))
      exact Nat.le_trans this h.p1
    · have := tri (a := a) (c := c) (Nat.le_of_eq (quo_same hr.symm (.inr ⟨h1, by omega, by omega, by omega⟩)))
      exact Nat.le_trans this h.p1
  · rcases h.st with ⟨e1, e2, e3, e4, e5, e6⟩ | ⟨h1, h2⟩ | ⟨h1, h2⟩
    · rw [e4, e6]
      have hq : q.natAbs * y.natAbs ≤ x.natAbs + r.natAbs := by
        rw [← Int.natAbs_mul]
        omega
      rw [show (0 - q * 1 : Int).natAbs = q.natAbs by omega, ← e1, ← e2]
      have : (1 : Int).natAbs * r.natAbs = r.natAbs := Nat.one_mul _
      omega
    · have := tri (a := b) (c := d) (Nat.le_of_eq (quo_same hr.symm (.inl ⟨h1, by omega, by omega, by omega⟩)))
      exact Nat.le_trans this h.p2
    · have := tri (a := b) (c := d) (Nat.le_of_eq (quo_same hr.symm (.inr ⟨h1, by omega, by omega, by omega⟩)))
      exact Nat.le_trans this h.p2
  · omega
  · rcases h.dv with z | z | z
    · exact .inl (by omega)
    · rcases far hT hr.symm hs z with k | k
      · exact .inl k
      · exact .inr (.inr k)
    · rcases near hT hr.symm hs z with k | k
      · exact .inl k
      · exact .inr (.inr k)
end Z

set_option Elab.async false
set_option linter.all false
set_option maxRecDepth 100000
set_option maxHeartbeats 0
namespace Z
open PySem PySem.Spec PyProof.Rows L2
def top (i : Nat) : Stmt := PySem.Challenge.pw_endlessnets_k06_whole_staircases.main.body.getD i (.Pass ⟨0, 0, 0, 0⟩)
def N_unit : List Str := ["directions", "at", "place"]
def ps_unit : List Str := ["directions", "at"]
def gm_unit : List Str := []
def y_unit : YS := (.seq (.ret (.blt .tuple (.cons (.comp false [2] (.nm 2) (.rng (.var 0)) .yes (.ite (.cmp .Eq (.var 2) (.var 1)) (.int 1) (.int 0))) .nil))) .nil)
def N_vector_times : List Str := ["vector", "number", "x"]
def ps_vector_times : List Str := ["vector", "number"]
def gm_vector_times : List Str := []
def y_vector_times : YS := (.seq (.ret (.blt .tuple (.cons (.comp false [2] (.nm 2) (.seq (.var 0)) .yes (.bin .Mult (.var 2) (.var 1))) .nil))) .nil)
def N_pivot_place : List Str := ["row", "width", "at"]
def ps_pivot_place : List Str := ["row", "width"]
def gm_pivot_place : List Str := []
def y_pivot_place : YS := (.seq (.for_ (.nm 2) (.rng (.var 1)) (.seq (.ite (.cmp .NotEq (.ix (.var 0) (.var 2)) (.int 0)) (.seq (.ret (.var 2)) .nil) .nil) .nil)) (.seq (.ret (.var 1)) .nil))
def N_less_times : List Str := ["row", "other", "times", "x", "y"]
def ps_less_times : List Str := ["row", "other", "times"]
def gm_less_times : List Str := []
def y_less_times : YS := (.seq (.ite (.cmp .Eq (.var 2) (.int 0)) (.seq (.ret (.var 0)) .nil) .nil) (.seq (.ret (.blt .tuple (.cons (.comp false [3, 4] (.tp (.cons (.nm 3) (.cons (.nm 4) .nil))) (.zip (.var 0) (.var 1)) .yes (.bin .Sub (.var 3) (.bin .Mult (.var 2) (.var 4)))) .nil))) .nil))
def N_remainder_by : List Str := ["rows", "vector", "width", "left", "row", "at"]
def ps_remainder_by : List Str := ["rows", "vector", "width"]
def gm_remainder_by : List Str := ["less_times", "pivot_place"]
def y_remainder_by : YS := (.seq (.set 3 (.var 1)) (.seq (.for_ (.nm 4) (.seq (.var 0)) (.seq (.set 5 (.call 1 (.cons (.var 4) (.cons (.var 2) .nil)))) (.seq (.set 3 (.call 0 (.cons (.var 3) (.cons (.var 4) (.cons (.bin .FloorDiv (.ix (.var 3) (.var 5)) (.ix (.var 4) (.var 5))) .nil))))) .nil))) (.seq (.ret (.var 3)) .nil)))
def N_euclid_rows : List Str := ["one", "other", "at", "kept", "left"]
def ps_euclid_rows : List Str := ["one", "other", "at"]
def gm_euclid_rows : List Str := ["less_times"]
def y_euclid_rows : YS := (.seq (.set 3 (.var 0)) (.seq (.set 4 (.var 1)) (.seq (.whl (.cmp .NotEq (.ix (.var 4) (.var 2)) (.int 0)) (.seq (.par 3 4 (.cons (.var 4) (.cons (.call 0 (.cons (.var 3) (.cons (.var 4) (.cons (.fdq (.ix (.var 3) (.var 2)) (.ix (.var 4) (.var 2))) .nil)))) .nil))) .nil)) (.seq (.ret (.tup (.cons (.var 3) (.cons (.var 4) .nil)))) .nil))))
def N_basis_with_row : List Str := ["rows", "vector", "width", "result", "left", "row", "at", "place", "kept"]
def ps_basis_with_row : List Str := ["rows", "vector", "width"]
def gm_basis_with_row : List Str := ["pivot_place", "euclid_rows"]
def y_basis_with_row : YS := (.seq (.set 3 (.lst true .nil)) (.seq (.set 4 (.var 1)) (.seq (.for_ (.nm 5) (.seq (.var 0)) (.seq (.set 6 (.call 0 (.cons (.var 4) (.cons (.var 2) .nil)))) (.seq (.set 7 (.call 0 (.cons (.var 5) (.cons (.var 2) .nil)))) (.seq (.ite (.cmp .Gt (.var 6) (.var 7)) (.seq (.ex (.app (.var 3) (.var 5))) .nil) (.seq (.ite (.cmp .Lt (.var 6) (.var 7)) (.seq (.ex (.app (.var 3) (.var 4))) (.seq (.set 4 (.var 5)) .nil)) (.seq (.tgt (.tp (.cons (.nm 8) (.cons (.nm 4) .nil))) (.call 1 (.cons (.var 5) (.cons (.var 4) (.cons (.var 6) .nil))))) (.seq (.ex (.app (.var 3) (.var 8))) .nil))) .nil)) .nil)))) (.seq (.ite (.cmp .Lt (.call 0 (.cons (.var 4) (.cons (.var 2) .nil))) (.var 2)) (.seq (.ex (.app (.var 3) (.var 4))) .nil) .nil) (.seq (.ret (.fz (.var 3))) .nil)))))
def N_reduced_basis : List Str := ["rows", "width", "positive", "row", "at"]
def ps_reduced_basis : List Str := ["rows", "width"]
def gm_reduced_basis : List Str := ["remainder_by", "pivot_place", "vector_times"]
def y_reduced_basis : YS := (.seq (.set 2 (.comp false [3] (.nm 3) (.seq (.var 0)) .yes (.ite (.cmp .Gt (.ix (.var 3) (.call 1 (.cons (.var 3) (.cons (.var 1) .nil)))) (.int 0)) (.var 3) (.call 2 (.cons (.var 3) (.cons (.neg (.int 1)) .nil)))))) (.seq (.ret (.comp true [4, 3] (.tp (.cons (.nm 4) (.cons (.nm 3) .nil))) (.enm (.var 2)) .yes (.call 0 (.cons (.sl (.var 2) (.sm (.bin .Add (.var 4) (.int 1))) .nop) (.cons (.var 3) (.cons (.var 1) .nil)))))) .nil))
def N_basis_rows : List Str := ["vectors", "width", "rows", "vector", "left"]
def ps_basis_rows : List Str := ["vectors", "width"]
def gm_basis_rows : List Str := ["pivot_place", "reduced_basis", "basis_with_row", "remainder_by"]
def y_basis_rows : YS := (.seq (.set 2 (.lst true .nil)) (.seq (.for_ (.nm 3) (.seq (.var 0)) (.seq (.set 4 (.call 3 (.cons (.var 2) (.cons (.var 3) (.cons (.var 1) .nil))))) (.seq (.ite (.cmp .Lt (.call 0 (.cons (.var 4) (.cons (.var 1) .nil))) (.var 1)) (.seq (.set 2 (.call 1 (.cons (.call 2 (.cons (.var 2) (.cons (.var 4) (.cons (.var 1) .nil)))) (.cons (.var 1) .nil)))) .nil) .nil) .nil))) (.seq (.ret (.var 2)) .nil)))
def N_basis_rows__d : List Str := ["vectors", "width", "rows", "vector", "left"]
def ps_basis_rows__d : List Str := ["vectors", "width"]
def gm_basis_rows__d : List Str := ["pivot_place", "reduced_basis", "basis_with_row", "remainder_by"]
def y_basis_rows__d : YS := (.seq (.set 2 (.lst true .nil)) (.seq (.for_ (.nm 3) (.seq (.var 0)) (.seq (.set 4 (.call 3 (.cons (.var 2) (.cons (.var 3) (.cons (.var 1) .nil))))) (.seq (.ite (.cmp .Lt (.call 0 (.cons (.var 4) (.cons (.var 1) .nil))) (.var 1)) (.seq (.set 2 (.call 1 (.cons (.call 2 (.cons (.var 2) (.cons (.var 4) (.cons (.var 1) .nil)))) (.cons (.var 1) .nil)))) .nil) .nil) .nil))) (.seq (.ret (.fz (.var 2))) .nil)))
def N_hermite : List Str := ["vectors", "width"]
def ps_hermite : List Str := ["vectors", "width"]
def gm_hermite : List Str := ["basis_rows"]
def y_hermite : YS := (.seq (.ret (.call 0 (.cons (.var 0) (.cons (.var 1) .nil)))) .nil)
def N_hermite__d : List Str := ["vectors", "width"]
def ps_hermite__d : List Str := ["vectors", "width"]
def gm_hermite__d : List Str := ["basis_rows"]
def y_hermite__d : YS := (.seq (.ret (.call 0 (.cons (.var 0) (.cons (.var 1) .nil)))) .nil)
def N_hermite_table : List Str := ["vectors", "width", "many", "rows", "row", "at", "vector"]
def ps_hermite_table : List Str := ["vectors", "width"]
def gm_hermite_table : List Str := ["basis_rows", "unit"]
def y_hermite_table : YS := (.seq (.set 2 (.blt .len (.cons (.var 0) .nil))) (.seq (.set 3 (.call 0 (.cons (.comp false [5, 6] (.tp (.cons (.nm 5) (.cons (.nm 6) .nil))) (.enm (.var 0)) .yes (.tup (.star (.var 6) (.star (.call 1 (.cons (.var 2) (.cons (.var 5) .nil))) .nil)))) (.cons (.var 1) .nil)))) (.seq (.ret (.tupU (.cons (.comp true [4] (.nm 4) (.seq (.var 3)) .yes (.sl (.var 4) .nop (.sm (.var 1)))) (.cons (.comp true [4] (.nm 4) (.seq (.var 3)) .yes (.sl (.var 4) (.sm (.var 1)) .nop)) .nil)))) .nil)))
def N_hermite_table__d : List Str := ["vectors", "width", "many", "rows", "row", "at", "vector"]
def ps_hermite_table__d : List Str := ["vectors", "width"]
def gm_hermite_table__d : List Str := ["basis_rows", "unit"]
def y_hermite_table__d : YS := (.seq (.set 2 (.blt .len (.cons (.var 0) .nil))) (.seq (.set 3 (.call 0 (.cons (.comp false [5, 6] (.tp (.cons (.nm 5) (.cons (.nm 6) .nil))) (.enm (.var 0)) .yes (.tup (.star (.var 6) (.star (.call 1 (.cons (.var 2) (.cons (.var 5) .nil))) .nil)))) (.cons (.var 1) .nil)))) (.seq (.ret (.tup (.cons (.comp false [4] (.nm 4) (.seq (.var 3)) .yes (.sl (.var 4) .nop (.sm (.var 1)))) (.cons (.comp false [4] (.nm 4) (.seq (.var 3)) .yes (.sl (.var 4) (.sm (.var 1)) .nop)) .nil)))) .nil)))
def N__law_bag : List Str := ["_law_script", "_law_cells"]
def ps__law_bag : List Str := ["_law_script"]
def gm__law_bag : List Str := []
def y__law_bag : YS := (.seq (.set 1 (.blt .list (.cons (.sl (.var 0) .nop (.sm (.int 63))) .nil))) (.seq (.ret (.lst true (.cons (.var 1) (.cons (.int 0) (.cons (.int 0) (.cons (.bin .Add (.int 12035) (.bin .Mult (.int 37) (.blt .len (.cons (.var 1) .nil)))) (.cons (.int 0) .nil))))))) .nil))
def N__law_draw : List Str := ["_law_bag_here", "_law_size", "_law_seed", "_law_cell", "_law_digit"]
def ps__law_draw : List Str := ["_law_bag_here", "_law_size"]
def gm__law_draw : List Str := []
def y__law_draw : YS := (.seq (.seti (.var 0) (.int 4) (.bin .Add (.ix (.var 0) (.int 4)) (.int 1))) (.seq (.ite (.and (.cmp .Eq (.ix (.var 0) (.int 2)) (.int 0)) (.one (.cmp .Lt (.ix (.var 0) (.int 1)) (.blt .len (.cons (.ix (.var 0) (.int 0)) .nil))))) (.seq (.set 3 (.blt .abs (.cons (.ix (.ix (.var 0) (.int 0)) (.ix (.var 0) (.int 1))) .nil))) (.seq (.seti (.var 0) (.int 1) (.bin .Add (.ix (.var 0) (.int 1)) (.int 1))) (.seq (.ite (.cmp .GtE (.var 3) (.bin .Pow (.int 10) (.int 18))) (.seq (.seti (.var 0) (.int 2) (.var 3)) .nil) (.seq (.seti (.var 0) (.int 3) (.bin .Mod (.blt .int (.cons (.bin .Add (.bin .Add (.bin .Mult (.ix (.var 0) (.int 3)) (.int 48731)) (.bin .Mult (.bin .Mod (.blt .int (.cons (.var 3) .nil)) (.int 2147483029)) (.int 613))) (.int 29)) .nil)) (.int 2147483249))) .nil)) .nil))) .nil) (.seq (.ite (.cmp .Gt (.ix (.var 0) (.int 2)) (.int 0)) (.seq (.set 4 (.bin .Mod (.blt .int (.cons (.ix (.var 0) (.int 2)) .nil)) (.var 1))) (.seq (.seti (.var 0) (.int 2) (.bin .FloorDiv (.ix (.var 0) (.int 2)) (.var 1))) (.seq (.ret (.var 4)) .nil))) .nil) (.seq (.set 2 (.ix (.var 0) (.int 3))) (.seq (.seti (.var 0) (.int 3) (.bin .Mod (.blt .int (.cons (.bin .Add (.bin .Add (.bin .Add (.bin .Pow (.var 2) (.int 3)) (.bin .Mult (.var 2) (.int 31181))) (.bin .Mult (.ix (.var 0) (.int 4)) (.int 1299721))) (.int 60637)) .nil)) (.int 2147483249))) (.seq (.ret (.bin .Mod (.blt .int (.cons (.bin .Add (.bin .FloorDiv (.ix (.var 0) (.int 3)) (.int 71)) (.bin .Mult (.bin .Mod (.blt .int (.cons (.ix (.var 0) (.int 3)) .nil)) (.int 8111)) (.int 59))) .nil)) (.var 1))) .nil))))))
def N__law_pick : List Str := ["_law_bag_here", "_law_some"]
def ps__law_pick : List Str := ["_law_bag_here", "_law_some"]
def gm__law_pick : List Str := ["_law_draw"]
def y__law_pick : YS := (.seq (.ret (.ix (.var 1) (.call 0 (.cons (.var 0) (.cons (.blt .len (.cons (.var 1) .nil)) .nil))))) .nil)
def N__law_mixed : List Str := ["_law_bag_here", "_law_some", "_law_found", "_law_item"]
def ps__law_mixed : List Str := ["_law_bag_here", "_law_some"]
def gm__law_mixed : List Str := ["_law_draw"]
def y__law_mixed : YS := (.seq (.set 2 (.lst true .nil)) (.seq (.for_ (.nm 3) (.seq (.var 1)) (.seq (.ex (.ins (.var 2) (.call 0 (.cons (.var 0) (.cons (.bin .Add (.blt .len (.cons (.var 2) .nil)) (.int 1)) .nil))) (.var 3))) .nil)) (.seq (.ret (.fz (.var 2))) .nil)))
def N__law_huge : List Str := ["_law_bag_here", "_law_found"]
def ps__law_huge : List Str := ["_law_bag_here"]
def gm__law_huge : List Str := ["_law_pick", "_law_draw"]
def y__law_huge : YS := (.seq (.set 1 (.bin .Add (.bin .Add (.bin .Mult (.call 1 (.cons (.var 0) (.cons (.bin .Pow (.int 10) (.int 7)) .nil))) (.bin .Pow (.int 10) (.int 27))) (.bin .Mult (.call 1 (.cons (.var 0) (.cons (.bin .Pow (.int 10) (.int 7)) .nil))) (.bin .Pow (.int 10) (.int 13)))) (.call 1 (.cons (.var 0) (.cons (.bin .Pow (.int 10) (.int 7)) .nil))))) (.seq (.ret (.bin .FloorDiv (.var 1) (.call 0 (.cons (.var 0) (.cons (.lst false (.cons (.int 1) (.cons (.bin .Pow (.int 10) (.int 10)) (.cons (.bin .Pow (.int 10) (.int 20)) .nil)))) .nil))))) .nil))
def N__law_number : List Str := ["_law_bag_here", "_law_near"]
def ps__law_number : List Str := ["_law_bag_here", "_law_near"]
def gm__law_number : List Str := ["_law_draw", "_law_huge", "_law_pick"]
def y__law_number : YS := (.seq (.ite (.cmp .Eq (.call 0 (.cons (.var 0) (.cons (.int 13) .nil))) (.int 12)) (.seq (.ret (.bin .Mult (.call 1 (.cons (.var 0) .nil)) (.call 2 (.cons (.var 0) (.cons (.lst false (.cons (.int 1) (.cons (.neg (.int 1)) .nil))) .nil))))) .nil) .nil) (.seq (.ret (.bin .Sub (.call 0 (.cons (.var 0) (.cons (.bin .Add (.bin .Mult (.int 2) (.var 1)) (.int 1)) .nil))) (.var 1))) .nil))
def N__law_vector : List Str := ["_law_bag_here", "_law_wide", "_law_near", "_law_k"]
def ps__law_vector : List Str := ["_law_bag_here", "_law_wide", "_law_near"]
def gm__law_vector : List Str := ["_law_number"]
def y__law_vector : YS := (.seq (.ret (.blt .tuple (.cons (.comp false [3] (.nm 3) (.rng (.var 1)) .yes (.call 0 (.cons (.var 0) (.cons (.var 2) .nil)))) .nil))) .nil)
def N__law_small : List Str := ["_law_bag_here", "_law_wide", "_law_near", "_law_k"]
def ps__law_small : List Str := ["_law_bag_here", "_law_wide", "_law_near"]
def gm__law_small : List Str := ["_law_draw"]
def y__law_small : YS := (.seq (.ret (.blt .tuple (.cons (.comp false [3] (.nm 3) (.rng (.var 1)) .yes (.bin .Sub (.call 0 (.cons (.var 0) (.cons (.bin .Add (.bin .Mult (.int 2) (.var 2)) (.int 1)) .nil))) (.var 2))) .nil))) .nil)
def N__law_int : List Str := ["_law_x"]
def ps__law_int : List Str := ["_law_x"]
def gm__law_int : List Str := []
def y__law_int : YS := (.seq (.ret (.and (.isi (.var 0) ["int"]) (.one (.not (.isi (.var 0) ["bool"]))))) .nil)
def N__law_is_vector : List Str := ["_law_x", "_law_wide", "_law_n"]
def ps__law_is_vector : List Str := ["_law_x", "_law_wide"]
def gm__law_is_vector : List Str := ["_law_int"]
def y__law_is_vector : YS := (.seq (.ret (.and (.isi (.var 0) ["tuple"]) (.and (.cmp .Eq (.blt .len (.cons (.var 0) .nil)) (.var 1)) (.one (.blt .all (.cons (.comp false [2] (.nm 2) (.seq (.var 0)) .yes (.call 0 (.cons (.var 2) .nil))) .nil)))))) .nil)
def N__law_same : List Str := ["_law_found", "_law_due", "_law_x", "_law_y"]
def ps__law_same : List Str := ["_law_found", "_law_due"]
def gm__law_same : List Str := ["_law_same"]
def y__law_same : YS := (.seq (.ite (.isi (.var 1) ["list", "tuple"]) (.seq (.ite (.or (.cmp .NotEq (.isi (.var 0) ["list"]) (.isi (.var 1) ["list"])) (.one (.cmp .NotEq (.isi (.var 0) ["tuple"]) (.isi (.var 1) ["tuple"])))) (.seq (.ret (.bl false)) .nil) .nil) (.seq (.ret (.and (.cmp .Eq (.blt .len (.cons (.var 0) .nil)) (.blt .len (.cons (.var 1) .nil))) (.one (.blt .all (.cons (.comp false [2, 3] (.tp (.cons (.nm 2) (.cons (.nm 3) .nil))) (.zip (.var 0) (.var 1)) .yes (.call 0 (.cons (.var 2) (.cons (.var 3) .nil)))) .nil))))) .nil)) .nil) (.seq (.ite (.or (.cmp .Is (.var 1) .non) (.one (.cmp .Is (.var 0) .non))) (.seq (.ret (.and (.cmp .Is (.var 1) .non) (.one (.cmp .Is (.var 0) .non)))) .nil) .nil) (.seq (.ite (.isi (.var 1) ["dict"]) (.seq (.ret (.and (.isi (.var 0) ["dict"]) (.one (.call 0 (.cons (.comp false [2] (.nm 2) (.seq (.var 0)) .yes (.lst false (.cons (.var 2) (.cons (.ix (.var 0) (.var 2)) .nil)))) (.cons (.comp false [2] (.nm 2) (.seq (.var 1)) .yes (.lst false (.cons (.var 2) (.cons (.ix (.var 1) (.var 2)) .nil)))) .nil)))))) .nil) .nil) (.seq (.ite (.or (.isi (.var 1) ["bool"]) (.one (.isi (.var 0) ["bool"]))) (.seq (.ret (.and (.isi (.var 1) ["bool"]) (.and (.isi (.var 0) ["bool"]) (.one (.cmp .Eq (.var 0) (.var 1)))))) .nil) .nil) (.seq (.ite (.isi (.var 1) ["int"]) (.seq (.ret (.and (.isi (.var 0) ["int"]) (.one (.cmp .Eq (.var 0) (.var 1))))) .nil) .nil) (.seq (.ret (.and (.isi (.var 1) ["str"]) (.and (.isi (.var 0) ["str"]) (.one (.cmp .Eq (.var 0) (.var 1)))))) .nil))))))
def N__law_less : List Str := ["_law_x", "_law_y", "_law_size", "_law_a", "_law_b"]
def ps__law_less : List Str := ["_law_x", "_law_y", "_law_size"]
def gm__law_less : List Str := []
def y__law_less : YS := (.seq (.ret (.comp false [3, 4] (.tp (.cons (.nm 3) (.cons (.nm 4) .nil))) (.zip (.var 0) (.var 1)) .yes (.bin .Sub (.var 3) (.bin .Mult (.var 2) (.var 4))))) .nil)
def N__law_pivot : List Str := ["_law_x", "_law_k"]
def ps__law_pivot : List Str := ["_law_x"]
def gm__law_pivot : List Str := []
def y__law_pivot : YS := (.seq (.ret (.ix (.comp false [1] (.nm 1) (.rng (.blt .len (.cons (.var 0) .nil))) (.cmp .NotEq (.ix (.var 0) (.var 1)) (.int 0)) (.var 1)) (.int 0))) .nil)
def N__law_numbers : List Str := ["_law_basis", "_law_x", "_law_row", "_law_rest", "_law_found", "_law_j", "_law_n"]
def ps__law_numbers : List Str := ["_law_basis", "_law_x"]
def gm__law_numbers : List Str := ["_law_less", "_law_pivot"]
def y__law_numbers : YS := (.seq (.par 3 4 (.cons (.blt .list (.cons (.var 1) .nil)) (.cons (.lst true .nil) .nil))) (.seq (.for_ (.nm 2) (.seq (.var 0)) (.seq (.set 5 (.call 1 (.cons (.var 2) .nil))) (.seq (.ex (.app (.var 4) (.bin .FloorDiv (.ix (.var 3) (.var 5)) (.ix (.var 2) (.var 5))))) (.seq (.set 3 (.call 0 (.cons (.var 3) (.cons (.var 2) (.cons (.ix (.var 4) (.neg (.int 1))) .nil))))) .nil)))) (.seq (.ret (.ite (.blt .all (.cons (.comp false [6] (.nm 6) (.seq (.var 3)) .yes (.cmp .Eq (.var 6) (.int 0))) .nil)) (.blt .tuple (.cons (.var 4) .nil)) .non)) .nil)))
def N__law_taken : List Str := ["_law_lot", "_law_counts", "_law_wide", "_law_j", "_law_x", "_law_n"]
def ps__law_taken : List Str := ["_law_lot", "_law_counts", "_law_wide"]
def gm__law_taken : List Str := []
def y__law_taken : YS := (.seq (.ret (.blt .tuple (.cons (.comp false [3] (.nm 3) (.rng (.var 2)) .yes (.blt .sum (.cons (.comp false [4, 5] (.tp (.cons (.nm 4) (.cons (.nm 5) .nil))) (.zip (.var 0) (.var 1)) .yes (.bin .Mult (.ix (.var 4) (.var 3)) (.var 5))) .nil))) .nil))) .nil)
def N__law_rows : List Str := ["_law_bag_here", "_law_wide", "_law_found", "_law_k", "_law_x"]
def ps__law_rows : List Str := ["_law_bag_here", "_law_wide"]
def gm__law_rows : List Str := ["_law_pick", "_law_draw", "_law_taken", "_law_vector", "_law_small"]
def y__law_rows : YS := (.seq (.set 2 (.lst true .nil)) (.seq (.for_ (.nm 3) (.rng (.call 0 (.cons (.var 0) (.cons (.lst false (.cons (.int 0) (.cons (.int 1) (.cons (.int 2) (.cons (.int 2) (.cons (.int 3) (.cons (.int 3) (.cons (.int 4) (.cons (.int 5) .nil))))))))) .nil)))) (.seq (.ite (.and (.cmp .NotEq (.var 2) (.lst false .nil)) (.one (.cmp .Eq (.call 1 (.cons (.var 0) (.cons (.int 4) .nil))) (.int 0)))) (.seq (.ex (.app (.var 2) (.call 2 (.cons (.var 2) (.cons (.comp false [4] (.nm 4) (.seq (.var 2)) .yes (.bin .Sub (.call 1 (.cons (.var 0) (.cons (.int 5) .nil))) (.int 2))) (.cons (.var 1) .nil)))))) .nil) (.seq (.ite (.cmp .Eq (.call 1 (.cons (.var 0) (.cons (.int 9) .nil))) (.int 8)) (.seq (.ex (.app (.var 2) (.call 3 (.cons (.var 0) (.cons (.var 1) (.cons (.int 4) .nil)))))) .nil) (.seq (.ex (.app (.var 2) (.call 4 (.cons (.var 0) (.cons (.var 1) (.cons (.int 4) .nil)))))) .nil)) .nil)) .nil)) (.seq (.ret (.fz (.var 2))) .nil)))
def N__law_other_rows : List Str := ["_law_bag_here", "_law_rows_here", "_law_wide", "_law_found", "_law_k", "_law_to", "_law_by", "_law_x", "_law_n"]
def ps__law_other_rows : List Str := ["_law_bag_here", "_law_rows_here", "_law_wide"]
def gm__law_other_rows : List Str := ["_law_mixed", "_law_taken", "_law_draw", "_law_less"]
def y__law_other_rows : YS := (.seq (.set 3 (.comp true [7] (.nm 7) (.seq (.var 1)) .yes (.ite (.cmp .Eq (.call 2 (.cons (.var 0) (.cons (.int 2) .nil))) (.int 0)) (.var 7) (.blt .tuple (.cons (.comp false [8] (.nm 8) (.seq (.var 7)) .yes (.neg (.var 8))) .nil))))) (.seq (.for_ (.nm 4) (.rng (.ite (.cmp .Gt (.blt .len (.cons (.var 3) .nil)) (.int 1)) (.call 2 (.cons (.var 0) (.cons (.int 3) .nil))) (.int 0))) (.seq (.set 5 (.call 2 (.cons (.var 0) (.cons (.blt .len (.cons (.var 3) .nil)) .nil)))) (.seq (.set 6 (.bin .Mod (.blt .int (.cons (.bin .Add (.bin .Add (.var 5) (.int 1)) (.call 2 (.cons (.var 0) (.cons (.bin .Sub (.blt .len (.cons (.var 3) .nil)) (.int 1)) .nil)))) .nil)) (.blt .len (.cons (.var 3) .nil)))) (.seq (.seti (.var 3) (.var 5) (.blt .tuple (.cons (.call 3 (.cons (.ix (.var 3) (.var 5)) (.cons (.ix (.var 3) (.var 6)) (.cons (.bin .Sub (.call 2 (.cons (.var 0) (.cons (.int 5) .nil))) (.int 2)) .nil)))) .nil))) .nil)))) (.seq (.ret (.call 0 (.cons (.var 0) (.cons (.bin .Add (.var 3) (.sl (.lst false (.cons (.call 1 (.cons (.var 3) (.cons (.comp false [7] (.nm 7) (.seq (.var 3)) .yes (.bin .Sub (.call 2 (.cons (.var 0) (.cons (.int 3) .nil))) (.int 1))) (.cons (.var 2) .nil)))) .nil)) .nop (.sm (.call 2 (.cons (.var 0) (.cons (.int 2) .nil)))))) .nil)))) .nil)))
def N__law_is_basis : List Str := ["_law_told", "_law_wide", "_law_k", "_law_j", "_law_x", "_law_n"]
def ps__law_is_basis : List Str := ["_law_told", "_law_wide"]
def gm__law_is_basis : List Str := ["_law_pivot", "_law_is_vector"]
def y__law_is_basis : YS := (.seq (.ite (.or (.not (.isi (.var 0) ["list"])) (.one (.not (.blt .all (.cons (.comp false [4] (.nm 4) (.seq (.var 0)) .yes (.and (.call 1 (.cons (.var 4) (.cons (.var 1) .nil))) (.one (.blt .any (.cons (.comp false [5] (.nm 5) (.seq (.var 4)) .yes (.cmp .NotEq (.var 5) (.int 0))) .nil))))) .nil))))) (.seq (.ret (.bl false)) .nil) .nil) (.seq (.for_ (.nm 2) (.rng (.blt .len (.cons (.var 0) .nil))) (.seq (.set 3 (.call 0 (.cons (.ix (.var 0) (.var 2)) .nil))) (.seq (.ite (.or (.cmp .Lt (.ix (.ix (.var 0) (.var 2)) (.var 3)) (.int 1)) (.one (.and (.cmp .Gt (.var 2) (.int 0)) (.one (.cmp .GtE (.call 0 (.cons (.ix (.var 0) (.bin .Sub (.var 2) (.int 1))) .nil)) (.var 3)))))) (.seq (.ret (.bl false)) .nil) .nil) (.seq (.ite (.not (.blt .all (.cons (.comp false [4] (.nm 4) (.seq (.sl (.var 0) .nop (.sm (.var 2)))) .yes (.chain .LtE .Lt (.int 0) (.ix (.var 4) (.var 3)) (.ix (.ix (.var 0) (.var 2)) (.var 3)))) .nil))) (.seq (.ret (.bl false)) .nil) .nil) .nil)))) (.seq (.ret (.bl true)) .nil)))
def N__law_counts_so : List Str := ["_law_told", "_law_counts", "_law_vectors", "_law_wide", "_law_x"]
def ps__law_counts_so : List Str := ["_law_told", "_law_counts", "_law_vectors", "_law_wide"]
def gm__law_counts_so : List Str := ["_law_taken", "_law_is_vector"]
def y__law_counts_so : YS := (.seq (.ite (.or (.not (.isi (.var 1) ["list"])) (.one (.cmp .NotEq (.blt .len (.cons (.var 1) .nil)) (.blt .len (.cons (.var 0) .nil))))) (.seq (.ret (.bl false)) .nil) .nil) (.seq (.ite (.not (.blt .all (.cons (.comp false [4] (.nm 4) (.seq (.var 1)) .yes (.call 1 (.cons (.var 4) (.cons (.blt .len (.cons (.var 2) .nil)) .nil)))) .nil))) (.seq (.ret (.bl false)) .nil) .nil) (.seq (.ret (.cmp .Eq (.comp false [4] (.nm 4) (.seq (.var 1)) .yes (.call 0 (.cons (.var 2) (.cons (.var 4) (.cons (.var 3) .nil))))) (.var 0))) .nil)))
def N_law : List Str := ["_law_script", "_law_bag_here", "_law_turn", "_law_wide", "_law_vectors", "_law_handed", "_law_told", "_law_kept", "_law_pair", "_law_others", "_law_again", "_law_x"]
def ps_law : List Str := ["_law_script"]
def gm_law : List Str := ["_law_same", "hermite_table", "hermite", "_law_counts_so", "_law_other_rows", "hermite_table", "_law_numbers", "_law_is_basis", "hermite", "_law_draw", "_law_pick", "_law_vector", "_law_rows", "_law_bag"]
def y_law : YS := (.seq (.set 1 (.call 13 (.cons (.var 0) .nil))) (.seq (.for_ (.nm 2) (.rng (.int 2)) (.seq (.set 3 (.call 10 (.cons (.var 1) (.cons (.lst false (.cons (.int 1) (.cons (.int 2) (.cons (.int 2) (.cons (.int 3) (.cons (.int 3) (.cons (.int 4) (.cons (.int 5) (.cons (.int 8) .nil))))))))) .nil)))) (.seq (.set 4 (.call 12 (.cons (.var 1) (.cons (.var 3) .nil)))) (.seq (.ite (.cmp .Eq (.call 9 (.cons (.var 1) (.cons (.int 5) .nil))) (.int 0)) (.seq (.set 4 (.bin .Add (.var 4) (.lst false (.cons (.call 10 (.cons (.var 1) (.cons (.lst false (.cons (.bin .Mult (.tup (.cons (.int 0) .nil)) (.var 3)) (.cons (.call 11 (.cons (.var 1) (.cons (.var 3) (.cons (.int 99) .nil)))) .nil))) .nil))) .nil)))) .nil) .nil) (.seq (.set 5 (.blt .list (.cons (.var 4) .nil))) (.seq (.set 6 (.call 8 (.cons (.var 5) (.cons (.var 3) .nil)))) (.seq (.ite (.or (.not (.call 7 (.cons (.var 6) (.cons (.var 3) .nil)))) (.one (.not (.blt .all (.cons (.comp false [11] (.nm 11) (.seq (.var 4)) .yes (.cmp .IsNot (.call 6 (.cons (.var 6) (.cons (.var 11) .nil))) .non)) .nil))))) (.seq (.ret (.bl false)) .nil) .nil) (.seq (.set 7 (.blt .tuple (.cons (.var 6) .nil))) (.seq (.set 8 (.call 5 (.cons (.var 5) (.cons (.var 3) .nil)))) (.seq (.ite (.or (.not (.isi (.var 8) ["tuple"])) (.or (.cmp .NotEq (.lnt (.var 8)) (.int 2)) (.or (.not (.call 0 (.cons (.ix (.var 8) (.int 0)) (.cons (.var 6) .nil)))) (.one (.not (.call 0 (.cons (.var 5) (.cons (.var 4) .nil)))))))) (.seq (.ret (.bl false)) .nil) .nil) (.seq (.ite (.not (.call 3 (.cons (.var 6) (.cons (.ix (.var 8) (.int 1)) (.cons (.var 4) (.cons (.var 3) .nil)))))) (.seq (.ret (.bl false)) .nil) .nil) (.seq (.ex (.app (.var 6) (.bin .Mult (.tup (.cons (.int 1) .nil)) (.var 3)))) (.seq (.set 9 (.call 4 (.cons (.var 1) (.cons (.var 4) (.cons (.var 3) .nil))))) (.seq (.ite (.or (.not (.call 0 (.cons (.call 2 (.cons (.var 9) (.cons (.var 3) .nil))) (.cons (.blt .list (.cons (.var 7) .nil)) .nil)))) (.one (.not (.call 0 (.cons (.call 2 (.cons (.var 5) (.cons (.var 3) .nil))) (.cons (.blt .list (.cons (.var 7) .nil)) .nil)))))) (.seq (.ret (.bl false)) .nil) .nil) (.seq (.ex (.app (.ix (.var 8) (.int 0)) (.bin .Mult (.tup (.cons (.int 2) .nil)) (.var 3)))) (.seq (.set 10 (.call 1 (.cons (.blt .tuple (.cons (.var 9) .nil)) (.cons (.var 3) .nil)))) (.seq (.ite (.or (.not (.call 0 (.cons (.ix (.var 10) (.int 0)) (.cons (.blt .list (.cons (.var 7) .nil)) .nil)))) (.one (.not (.call 3 (.cons (.blt .list (.cons (.var 7) .nil)) (.cons (.ix (.var 10) (.int 1)) (.cons (.var 9) (.cons (.var 3) .nil)))))))) (.seq (.ret (.bl false)) .nil) .nil) .nil))))))))))))))))) (.seq (.ret (.and (.call 0 (.cons (.lst false (.cons (.call 2 (.cons (.lst false .nil) (.cons (.var 3) .nil))) (.cons (.call 2 (.cons (.tup .nil) (.cons (.var 3) .nil))) (.cons (.call 2 (.cons (.blt .tuple (.cons (.var 5) .nil)) (.cons (.var 3) .nil))) .nil)))) (.cons (.lst false (.cons (.lst false .nil) (.cons (.lst false .nil) (.cons (.blt .list (.cons (.var 7) .nil)) .nil)))) .nil))) (.one (.call 0 (.cons (.call 1 (.cons (.lst false .nil) (.cons (.var 3) .nil))) (.cons (.tup (.cons (.lst false .nil) (.cons (.lst false .nil) .nil))) .nil)))))) .nil)))
theorem ck_unit : (ckS gm_unit y_unit ⟨N_unit, defScope (top 1), defScope (top 1)⟩).B (defBody (top 1)) = true := by decide +kernel
theorem ck_vector_times : (ckS gm_vector_times y_vector_times ⟨N_vector_times, defScope (top 2), defScope (top 2)⟩).B (defBody (top 2)) = true := by decide +kernel
theorem ck_pivot_place : (ckS gm_pivot_place y_pivot_place ⟨N_pivot_place, defScope (top 4), defScope (top 4)⟩).B (defBody (top 4)) = true := by decide +kernel
theorem ck_less_times : (ckS gm_less_times y_less_times ⟨N_less_times, defScope (top 5), defScope (top 5)⟩).B (defBody (top 5)) = true := by decide +kernel
theorem ck_remainder_by : (ckS gm_remainder_by y_remainder_by ⟨N_remainder_by, defScope (top 6), defScope (top 6)⟩).B (defBody (top 6)) = true := by decide +kernel
theorem ck_euclid_rows : (ckS gm_euclid_rows y_euclid_rows ⟨N_euclid_rows, defScope (top 7), defScope (top 7)⟩).B (defBody (top 7)) = true := by decide +kernel
theorem ck_basis_with_row : (ckS gm_basis_with_row y_basis_with_row ⟨N_basis_with_row, defScope (top 8), defScope (top 8)⟩).B (defBody (top 8)) = true := by decide +kernel
theorem ck_reduced_basis : (ckS gm_reduced_basis y_reduced_basis ⟨N_reduced_basis, defScope (top 9), defScope (top 9)⟩).B (defBody (top 9)) = true := by decide +kernel
theorem ck_basis_rows : (ckS gm_basis_rows y_basis_rows ⟨N_basis_rows, defScope (top 10), defScope (top 10)⟩).B (defBody (top 10)) = true := by decide +kernel
theorem ck_basis_rows__d : (ckS gm_basis_rows__d y_basis_rows__d ⟨N_basis_rows__d, defScope (top 10), defScope (top 10)⟩).B (defBody (top 10)) = true := by decide +kernel
theorem ck_hermite : (ckS gm_hermite y_hermite ⟨N_hermite, defScope (top 11), defScope (top 11)⟩).B (defBody (top 11)) = true := by decide +kernel
theorem ck_hermite__d : (ckS gm_hermite__d y_hermite__d ⟨N_hermite__d, defScope (top 11), defScope (top 11)⟩).B (defBody (top 11)) = true := by decide +kernel
theorem ck_hermite_table : (ckS gm_hermite_table y_hermite_table ⟨N_hermite_table, defScope (top 12), defScope (top 12)⟩).B (defBody (top 12)) = true := by decide +kernel
theorem ck_hermite_table__d : (ckS gm_hermite_table__d y_hermite_table__d ⟨N_hermite_table__d, defScope (top 12), defScope (top 12)⟩).B (defBody (top 12)) = true := by decide +kernel
theorem ck__law_bag : (ckS gm__law_bag y__law_bag ⟨N__law_bag, defScope (top 14), defScope (top 14)⟩).B (defBody (top 14)) = true := by decide +kernel
theorem ck__law_draw : (ckS gm__law_draw y__law_draw ⟨N__law_draw, defScope (top 15), defScope (top 15)⟩).B (defBody (top 15)) = true := by decide +kernel
theorem ck__law_pick : (ckS gm__law_pick y__law_pick ⟨N__law_pick, defScope (top 16), defScope (top 16)⟩).B (defBody (top 16)) = true := by decide +kernel
theorem ck__law_mixed : (ckS gm__law_mixed y__law_mixed ⟨N__law_mixed, defScope (top 17), defScope (top 17)⟩).B (defBody (top 17)) = true := by decide +kernel
theorem ck__law_huge : (ckS gm__law_huge y__law_huge ⟨N__law_huge, defScope (top 18), defScope (top 18)⟩).B (defBody (top 18)) = true := by decide +kernel
theorem ck__law_number : (ckS gm__law_number y__law_number ⟨N__law_number, defScope (top 19), defScope (top 19)⟩).B (defBody (top 19)) = true := by decide +kernel
theorem ck__law_vector : (ckS gm__law_vector y__law_vector ⟨N__law_vector, defScope (top 20), defScope (top 20)⟩).B (defBody (top 20)) = true := by decide +kernel
theorem ck__law_small : (ckS gm__law_small y__law_small ⟨N__law_small, defScope (top 21), defScope (top 21)⟩).B (defBody (top 21)) = true := by decide +kernel
theorem ck__law_int : (ckS gm__law_int y__law_int ⟨N__law_int, defScope (top 22), defScope (top 22)⟩).B (defBody (top 22)) = true := by decide +kernel
theorem ck__law_is_vector : (ckS gm__law_is_vector y__law_is_vector ⟨N__law_is_vector, defScope (top 23), defScope (top 23)⟩).B (defBody (top 23)) = true := by decide +kernel
theorem ck__law_same : (ckS gm__law_same y__law_same ⟨N__law_same, defScope (top 24), defScope (top 24)⟩).B (defBody (top 24)) = true := by decide +kernel
theorem ck__law_less : (ckS gm__law_less y__law_less ⟨N__law_less, defScope (top 25), defScope (top 25)⟩).B (defBody (top 25)) = true := by decide +kernel
theorem ck__law_pivot : (ckS gm__law_pivot y__law_pivot ⟨N__law_pivot, defScope (top 26), defScope (top 26)⟩).B (defBody (top 26)) = true := by decide +kernel
theorem ck__law_numbers : (ckS gm__law_numbers y__law_numbers ⟨N__law_numbers, defScope (top 27), defScope (top 27)⟩).B (defBody (top 27)) = true := by decide +kernel
theorem ck__law_taken : (ckS gm__law_taken y__law_taken ⟨N__law_taken, defScope (top 28), defScope (top 28)⟩).B (defBody (top 28)) = true := by decide +kernel
theorem ck__law_rows : (ckS gm__law_rows y__law_rows ⟨N__law_rows, defScope (top 29), defScope (top 29)⟩).B (defBody (top 29)) = true := by decide +kernel
theorem ck__law_other_rows : (ckS gm__law_other_rows y__law_other_rows ⟨N__law_other_rows, defScope (top 30), defScope (top 30)⟩).B (defBody (top 30)) = true := by decide +kernel
theorem ck__law_is_basis : (ckS gm__law_is_basis y__law_is_basis ⟨N__law_is_basis, defScope (top 31), defScope (top 31)⟩).B (defBody (top 31)) = true := by decide +kernel
theorem ck__law_counts_so : (ckS gm__law_counts_so y__law_counts_so ⟨N__law_counts_so, defScope (top 32), defScope (top 32)⟩).B (defBody (top 32)) = true := by decide +kernel
theorem ck_law : (ckS gm_law y_law ⟨N_law, defScope (top 33), defScope (top 33)⟩).B (defBody (top 33)) = true := by decide +kernel
theorem sc_unit : C8.scC N_unit ps_unit (defScope (top 1)) = true := by decide +kernel
theorem sc_vector_times : C8.scC N_vector_times ps_vector_times (defScope (top 2)) = true := by decide +kernel
theorem sc_pivot_place : C8.scC N_pivot_place ps_pivot_place (defScope (top 4)) = true := by decide +kernel
theorem sc_less_times : C8.scC N_less_times ps_less_times (defScope (top 5)) = true := by decide +kernel
theorem sc_remainder_by : C8.scC N_remainder_by ps_remainder_by (defScope (top 6)) = true := by decide +kernel
theorem sc_euclid_rows : C8.scC N_euclid_rows ps_euclid_rows (defScope (top 7)) = true := by decide +kernel
theorem sc_basis_with_row : C8.scC N_basis_with_row ps_basis_with_row (defScope (top 8)) = true := by decide +kernel
theorem sc_reduced_basis : C8.scC N_reduced_basis ps_reduced_basis (defScope (top 9)) = true := by decide +kernel
theorem sc_basis_rows : C8.scC N_basis_rows ps_basis_rows (defScope (top 10)) = true := by decide +kernel
theorem sc_basis_rows__d : C8.scC N_basis_rows__d ps_basis_rows__d (defScope (top 10)) = true := by decide +kernel
theorem sc_hermite : C8.scC N_hermite ps_hermite (defScope (top 11)) = true := by decide +kernel
theorem sc_hermite__d : C8.scC N_hermite__d ps_hermite__d (defScope (top 11)) = true := by decide +kernel
theorem sc_hermite_table : C8.scC N_hermite_table ps_hermite_table (defScope (top 12)) = true := by decide +kernel
theorem sc_hermite_table__d : C8.scC N_hermite_table__d ps_hermite_table__d (defScope (top 12)) = true := by decide +kernel
theorem sc__law_bag : C8.scC N__law_bag ps__law_bag (defScope (top 14)) = true := by decide +kernel
theorem sc__law_draw : C8.scC N__law_draw ps__law_draw (defScope (top 15)) = true := by decide +kernel
theorem sc__law_pick : C8.scC N__law_pick ps__law_pick (defScope (top 16)) = true := by decide +kernel
theorem sc__law_mixed : C8.scC N__law_mixed ps__law_mixed (defScope (top 17)) = true := by decide +kernel
theorem sc__law_huge : C8.scC N__law_huge ps__law_huge (defScope (top 18)) = true := by decide +kernel
theorem sc__law_number : C8.scC N__law_number ps__law_number (defScope (top 19)) = true := by decide +kernel
theorem sc__law_vector : C8.scC N__law_vector ps__law_vector (defScope (top 20)) = true := by decide +kernel
theorem sc__law_small : C8.scC N__law_small ps__law_small (defScope (top 21)) = true := by decide +kernel
theorem sc__law_int : C8.scC N__law_int ps__law_int (defScope (top 22)) = true := by decide +kernel
theorem sc__law_is_vector : C8.scC N__law_is_vector ps__law_is_vector (defScope (top 23)) = true := by decide +kernel
theorem sc__law_same : C8.scC N__law_same ps__law_same (defScope (top 24)) = true := by decide +kernel
theorem sc__law_less : C8.scC N__law_less ps__law_less (defScope (top 25)) = true := by decide +kernel
theorem sc__law_pivot : C8.scC N__law_pivot ps__law_pivot (defScope (top 26)) = true := by decide +kernel
theorem sc__law_numbers : C8.scC N__law_numbers ps__law_numbers (defScope (top 27)) = true := by decide +kernel
theorem sc__law_taken : C8.scC N__law_taken ps__law_taken (defScope (top 28)) = true := by decide +kernel
theorem sc__law_rows : C8.scC N__law_rows ps__law_rows (defScope (top 29)) = true := by decide +kernel
theorem sc__law_other_rows : C8.scC N__law_other_rows ps__law_other_rows (defScope (top 30)) = true := by decide +kernel
theorem sc__law_is_basis : C8.scC N__law_is_basis ps__law_is_basis (defScope (top 31)) = true := by decide +kernel
theorem sc__law_counts_so : C8.scC N__law_counts_so ps__law_counts_so (defScope (top 32)) = true := by decide +kernel
theorem sc_law : C8.scC N_law ps_law (defScope (top 33)) = true := by decide +kernel
end Z

set_option Elab.async false
set_option linter.all false
set_option maxRecDepth 100000
set_option maxHeartbeats 4000000
namespace Z
open PySem PySem.Spec PyProof.Rows L2
/-! ### the bag -/
def BagOk (ds : List D) : Prop := ∃ (cs : List Int) (pos left seed cnt : Int), ds = [.lst (cs.map .int), .int pos, .int left, .int seed, .int cnt] ∧ 0 ≤ pos ∧ 0 ≤ left ∧ 0 ≤ seed ∧ seed < 2147483249
def bagZ : ZSp := fun us O Q _ => ∃ ns : List Int, us = [.d (.scr ns)] ∧ O = [] ∧ ∀ ds, BagOk ds → Q (.o 0) [.lst ds]
theorem cutL_len {β : Type} (xs : List β) (n : Nat) : (cutL xs none (some (n : Int))).length ≤ n := by
  unfold cutL
  rw [List.length_take, HT.sIx_nat, HT.sIx_none]
  omega
theorem k_law_bag : Keeps [] y__law_bag N__law_bag.length bagZ := by
  rintro us O Q E ⟨ns, rfl, rfl, h⟩
  show vcS [] y__law_bag E _ [some (.d (.scr ns)), none] []
  simp only [y__law_bag, vcS, vc, gt, st, oneK_1, nrsK_1, partK, nrK_d, slD, list_l, len_l, mul_i, add_i, tosK_5, newL]
  have hl := cutL_len ns 63
  refine ⟨mulOk_l (by decide) (by decide), (by decide : 5 ≤ sizeLine), h _ ⟨_, 0, 0, _, 0, rfl, by decide, by decide, ?_, ?_⟩⟩
  · omega
  · rw [List.length_map]
    have : (cutL ns none (some 63)).length ≤ 63 := hl
    omega
def drawZ : ZSp := fun us O Q _ => ∃ (ds : List D) (n : Int), us = [.o 0, .d (.int n)] ∧ O = [.lst ds] ∧ BagOk ds ∧ 1 ≤ n ∧ n < 2 ^ 200 ∧ ∀ r ds', 0 ≤ r → r < n → BagOk ds' → Q (.d (.int r)) [.lst ds']
theorem divOk_pos {n : Int} (h : 1 ≤ n) (h2 : n < 2 ^ 200) : DivOk n := ⟨by omega, by
  have : n.natAbs < 2 ^ 200 := by omega
  have := PySem.Flt.log2_lt_of (by decide) this
  omega⟩
theorem k_law_draw : Keeps [] y__law_draw N__law_draw.length drawZ := by
  rintro us O Q E ⟨ds, n, rfl, rfl, ⟨cs, pos, left, seed, cnt, rfl, hp, hl, hs0, hs1⟩, hn, hn2, h⟩
  show vcS [] y__law_draw E _ [some (.o 0), some (.d (.int n)), none, none, none] _
  simp only [y__law_draw, vcS, vc, gt, st, go, so, oneK_1, nrK_d, nrK_lst0, ix_l, at_0, at_1, at_2, at_3, at_4, ex_some, add_i, toK_d, eq_i, boolK_1, ix5_0, ix5_1, ix5_2, ix5_3, ix5_4, List.set_cons_zero, List.set_cons_succ, nrsK_1, len_l, lt_i, gt_i, int_i, mod_i, mul_i, div_i, pow_i]
  have cnt' : ∀ c : Int, MulOk c 1299721 := fun c => mulOk_r (by decide) (by decide)
  have seedOk : ∀ x : Int, 0 ≤ x.fmod 2147483249 ∧ x.fmod 2147483249 < 2147483249 := fun x => ⟨Int.fmod_nonneg_of_pos _ (by decide), Int.fmod_lt_of_pos _ (by decide)⟩
  have digit : ∀ (x pos left seed cnt : Int), 0 ≤ pos → 0 ≤ left → 0 ≤ seed → seed < 2147483249 → Q (.d (.int (x.fmod n))) [.lst [.lst (cs.map .int), .int pos, .int left, .int seed, .int cnt]] := fun x pos left seed cnt h1 h2 h3 h4 =>
    h _ _ (Int.fmod_nonneg_of_pos _ (by omega)) (Int.fmod_lt_of_pos _ (by omega)) ⟨cs, pos, left, seed, cnt, rfl, h1, h2, h3, h4⟩
  have pow3 : ∀ s : Int, 0 ≤ s → s < 2147483249 → CPow s 3 := fun s h1 h2 => ⟨by decide, by decide, by omega⟩
  have dn : DivOk n := divOk_pos hn hn2
  have dn0 : n ≠ 0 := by omega
  have d71 : DivOk 71 := divOk_pos (by decide) (by decide)
  have fd : ∀ x : Int, 0 ≤ x → 0 ≤ x.fdiv n := fun x hx => Int.fdiv_nonneg hx (by omega)
  have gen : ∀ (x pos seed cnt : Int), 0 ≤ pos → 0 ≤ seed → seed < 2147483249 → 0 ≤ x → (CPow seed 3 ∧ MulOk seed 31181 ∧ MulOk cnt 1299721 ∧ (2147483249 : Int) ≠ 0 ∧ DivOk 71 ∧ (8111 : Int) ≠ 0 ∧ MulOk ((((seed ^ Int.toNat 3 + seed * 31181 + cnt * 1299721 + 60637).fmod 2147483249)).fmod 8111) 59 ∧ n ≠ 0 ∧
      Q (.d (.int ((((seed ^ Int.toNat 3 + seed * 31181 + cnt * 1299721 + 60637).fmod 2147483249).fdiv 71 + ((seed ^ Int.toNat 3 + seed * 31181 + cnt * 1299721 + 60637).fmod 2147483249).fmod 8111 * 59).fmod n)))
        [.lst [.lst (cs.map .int), .int pos, .int x, .int ((seed ^ Int.toNat 3 + seed * 31181 + cnt * 1299721 + 60637).fmod 2147483249), .int cnt]]) := fun x pos seed cnt h1 h2 h3 hx =>
    ⟨pow3 seed h2 h3, mulOk_r (by decide) (by decide), cnt' _, by decide, d71, by decide, mulOk_r (by decide) (by decide), dn0, digit _ _ _ _ _ h1 hx (seedOk _).1 (seedOk _).2⟩
  refine way (fun h0 => way (fun h1 => ?_) fun h1 => ?_) fun h0 => ?_
  · rw [List.length_map] at h1
    obtain ⟨j, rfl⟩ := Int.eq_ofNat_of_zero_le hp
    have hj : j < cs.length := by omega
    refine ⟨.int cs[j], atI_nat (by simp [hj]), ?_⟩
    simp only [abs_i, ge_i, boolK_1, gt_i, int_i, mod_i, mul_i, add_i, div_i, pow_i]
    refine ⟨⟨by decide, by decide, by decide⟩, way (fun h2 => way (fun h3 => ⟨dn0, dn, digit _ _ _ _ _ (by omega) (fd _ (by omega)) hs0 hs1⟩) fun h3 => gen _ _ _ _ (by omega) hs0 hs1 (by omega)) fun h2 => ?_⟩
    refine ⟨mulOk_r (by decide) (by decide), by decide, mulOk_r (by decide) (by decide), by decide, way (fun h3 => ⟨dn0, dn, digit _ _ _ _ _ (by omega) (fd _ hl) (seedOk _).1 (seedOk _).2⟩) fun h3 => gen _ _ _ _ (by omega) (seedOk _).1 (seedOk _).2 hl⟩
  · exact way (fun h3 => ⟨dn0, dn, digit _ _ _ _ _ hp (fd _ hl) hs0 hs1⟩) fun h3 => gen _ _ _ _ hp hs0 hs1 hl
  · exact ⟨(fun z => by cases z), fun _ => way (fun h3 => ⟨dn0, dn, digit _ _ _ _ _ hp (fd _ hl) hs0 hs1⟩) fun h3 => gen _ _ _ _ hp hs0 hs1 hl⟩
theorem divOk_b {j : Int} {b : Nat} (h0 : j ≠ 0) (h : j.natAbs < 2 ^ b) (hb : 0 < b) (hl : b ≤ 9000) : DivOk j := ⟨h0, by have := PySem.Flt.log2_lt_of hb h; omega⟩
def fr (p q : Int) : D := .tup [.int p, .int q]
/-- a whole number, no bool -/
def intZ : ZSp := fun us O Q _ => ∃ i : Int, us = [.d (.int i)] ∧ O = [] ∧ Q (.d (.bl true)) []
theorem isi_ii : isiB "int" ["int"] = some true := by decide +kernel
theorem isi_ib : isiB "int" ["bool"] = some false := by decide +kernel
theorem isi_tt : isiB "tuple" ["tuple"] = some true := by decide +kernel
theorem k_law_int : Keeps [] y__law_int N__law_int.length intZ := by
  rintro us O Q E ⟨i, rfl, rfl, h⟩
  show vcS _ y__law_int E _ [some (.d (.int i))] []
  simp only [y__law_int, vcS, vc, gt, st, oneK_1, boolK_1, tyU, tyD, isi_ii, isi_ib, ex_some, true_and']
  exact ⟨fun _ => h, fun z => by cases z⟩
/-- one of some -/
def pickZ : ZSp := fun us O Q _ => ∃ (ds xs : List D), ((us = [.o 0, .d (.lst xs)] ∧ O = [.lst ds]) ∨ (us = [.o 0, .o 1] ∧ O = [.lst ds, .brw xs])) ∧ BagOk ds ∧ 1 ≤ xs.length ∧ xs.length < 2 ^ 60 ∧ ∀ x ds', x ∈ xs → BagOk ds' → Q (.d x) (.lst ds' :: O.tail)
theorem k_law_pick : Keeps [("_law_draw", drawZ)] y__law_pick N__law_pick.length pickZ := by
  rintro us O Q E ⟨ds, xs, ho, hb, h1, h2, h⟩
  rcases ho with ⟨rfl, rfl⟩ | ⟨rfl, rfl⟩
  · show vcS _ y__law_pick E _ [some (.o 0), some (.d (.lst xs))] _
    simp only [y__law_pick, vcS, vc, gt, st, oneK_1, nrsK_1, len_l, List.getElem?_cons_zero]
    refine callO [.int xs.length] rfl fun F X hF => ⟨ds, xs.length, rfl, rfl, hb, by omega, by omega, fun r ds' h3 h4 h5 => hF _ _ ?_⟩
    simp only [oneK_1, nrK_d, ix_l]
    obtain ⟨j, rfl⟩ := Int.eq_ofNat_of_zero_le h3
    have hj : j < xs.length := by omega
    exact ⟨xs[j], at_nat hj, h _ _ (List.getElem_mem hj) h5⟩
  · show vcS _ y__law_pick E _ [some (.o 0), some (.o 1)] _
    simp only [y__law_pick, vcS, vc, gt, st, oneK_1, List.getElem?_cons_zero]
    rw [nrsK_o rfl, len_l]
    refine callO [.int xs.length] rfl fun F X hF => ⟨ds, xs.length, rfl, rfl, hb, by omega, by omega, fun r ds' h3 h4 h5 => hF _ _ ?_⟩
    simp only [oneK_1, nrK_d]
    show nrK (.lst ds' :: .brw xs :: []) (.o 1) _
    rw [nrK_brw1, ix_l]
    obtain ⟨j, rfl⟩ := Int.eq_ofNat_of_zero_le h3
    have hj : j < xs.length := by omega
    exact ⟨xs[j], at_nat hj, h _ _ (List.getElem_mem hj) h5⟩
/-! ### sizes -/
def Bd (b : Nat) (x : Int) : Prop := x.natAbs < 2 ^ b
theorem Bd.mono {a b : Nat} {x : Int} (h : Bd a x) (l : a ≤ b) : Bd b x := Nat.lt_of_lt_of_le h (Nat.pow_le_pow_right (by decide) l)
theorem Bd.mul {a b : Nat} {x y : Int} (h : Bd a x) (k : Bd b y) : Bd (a + b) (x * y) := by
  unfold Bd at *
  rw [Int.natAbs_mul, Nat.pow_add]
  by_cases hx : x.natAbs = 0
  · rw [hx, Nat.zero_mul]
    exact Nat.mul_pos (Nat.pow_pos (by decide)) (Nat.pow_pos (by decide))
  · exact Nat.mul_lt_mul'' h k
theorem Bd.add {a b : Nat} {x y : Int} (h : Bd a x) (k : Bd b y) : Bd (max a b + 1) (x + y) := by
  have h1 := h.mono (Nat.le_max_left a b)
  have k1 := k.mono (Nat.le_max_right a b)
  unfold Bd at *
  rw [Nat.pow_succ]
  have := Int.natAbs_add_le x y
  omega
theorem Bd.neg {a : Nat} {x : Int} (h : Bd a x) : Bd a (-x) := by
  unfold Bd at *
  rw [Int.natAbs_neg]
  exact h
theorem Bd.sub {a b : Nat} {x y : Int} (h : Bd a x) (k : Bd b y) : Bd (max a b + 1) (x - y) := by
  rw [Int.sub_eq_add_neg]
  exact h.add k.neg
theorem Bd.le {a : Nat} {x y : Int} (h : Bd a x) (l : y.natAbs ≤ x.natAbs) : Bd a y := Nat.lt_of_le_of_lt l h
theorem Bd.dvd {a : Nat} {x y : Int} (h : Bd a x) (l : y ∣ x) (h0 : x ≠ 0) : Bd a y := h.le (Nat.le_of_dvd (by omega) (Int.natAbs_dvd_natAbs.mpr l))
theorem Bd.ok {a b : Nat} {x y : Int} (h : Bd a x) (k : Bd b y) (l : a + b ≤ 999998) : MulOk x y := by
  refine mulOk_bits (a := a + 1) (b := b + 1) (h.mono (Nat.le_succ a)) (k.mono (Nat.le_succ b)) (by omega) (by omega) (by omega)
theorem Bd.div {a : Nat} {j : Int} (h : Bd a j) (h0 : j ≠ 0) (l : a ≤ 8999) : DivOk j := divOk_b (b := a + 1) h0 (h.mono (Nat.le_succ a)) (by omega) (by omega)
theorem Bd.lo {a : Nat} {j : Int} (h : Bd a j) (l : a ≤ 8999) : j.natAbs < 2 ^ 8999 := h.mono l
theorem Bd.ediv {a : Nat} {n : Int} (m : Int) (h : Bd a n) : Bd a (n / m) := h.le (Int.natAbs_ediv_le_natAbs n m)
def hugeZ : ZSp := fun us O Q _ => ∃ ds, us = [.o 0] ∧ O = [.lst ds] ∧ BagOk ds ∧ ∀ h ds', 0 ≤ h → h < 10 ^ 35 → BagOk ds' → Q (.d (.int h)) [.lst ds']
theorem k_law_huge : Keeps [("_law_pick", pickZ), ("_law_draw", drawZ)] y__law_huge N__law_huge.length hugeZ := by
  rintro us O Q E ⟨ds, rfl, rfl, hb, h⟩
  show vcS _ y__law_huge E _ [some (.o 0), none] _
  have e7 : (10 : Int) ^ Int.toNat 7 = 10000000 := by decide
  have e27 : (10 : Int) ^ Int.toNat 27 = 10 ^ 27 := by decide
  have e13 : (10 : Int) ^ Int.toNat 13 = 10 ^ 13 := by decide
  have e10 : (10 : Int) ^ Int.toNat 10 = 10 ^ 10 := by decide
  have e20 : (10 : Int) ^ Int.toNat 20 = 10 ^ 20 := by decide
  have cp : ∀ n : Int, 0 ≤ n → n ≤ 1000 → CPow 10 n := fun n h1 h2 => ⟨h1, by omega, by decide⟩
  simp only [y__law_huge, vcS, vc, gt, st, oneK_1, nrK_d, pow_i, e7, e27, e13, e10, e20, List.getElem?_cons_zero, List.getElem?_cons_succ]
  refine ⟨cp 7 (by decide) (by decide), ?_⟩
  refine callO [.int 10000000] rfl fun F X hF => ⟨ds, _, rfl, rfl, hb, by decide, by decide, fun r1 ds1 a1 b1 c1 => hF _ _ ?_⟩
  simp only [oneK_1, nrK_d, mul_i, so]
  refine ⟨cp 27 (by decide) (by decide), mulOk_l (by omega) (by omega), cp 7 (by decide) (by decide), ?_⟩
  refine callO [.int 10000000] rfl fun F X hF => ⟨ds1, _, rfl, rfl, c1, by decide, by decide, fun r2 ds2 a2 b2 c2 => hF _ _ ?_⟩
  simp only [oneK_1, nrK_d, mul_i, so]
  refine ⟨cp 13 (by decide) (by decide), mulOk_l (by omega) (by omega), ?_⟩
  simp only [oneK_1, nrK_d, add_i]
  refine ⟨cp 7 (by decide) (by decide), ?_⟩
  refine callO [.int 10000000] rfl fun F X hF => ⟨ds2, _, rfl, rfl, c2, by decide, by decide, fun r3 ds3 a3 b3 c3 => hF _ _ ?_⟩
  simp only [oneK_1, nrK_d, add_i, so, gt, st, tosK_3, newL]
  refine ⟨cp 10 (by decide) (by decide), cp 20 (by decide) (by decide), (by decide : 3 ≤ sizeLine), ?_⟩
  refine callO [.lst [.int 1, .int (10 ^ 10), .int (10 ^ 20)]] rfl fun F X hF => ⟨ds3, [.int 1, .int (10 ^ 10), .int (10 ^ 20)], .inl ⟨rfl, rfl⟩, c3, by decide, by decide, fun x ds4 hx c4 => hF _ _ ?_⟩
  have hx' : ∃ v : Int, x = .int v ∧ 1 ≤ v ∧ v < 2 ^ 200 := by
    simp only [List.mem_cons, List.not_mem_nil, or_false] at hx
    rcases hx with rfl | rfl | rfl
    · exact ⟨1, rfl, by decide, by decide⟩
    · exact ⟨10 ^ 10, rfl, by decide, by decide⟩
    · exact ⟨10 ^ 20, rfl, by decide, by decide⟩
  obtain ⟨v, rfl, hv1, hv2⟩ := hx'
  simp only [oneK_1, nrK_d, div_i, so]
  have hs : 0 ≤ r1 * 10 ^ 27 + r2 * 10 ^ 13 + r3 ∧ r1 * 10 ^ 27 + r2 * 10 ^ 13 + r3 < 10 ^ 35 := by omega
  refine ⟨divOk_pos hv1 hv2, h _ _ (Int.fdiv_nonneg hs.1 (by omega)) ?_ c4⟩
  rw [Int.fdiv_eq_ediv_of_nonneg _ (by omega)]
  exact Int.lt_of_le_of_lt (Int.ediv_le_self _ hs.1) hs.2
theorem all_l {bs : List Bool} {Q : D → Prop} (h : Q (.bl (bs.all id))) : BF.op .all [.lst (bs.map .bl)] Q := ⟨bs, rfl, h⟩
/-! ### plain data -/
inductive Pl : Nat → D → Prop
  | non {n : Nat} : Pl n .non
  | bl {n : Nat} (b : Bool) : Pl n (.bl b)
  | int {n : Nat} (i : Int) : Pl n (.int i)
  | lst {n : Nat} {ds : List D} : ds.length ≤ 1000 → (∀ d ∈ ds, Pl n d) → Pl (n + 1) (.lst ds)
  | tup {n : Nat} {ds : List D} : ds.length ≤ 1000 → (∀ d ∈ ds, Pl n d) → Pl (n + 1) (.tup ds)
theorem pls {n : Nat} : ∀ {ds : List D}, (∀ d ∈ ds, (toP d).canLay0 = true ∧ (toP d).depth ≤ n) → PyData.canLayAll0 (toPs ds) = true ∧ PyData.depthAll (toPs ds) ≤ n
  | [], _ => ⟨by rw [toPs, PyData.canLayAll0], by rw [toPs, PyData.depthAll]; exact Nat.zero_le _⟩
  | d :: ds, h => by
    obtain ⟨h1, h2⟩ := h d List.mem_cons_self
    obtain ⟨h3, h4⟩ := pls fun e he => h e (List.mem_cons_of_mem _ he)
    exact ⟨by rw [toPs, PyData.canLayAll0, h1, h3]; rfl, by rw [toPs, PyData.depthAll]; exact Nat.max_le.mpr ⟨h2, h4⟩⟩
theorem Pl.ok {n : Nat} {d : D} (h : Pl n d) : (toP d).canLay0 = true ∧ (toP d).depth ≤ n := by
  induction h with
  | non => exact ⟨by rw [toP, PyData.canLay0], by rw [toP, PyData.depth]; exact Nat.zero_le _⟩
  | bl b => exact ⟨by rw [toP, PyData.canLay0], by rw [toP, PyData.depth]; exact Nat.zero_le _⟩
  | int i => exact ⟨by rw [toP, PyData.canLay0], by rw [toP, PyData.depth]; exact Nat.zero_le _⟩
  | lst _ _ ih =>
    obtain ⟨h1, h2⟩ := pls ih
    exact ⟨by rw [toP, PyData.canLay0]; exact h1, by rw [toP, PyData.depth]; exact Nat.succ_le_succ h2⟩
  | tup _ _ ih =>
    obtain ⟨h1, h2⟩ := pls ih
    exact ⟨by rw [toP, PyData.canLay0]; exact h1, by rw [toP, PyData.depth]; exact Nat.succ_le_succ h2⟩
theorem Pl.shp {n : Nat} {d : D} (h : Pl n d) (hn : n ≤ 64) : Shp d := by
  obtain ⟨h1, h2⟩ := h.ok
  unfold Shp SeqAt.shaped
  rw [h1, decide_eq_true (Nat.le_trans h2 hn)]
  rfl
theorem Pl.mono {n m : Nat} {d : D} (h : Pl n d) (l : n ≤ m) : Pl m d := by
  induction h generalizing m with
  | non => exact .non
  | bl b => exact .bl b
  | int i => exact .int i
  | lst hl _ ih =>
    obtain ⟨k, rfl⟩ : ∃ k, m = k + 1 := ⟨m - 1, by omega⟩
    exact .lst hl fun d hd => ih d hd (by omega)
  | tup hl _ ih =>
    obtain ⟨k, rfl⟩ : ∃ k, m = k + 1 := ⟨m - 1, by omega⟩
    exact .tup hl fun d hd => ih d hd (by omega)
def rowD (r : List Int) : D := .lst (r.map .int)
theorem pl_row {r : List Int} (h : r.length ≤ 1000) : Pl 1 (rowD r) := .lst (by rw [List.length_map]; exact h) fun d hd => by
  obtain ⟨i, _, rfl⟩ := List.mem_map.mp hd
  exact .int i
theorem pl_fr {p q : Int} : Pl 1 (fr p q) := .tup (by show 2 ≤ 1000; decide) fun d hd => by
  simp only [List.mem_cons, List.not_mem_nil, or_false] at hd
  rcases hd with rfl | rfl <;> exact .int _
/-- x != [] -/
theorem ne_nil {n : Nat} {ds : List D} {Q : Bool → Prop} (h : Pl n (.lst ds)) (hn : n ≤ 64) (q : Q (!ds.isEmpty)) : cmpD .NotEq (.lst ds) (.lst []) Q := by
  have h0 : Pl 1 (.lst []) := .lst (by show 0 ≤ 1000; decide) fun d hd => by cases hd
  refine ⟨h.shp hn, h0.shp (by decide), ?_⟩
  have e : PyData.eqv (toP (.lst ds)) (toP (.lst [])) = ds.isEmpty := by
    cases ds with
    | nil => simp [toP, toPs, PyData.eqv, PyData.eqvAll]
    | cons a b => simp [toP, toPs, PyData.eqv, PyData.eqvAll]
  show Q (!(PyData.eqv (toP (.lst ds)) (toP (.lst []))))
  rw [e]
  exact q
theorem ne_b {a b : Bool} {Q : Bool → Prop} (q : Q (!(a == b))) : cmpD .NotEq (.bl a) (.bl b) Q := by
  refine ⟨(Pl.bl (n := 0) a).shp (by decide), (Pl.bl (n := 0) b).shp (by decide), ?_⟩
  show Q (!(PyData.eqv (toP (.bl a)) (toP (.bl b))))
  rw [toP, toP, PyData.eqv]
  exact q
theorem eq_b {a b : Bool} {Q : Bool → Prop} (q : Q (a == b)) : cmpD .Eq (.bl a) (.bl b) Q := by
  refine ⟨(Pl.bl (n := 0) a).shp (by decide), (Pl.bl (n := 0) b).shp (by decide), ?_⟩
  show Q (PyData.eqv (toP (.bl a)) (toP (.bl b)))
  rw [toP, toP, PyData.eqv]
  exact q
/-! ### the same of the same -/
def sameZ (n : Nat) : ZSp := fun us O Q _ => ∃ x : D, us = [.d x, .d x] ∧ O = [] ∧ Pl n x ∧ Q (.d (.bl true)) []
theorem isi_tab : isiB "list" ["list", "tuple"] = some true ∧ isiB "tuple" ["list", "tuple"] = some true ∧ isiB "int" ["list", "tuple"] = some false ∧ isiB "bool" ["list", "tuple"] = some false ∧ isiB "NoneType" ["list", "tuple"] = some false ∧
    isiB "list" ["list"] = some true ∧ isiB "list" ["tuple"] = some false ∧ isiB "tuple" ["list"] = some false ∧ isiB "tuple" ["tuple"] = some true ∧ isiB "int" ["dict"] = some false ∧ isiB "bool" ["dict"] = some false ∧ isiB "int" ["bool"] = some false ∧ isiB "bool" ["bool"] = some true ∧ isiB "int" ["int"] = some true := by decide +kernel
theorem zip_self : ∀ ds : List D, List.zipWith (fun d e => D.tup [d, e]) ds ds = ds.map fun d => D.tup [d, d]
  | [] => rfl
  | d :: ds => by rw [List.zipWith_cons_cons, zip_self ds]; rfl
theorem is_nn {Q : Bool → Prop} : cmpD .Is .non .non Q = Q true := rfl
theorem is_in {i : Int} {Q : Bool → Prop} : cmpD .Is (.int i) .non Q = Q false := rfl
theorem is_bn {i : Bool} {Q : Bool → Prop} : cmpD .Is (.bl i) .non Q = Q false := rfl
theorem k_law_same (n : Nat) (S : ZSp) (hS : ∀ m, n = m + 1 → S = sameZ m) : Keeps [("_law_same", S)] y__law_same N__law_same.length (sameZ n) := by
  rintro us O Q E ⟨x, rfl, rfl, hx, h⟩
  show vcS _ y__law_same E _ [some (.d x), some (.d x), none, none] _
  obtain ⟨t1, t2, t3, t4, t5, t6, t7, t8, t9, t10, t11, t12, t13, t14⟩ := isi_tab
  have seq : ∀ (m : Nat) (ds : List D), n = m + 1 → ds.length ≤ 1000 → (∀ d ∈ ds, Pl m d) → ∀ F : List D → List DO → Prop, F (ds.map fun _ => .bl true) [] →
      compR (.tp (.cons (.nm 2) (.cons (.nm 3) .nil))) yesV (fun ρ O Q => vc [("_law_same", S)] (.call 0 (.cons (.var 2) (.cons (.var 3) .nil))) (fun _ _ => False) ρ O Q) [some (.d x), some (.d x), none, none] 0 (ds.map fun d => D.tup [d, d]) [] [] F := fun m ds hm hl hd F hF => by
    refine compR_map (fun _ => D.bl true) (Nat.le_refl 0) (ds.map fun d => D.tup [d, d]) (fun d hd' G hG => ?_) (by
      rw [List.map_map]
      exact hF)
    obtain ⟨e, he, rfl⟩ := List.mem_map.mp hd'
    simp only [bindT, bindTs, vc, gt, st, oneK_1, List.getElem?_cons_zero]
    refine callD0 [e, e] fun F X hF => ?_
    rw [hS m hm]
    exact ⟨e, rfl, rfl, hd e he, hF _ hG⟩
  have e2 : ∀ ds : List D, (ds.map fun _ => D.bl true) = (ds.map fun _ => true).map .bl := fun ds => by
    rw [List.map_map]
    rfl
  have e3 : ∀ ds : List D, (ds.map fun _ => true).all id = true := fun ds => by simp
  cases hx with
  | @lst m ds hl hd =>
    simp only [y__law_same, vcS, vc, gt, st, oneK_1, boolK_1, tyU, tyD, t1, t6, t7, ex_some, nrK_d, nrsK_1, brK_d, len_l, eq_i, wipeR, wipeR.rm, zip_self, Bool.false_eq_true, Bool.true_eq_false, false_implies, true_implies, true_and, and_true]
    refine ne_b ⟨(fun z => by cases z), fun _ => ne_b ⟨(fun z => by cases z), fun _ => ?_⟩⟩
    rw [decide_eq_true trivial]
    refine ⟨fun _ => ⟨_, rfl, by rw [List.length_map]; exact Nat.le_trans hl (by decide), seq m ds rfl hl hd _ ?_⟩, fun z => by cases z⟩
    simp only [newL, unb_0, oneK_1, nrsK_1]
    rw [e2]
    refine all_l ?_
    rw [e3]
    exact h
  | @tup m ds hl hd =>
    simp only [y__law_same, vcS, vc, gt, st, oneK_1, boolK_1, tyU, tyD, t2, t8, t9, ex_some, nrK_d, nrsK_1, brK_d, len_t, eq_i, wipeR, wipeR.rm, zip_self, Bool.false_eq_true, Bool.true_eq_false, false_implies, true_implies, true_and, and_true]
    refine ne_b ⟨(fun z => by cases z), fun _ => ne_b ⟨(fun z => by cases z), fun _ => ?_⟩⟩
    rw [decide_eq_true trivial]
    refine ⟨fun _ => ⟨_, rfl, by rw [List.length_map]; exact Nat.le_trans hl (by decide), seq m ds rfl hl hd _ ?_⟩, fun z => by cases z⟩
    simp only [newL, unb_0, oneK_1, nrsK_1]
    rw [e2]
    refine all_l ?_
    rw [e3]
    exact h
  | non =>
    simp only [y__law_same, vcS, vc, gt, st, oneK_1, boolK_1, tyU, tyD, t5, ex_some, nrK_d, is_nn]
    refine ⟨fun z => (by cases z), fun _ => ?_⟩
    refine ⟨fun _ => ⟨fun _ => ⟨fun _ => h, fun z => (by cases z)⟩, fun z => (by cases z)⟩, fun z => (by cases z)⟩
  | int i =>
    simp only [y__law_same, vcS, vc, gt, st, oneK_1, boolK_1, tyU, tyD, t3, t10, t12, t14, ex_some, nrK_d, is_in, eq_i, Bool.false_eq_true, Bool.true_eq_false, false_implies, true_implies, true_and, and_true]
    rw [decide_eq_true trivial]
    exact h
  | bl b =>
    simp only [y__law_same, vcS, vc, gt, st, oneK_1, boolK_1, tyU, tyD, t4, t11, t13, ex_some, nrK_d, is_bn, Bool.false_eq_true, Bool.true_eq_false, false_implies, true_implies, true_and, and_true]
    refine eq_b ?_
    rw [beq_self_eq_true]
    exact h
/-! ### statements, one at a time -/
section
variable {Γ : List (Str × ZSp)} {E : ZX} {D : ZD} {ρ : List (Option U)} {O : List DO}
theorem vs_seq {a r : YS} : vcS Γ (.seq a r) E D ρ O = vcS Γ a E { D with nx := fun ρ' O' => vcS Γ r E D ρ' O' } ρ O := rfl
theorem vs_nil : vcS Γ .nil E D ρ O = D.nx ρ O := rfl
theorem vs_set {i : Nat} {y : Y} : vcS Γ (.set i y) E D ρ O = vc Γ y E ρ O fun us O1 => oneK us fun u => D.nx (st ρ i u) O1 := rfl
theorem vs_ex {y : Y} : vcS Γ (.ex y) E D ρ O = vc Γ y E ρ O fun us O1 => oneK us fun _ => D.nx ρ O1 := rfl
theorem vs_tgt {t : T1} {y : Y} : vcS Γ (.tgt t y) E D ρ O = vc Γ y E ρ O fun us O1 => oneK us fun u => toK O1 u fun d => bindT t d ρ fun ρ1 => D.nx ρ1 O1 := rfl
theorem vs_ite {c : Y} {a b : YS} : vcS Γ (.ite c a b) E D ρ O = vc Γ c E ρ O fun us O1 => boolK us fun t => (t = true → vcS Γ a E D ρ O1) ∧ (t = false → vcS Γ b E D ρ O1) := rfl
theorem vs_for {t : T1} {src : Y} {b : YS} : vcS Γ (.for_ t src b) E D ρ O = vc Γ src E ρ O fun us O1 => ∃ ds, us = ds.map .d ∧ forR t (vcS Γ b) E D O ds ρ O1 := rfl
theorem vs_ret {y : Y} : vcS Γ (.ret y) E D ρ O = vc Γ y E ρ O fun us O1 => oneK us fun u => D.rt u O1 := rfl
theorem vs_par {i j : Nat} {es : Y} : vcS Γ (.par i j es) E D ρ O = vc Γ es E ρ O fun us O1 => match us with
    | [u, w] => D.nx (st (st ρ i u) j w) O1
    | _ => False := rfl
end
theorem toDs_map {O : List DO} : ∀ ds : List D, toDs O (ds.map .d) = some ds
  | [] => by rw [List.map_nil, toDs_nil]
  | d :: ds => by rw [List.map_cons, toDs_d, toDs_map ds]; rfl
theorem tosK_snoc {O : List DO} {ds : List D} {x : D} {k : List D → Prop} : tosK O (ds.map .d ++ [.d x]) k = k (ds ++ [x]) := by
  have : ds.map U.d ++ [.d x] = (ds ++ [x]).map .d := by rw [List.map_append]; rfl
  rw [this]
  exact tosK_some (toDs_map _)
theorem so_same : ∀ {O : List DO} {k : Nat} {x : DO}, go O k = some x → so O k x = O
  | [], _, _, h => by cases h
  | o :: O, 0, x, h => by
    have : o = x := by simpa [go] using h
    rw [so, this]
  | o :: O, k + 1, x, h => by
    have h' : go O k = some x := h
    rw [so, so_same h']
theorem unb1_self (o : DO) : unb1 o o = o := by cases o <;> rfl
theorem unb_self : ∀ O : List DO, unb O O = O
  | [] => rfl
  | o :: O => by rw [unb, unb_self O, unb1_self]
theorem unb_brw : ∀ {O : List DO} {k : Nat} {ds : List D}, go O k = some (.lst ds) → unb O (so O k (.brw ds)) = O
  | [], _, _, h => by cases h
  | o :: O, 0, ds, h => by
    have : o = .lst ds := by simpa [go] using h
    rw [so, unb, this, unb_self]
    rfl
  | o :: O, k + 1, ds, h => by
    have h' : go O k = some (.lst ds) := h
    rw [so, unb, unb_brw h', unb1_self]
theorem brK_o {O : List DO} {j : Nat} {ds : List D} {k : D → List DO → Prop} (h : go O j = some (.lst ds)) : brK O (.o j) k = k (.lst ds) (so O j (.brw ds)) := by
  unfold brK
  simp only [h]
theorem go_snoc {O : List DO} {x y : DO} {k : Nat} (h : go O k = some x) : go (O ++ [y]) k = some x := by
  rw [go_eq] at h ⊢
  rw [List.getElem?_append_left (List.getElem?_eq_some_iff.mp h).1]
  exact h
theorem go_last {O : List DO} {y : DO} : go (O ++ [y]) O.length = some y := by
  rw [go_eq, List.getElem?_append_right (Nat.le_refl _), Nat.sub_self]
  rfl
theorem go_so {O : List DO} {k j : Nat} {x y : DO} (h : go O k = some x) (hkj : k ≠ j) : go (so O j y) k = some x := by
  rw [go_eq] at h ⊢
  rw [so_eq, List.getElem?_set_ne (Ne.symm hkj)]
  exact h
theorem go_so_self {O : List DO} {k : Nat} {x y : DO} (h : go O k = some x) : go (so O k y) k = some y := by
  rw [go_eq] at h ⊢
  rw [so_eq, List.getElem?_set_self (List.getElem?_eq_some_iff.mp h).1]
theorem go_len {O : List DO} {k : Nat} {x : DO} (h : go O k = some x) : k < O.length := by
  rw [go_eq] at h
  exact (List.getElem?_eq_some_iff.mp h).1
theorem so_len {O : List DO} {k : Nat} {x : DO} : (so O k x).length = O.length := by rw [so_eq, List.length_set]
theorem unb_go : ∀ {O0 O : List DO} {k : Nat} {ds : List D}, go O k = some (.lst ds) → go (unb O0 O) k = some (.lst ds)
  | [], _, _, _, h => by rw [unb]; exact h
  | _ :: _, [], _, _, h => by cases h
  | o :: _, x :: O, 0, ds, h => by
    have : x = .lst ds := by simpa [go] using h
    rw [unb, this]
    cases o <;> rfl
  | o :: O0, x :: O, k + 1, ds, h => by
    have h' : go O k = some (.lst ds) := h
    rw [unb]
    exact unb_go (O0 := O0) h'
theorem cut_to {β : Type} (xs : List β) {j : Nat} (h : j ≤ xs.length) : cutL xs none (some (j : Int)) = xs.take j := by
  unfold cutL
  rw [HT.sIx_nat, HT.sIx_none, Nat.min_eq_left h, List.drop_zero, Nat.sub_zero]
theorem cut_from {β : Type} (xs : List β) {j : Nat} (h : j ≤ xs.length) : cutL xs (some (j : Int)) none = xs.drop j := by
  unfold cutL
  rw [HT.sIx_nat, HT.sIx_none, Nat.min_eq_left h, List.take_of_length_le (by rw [List.length_drop]; exact Nat.le_refl _)]
end Z

set_option Elab.async false
set_option linter.all false
set_option maxRecDepth 100000
set_option maxHeartbeats 4000000
namespace Z
open PySem PySem.Spec PyProof.Rows L2
/-! ### large products, small quotients -/
theorem bits_le {x : Int} {a : Nat} (h : x.natAbs < 2 ^ a) : Builtin.Int.intBits x ≤ a := by
  unfold Builtin.Int.intBits
  by_cases h0 : (x == 0) = true
  · rw [if_pos h0]
    exact Nat.zero_le _
  · rw [if_neg h0]
    have hx : x.natAbs ≠ 0 := fun z => h0 (by simp; omega)
    exact (Nat.log2_lt hx).mpr h
theorem mulOk_big {x y : Int} {a b : Nat} (h : x.natAbs < 2 ^ a) (k : y.natAbs < 2 ^ b) (l : a + b ≤ 134217728) : MulOk x y := by
  intro z
  rw [Bool.and_eq_true] at z
  have z2 := z.2
  unfold Builtin.Int.intTooBig at z2
  have z3 := of_decide_eq_true z2
  have h1 := bits_le h
  have h2 := bits_le k
  have hb : bitsLine = 134217728 := by decide
  rw [hb] at z3
  omega
theorem divQ_low {x y : Int} (h0 : y ≠ 0) (h : y.natAbs < 2 ^ 8999) : DivQ x y := ⟨h0, PyProof.noPylong_of_log2 (by have := PySem.Flt.log2_lt_of (by decide) h; omega)⟩
theorem divQ_near {x y : Int} (h0 : y ≠ 0) (h : x.natAbs ≤ 2 * y.natAbs) : DivQ x y := by
  refine ⟨h0, ?_⟩
  unfold Builtin.divisionGoesByPylong
  have key : ¬ ((if x == 0 then 0 else x.natAbs.log2 / 30 + 1) > (if y == 0 then 0 else y.natAbs.log2 / 30 + 1) + 150) := by
    rw [if_neg (show ¬ ((y == 0) = true) by simpa using h0)]
    by_cases hx : (x == 0) = true
    · rw [if_pos hx]
      omega
    · rw [if_neg hx]
      have hx0 : x.natAbs ≠ 0 := fun z => hx (by simp; omega)
      have hy0 : y.natAbs ≠ 0 := by omega
      have l1 : x.natAbs.log2 < y.natAbs.log2 + 2 := by
        refine (Nat.log2_lt hx0).mpr ?_
        have := (Nat.log2_lt hy0 (k := y.natAbs.log2 + 1)).mp (Nat.lt_succ_self _)
        rw [Nat.pow_succ]
        omega
      omega
  show (decide _ && decide _) = false
  rw [decide_eq_false key, Bool.and_false]
/-! ### rows as tuples -/
def fn (r : List Int) : Fn := fun j => r.getD j 0
def tupD (r : List Int) : D := .tup (r.map .int)
def lessL (r o : List Int) (t : Int) : List Int := List.zipWith (fun x y => x - t * y) r o
theorem fn_less (t : Int) : ∀ (r o : List Int), r.length = o.length → fn (lessL r o t) = lessF (fn r) (fn o) t
  | [], [], _ => funext fun j => by show (0 : Int) = 0 - t * 0; simp
  | x :: r, y :: o, h => funext fun j => by
    have ih := fn_less t r o (by simpa using h)
    cases j with
    | zero => rfl
    | succ j => exact congrFun ih j
  | [], _ :: _, h => by simp at h
  | _ :: _, [], h => by simp at h
theorem less_len {r o : List Int} {t : Int} (h : r.length = o.length) : (lessL r o t).length = r.length := by
  unfold lessL
  rw [List.length_zipWith, h, Nat.min_self]
theorem fn_out {r : List Int} {j : Nat} (h : r.length ≤ j) : fn r j = 0 := by
  show r.getD j 0 = 0
  rw [List.getD_eq_getElem?_getD, List.getElem?_eq_none h]
  rfl
theorem fn_mem {r : List Int} {x : Int} (h : x ∈ r) : ∃ j, j < r.length ∧ fn r j = x := by
  obtain ⟨j, hj, rfl⟩ := List.mem_iff_getElem.mp h
  exact ⟨j, hj, by show r.getD j 0 = r[j]; rw [List.getD_eq_getElem?_getD, List.getElem?_eq_getElem hj]; rfl⟩
theorem at_fn {r : List Int} {j : Nat} (h : j < r.length) : atI (r.map D.int) (j : Int) = some (.int (fn r j)) := atI_nat (by
  rw [List.getElem?_map, List.getElem?_eq_getElem h]
  show _ = some (D.int (r.getD j 0))
  rw [List.getD_eq_getElem?_getD, List.getElem?_eq_getElem h]
  rfl)
theorem rng_at {n j : Nat} {d : D} (e : ((List.range n).map fun (i : Nat) => D.int (0 + (i : Int)))[j]? = some d) : j < n ∧ d = .int (j : Int) := by
  have hj : j < n := by
    have := (List.getElem?_eq_some_iff.mp e).1
    rw [List.length_map, List.length_range] at this
    exact this
  rw [List.getElem?_map, List.getElem?_range hj] at e
  exact ⟨hj, by simpa using e.symm⟩
def unitZ : ZSp := fun us O Q _ => ∃ (m i : Nat), us = [.d (.int m), .d (.int i)] ∧ O = [] ∧ m ≤ 100 ∧ Q (.d (tupD ((List.range m).map fun p => if p = i then 1 else 0))) []
theorem k_unit : Keeps [] y_unit N_unit.length unitZ := by
  rintro us O Q E ⟨m, i, rfl, rfl, hm, h⟩
  show vcS _ y_unit E _ [some (.d (.int m)), some (.d (.int i)), none] []
  simp -implicitDefEqProofs only [y_unit, vcS, vc, gt, st, oneK_1, nrK_d, wipeR, wipeR.rm]
  refine ⟨⟨by omega, by omega⟩, _, rfl, by rw [List.length_map, List.length_range, sizeLine_eq]; omega, ?_⟩
  refine compR_inv (fun j acc O => O = [] ∧ acc = ((List.range j).map fun p => if p = i then (1 : Int) else 0).map .int) _ [] [] 0 ⟨rfl, rfl⟩ ?_ ?_
  · rintro j d acc O e ⟨rfl, rfl⟩ F hF
    obtain ⟨hj, rfl⟩ := rng_at e
    simp -implicitDefEqProofs only [bindT, gt, st, nrK_d, oneK_1, eq_i, boolK_1]
    refine way (fun hji => hF _ _ ⟨rfl, ?_⟩) fun hji => hF _ _ ⟨rfl, ?_⟩
    · rw [Nat.zero_add, List.range_succ, List.map_append, List.map_append]
      have : j = i := by omega
      simp [this]
    · rw [Nat.zero_add, List.range_succ, List.map_append, List.map_append]
      have : j ≠ i := by omega
      simp [this]
  · rintro acc O ⟨rfl, rfl⟩
    rw [List.length_map, List.length_range, Nat.zero_add, show ((m : Int)).toNat = m by omega]
    simp -implicitDefEqProofs only [newL, unb_0, oneK_1, nrsK_1, tuple_l]
    exact h
def timesZ : ZSp := fun us O Q _ => ∃ (r : List Int), us = [.d (tupD r), .d (.int (-1))] ∧ O = [] ∧ r.length ≤ 100 ∧ Q (.d (tupD (r.map (· * -1)))) []
theorem k_vector_times : Keeps [] y_vector_times N_vector_times.length timesZ := by
  rintro us O Q E ⟨r, rfl, rfl, hl, h⟩
  show vcS _ y_vector_times E _ [some (.d (tupD r)), some (.d (.int (-1))), none] []
  simp -implicitDefEqProofs only [y_vector_times, tupD, vcS, vc, gt, st, oneK_1, brK_d, wipeR, wipeR.rm]
  refine ⟨_, rfl, by rw [List.length_map, sizeLine_eq]; omega, ?_⟩
  refine compR_map (fun d => match d with
    | .int a => .int (a * -1)
    | _ => .non) (Nat.le_refl _) _ (fun d hd F hF => ?_) ?_
  · obtain ⟨x, hx, rfl⟩ := List.mem_map.mp hd
    simp -implicitDefEqProofs only [bindT, gt, st, nrK_d, oneK_1, mul_i]
    exact ⟨mulOk_r (by decide) (by decide), hF⟩
  · simp -implicitDefEqProofs only [newL, unb_0, oneK_1, nrsK_1, tuple_l]
    have e : (r.map D.int).map (fun d => match d with
      | .int a => D.int (a * -1)
      | _ => .non) = (r.map (· * -1)).map .int := by
      rw [List.map_map, List.map_map]
      rfl
    rw [e]
    exact h
def pvZ : ZSp := fun us O Q _ => ∃ (r : List Int) (w : Nat), us = [.d (tupD r), .d (.int w)] ∧ O = [] ∧ w ≤ r.length ∧ w ≤ 100 ∧ Q (.d (.int (pv w (fn r)))) []
theorem k_pivot_place : Keeps [] y_pivot_place N_pivot_place.length pvZ := by
  rintro us O Q E ⟨r, w, rfl, rfl, hw, hw2, h⟩
  show vcS _ y_pivot_place E _ [some (.d (tupD r)), some (.d (.int w)), none] []
  simp -implicitDefEqProofs only [y_pivot_place, tupD, vcS, vc, gt, st, oneK_1, nrK_d]
  refine ⟨⟨by omega, by omega⟩, _, rfl, ?_⟩
  refine forR_inv (fun i ρ O => O = [] ∧ ∃ x2, ρ = [some (.d (.tup (r.map .int))), some (.d (.int w)), x2] ∧ ∀ j, j < i → fn r j = 0) _ _ _ 0 ⟨rfl, none, rfl, fun j hj => by omega⟩ ?_ ?_
  · rintro j d ρ O e ⟨rfl, x2, rfl, hz⟩ N hN
    obtain ⟨hj, rfl⟩ := rng_at e
    rw [Nat.zero_add] at hz
    simp -implicitDefEqProofs only [bindT, gt, st, oneK_1, nrK_d, ix_t, at_fn (by omega : j < r.length), ex_some, ne_i, boolK_1]
    refine wayN (fun hne => ?_) fun he => hN _ _ ⟨rfl, _, rfl, fun i hi => ?_⟩
    · rw [unb_0, ← pv_eq (w := w) (by omega) hne hz]
      exact h
    · by_cases q : i = j
      · rw [q]; exact he
      · exact hz i (by omega)
  · rintro ρ O ⟨rfl, x2, rfl, hz⟩
    rw [List.length_map, List.length_range, Nat.zero_add] at hz
    simp -implicitDefEqProofs only [unb_0, vcS, vc, gt, oneK_1]
    have : pv w (fn r) = w := by
      refine Nat.le_antisymm pv_le (Nat.le_of_not_lt fun z => pv_ne z (hz _ (by omega)))
    rw [this] at h
    exact h
def lessZ : ZSp := fun us O Q _ => ∃ (r o : List Int) (t : Int), us = [.d (tupD r), .d (tupD o), .d (.int t)] ∧ O = [] ∧ r.length = o.length ∧ r.length ≤ 100 ∧ (∀ x ∈ o, MulOk t x) ∧ Q (.d (tupD (lessL r o t))) []
theorem zip_ints {r p : List Int} : List.zipWith (fun d e => D.tup [d, e]) (r.map .int) (p.map .int) = (List.zip r p).map fun q => D.tup [.int q.1, .int q.2] := by
  rw [List.zipWith_map, List.zip_eq_zipWith, List.map_zipWith]
theorem less0 : ∀ (r o : List Int), r.length = o.length → lessL r o 0 = r
  | [], [], _ => rfl
  | x :: r, y :: o, h => by
    show (x - 0 * y) :: lessL r o 0 = _
    rw [less0 r o (by simpa using h)]
    simp
  | [], _ :: _, h => by simp at h
  | _ :: _, [], h => by simp at h
theorem k_less_times : Keeps [] y_less_times N_less_times.length lessZ := by
  rintro us O Q E ⟨r, o, t, rfl, rfl, hl, hn, hm, h⟩
  show vcS _ y_less_times E _ [some (.d (tupD r)), some (.d (tupD o)), some (.d (.int t)), none, none] []
  simp -implicitDefEqProofs only [y_less_times, tupD, vcS, vc, gt, st, oneK_1, nrK_d, eq_i, boolK_1, brK_d, wipeR, wipeR.rm, zip_ints]
  refine way (fun h0 => ?_) fun _ => ?_
  · subst h0
    rw [less0 r o hl] at h
    exact h
  · refine ⟨_, rfl, by rw [List.length_map, List.length_zip, sizeLine_eq]; omega, ?_⟩
    refine compR_map (fun d => match d with
      | .tup [.int u, .int w] => .int (u - t * w)
      | _ => .non) (Nat.le_refl _) _ (fun d hd F hF => ?_) ?_
    · obtain ⟨⟨u, v⟩, hz, rfl⟩ := List.mem_map.mp hd
      simp -implicitDefEqProofs only [bindT, bindTs, gt, st, nrK_d, oneK_1, mul_i, sub_i]
      exact ⟨hm v (List.of_mem_zip hz).2, hF⟩
    · simp -implicitDefEqProofs only [newL, unb_0, oneK_1, nrsK_1, tuple_l]
      have e : ((List.zip r o).map fun q => D.tup [.int q.1, .int q.2]).map (fun d => match d with
        | .tup [.int u, .int w] => D.int (u - t * w)
        | _ => .non) = (lessL r o t).map .int := by
        unfold lessL
        rw [List.map_map, List.map_zipWith, List.zip_eq_zipWith, List.map_zipWith]
        rfl
      rw [e]
      exact h
/-! ### remainders -/
def fns (rs : List (List Int)) : List Fn := rs.map fn
def tupsD (rs : List (List Int)) : List D := rs.map tupD
/-- rows that a remainder may be taken by -/
structure RowsOk (w n a Mx : Nat) (rs : List (List Int)) : Prop where
  len : ∀ r ∈ rs, r.length = n
  w100 : w ≤ n
  n100 : n ≤ 100
  few : rs.length ≤ 20
  ech : Ech w (fns rs)
  rz : ∀ r ∈ rs, Rz w a Mx (fn r)
  pos : ∀ r ∈ rs, 0 < fn r (pv w (fn r))
  piv : ∀ r ∈ rs, (fn r (pv w (fn r))).natAbs < 2 ^ 8999
theorem RowsOk.lt {w n a Mx : Nat} {rs : List (List Int)} (h : RowsOk w n a Mx rs) : ∀ r ∈ rs, pv w (fn r) < w := fun r hr => h.ech.lt _ (List.mem_map.mpr ⟨r, hr, rfl⟩)
def remZ : ZSp := fun us O Q _ => ∃ (rs : List (List Int)) (v : List Int) (w n a Mx b : Nat) (u : U), us = [u, .d (tupD v), .d (.int w)] ∧ ((u = .d (.lst (tupsD rs)) ∧ O = []) ∨ (u = .o 0 ∧ O = [.lst (tupsD rs)])) ∧ RowsOk w n a Mx rs ∧ v.length = n ∧ Pz w Mx b (fn v) ∧ Mx + b + rs.length * (a + 1) + b + rs.length * (a + 1) ≤ 134217728 ∧
  ∀ v', v'.length = n → fn v' = remF w (fns rs) (fn v) → Q (.d (tupD v')) O
theorem k_remainder_by : Keeps [("less_times", lessZ), ("pivot_place", pvZ)] y_remainder_by N_remainder_by.length remZ := by
  rintro us O Q E ⟨rs, v, w, n, a, Mx, b, u, rfl, hu, hR, hv, hpz, hbits, h⟩
  show vcS _ y_remainder_by E _ [some u, some (.d (tupD v)), some (.d (.int w)), none, none, none] _
  have hfew := hR.few
  have hn := hR.n100
  have hw := hR.w100
  suffices main : ∀ (O0 O1 : List DO), (∀ v', v'.length = n → fn v' = remF w (fns rs) (fn v) → Q (.d (tupD v')) (unb O0 O1)) → forR (.nm 4) (vcS [("less_times", lessZ), ("pivot_place", pvZ)] (.seq (.set 5 (.call 1 (.cons (.var 4) (.cons (.var 2) .nil)))) (.seq (.set 3 (.call 0 (.cons (.var 3) (.cons (.var 4) (.cons (.bin .FloorDiv (.ix (.var 3) (.var 5)) (.ix (.var 4) (.var 5))) .nil))))) .nil))) E
      ⟨fun ρ' O' => vcS [("less_times", lessZ), ("pivot_place", pvZ)] (.seq (.ret (.var 3)) .nil) E ⟨fun _ O' => Q (.d .non) O', Q, fun _ _ => False, fun _ _ => False⟩ ρ' O', Q, fun _ _ => False, fun _ _ => False⟩ O0 (tupsD rs) [some u, some (.d (tupD v)), some (.d (.int w)), some (.d (tupD v)), none, none] O1 by
    rcases hu with ⟨rfl, rfl⟩ | ⟨rfl, rfl⟩
    · simp -implicitDefEqProofs only [y_remainder_by]
      rw [vs_seq, vs_set]
      simp -implicitDefEqProofs only [vc, gt, st, oneK_1]
      rw [vs_seq, vs_for]
      simp -implicitDefEqProofs only [vc, gt, st, oneK_1, brK_d]
      exact ⟨_, rfl, main [] [] h⟩
    · simp -implicitDefEqProofs only [y_remainder_by]
      rw [vs_seq, vs_set]
      simp -implicitDefEqProofs only [vc, gt, st, oneK_1]
      rw [vs_seq, vs_for]
      simp -implicitDefEqProofs only [vc, gt, st, oneK_1]
      rw [brK_o (ds := tupsD rs) rfl]
      refine ⟨_, rfl, main [.lst (tupsD rs)] [.brw (tupsD rs)] h⟩
  intro O0 O1 hQ
  refine forR_inv (fun i ρ O => O = O1 ∧ ∃ (x : List Int) (x4 x5 : Option U), ρ = [some u, some (.d (tupD v)), some (.d (.int w)), some (.d (tupD x)), x4, x5] ∧ x.length = n ∧ fn x = remF w (fns (rs.take i)) (fn v)) _ _ _ 0 ⟨rfl, v, none, none, rfl, hv, rfl⟩ ?_ ?_
  · rintro j d ρ O e ⟨rfl, x, x4, x5, rfl, hx, hfx⟩ N hN
    unfold tupsD at e
    rw [List.getElem?_map] at e
    cases q : rs[j]? with
    | none => rw [q] at e; cases e
    | some r =>
    rw [q] at e
    cases e
    rw [Nat.zero_add] at hfx hN
    have hrm := List.mem_of_getElem? q
    have hrl := hR.len r hrm
    have hjl := (List.getElem?_eq_some_iff.mp q).1
    have hp := hR.lt r hrm
    have hpos := hR.pos r hrm
    have hpx : Pz w Mx (b + (rs.take j).length * (a + 1)) (fn x) := by
      have := rem_pz (A := fns (rs.take j)) (a := a) (x := fn v) (fun c hc => by
        obtain ⟨r', hr', rfl⟩ := List.mem_map.mp hc
        have hm := List.mem_of_mem_take hr'
        exact ⟨hR.rz r' hm, hR.lt r' hm, hR.pos r' hm⟩) hpz
      rw [hfx]
      have e2 : (fns (rs.take j)).length = (rs.take j).length := List.length_map ..
      rw [e2] at this
      exact this
    have htl : (rs.take j).length = j := by rw [List.length_take]; omega
    rw [htl] at hpx
    have hle : j * (a + 1) ≤ rs.length * (a + 1) := Nat.mul_le_mul_right _ (by omega)
    simp -implicitDefEqProofs only [bindT, gt, st]
    rw [vs_seq, vs_set]
    simp -implicitDefEqProofs only [vc, gt, st, oneK_1, List.getElem?_cons_zero, List.getElem?_cons_succ]
    refine callD0 [tupD r, .int w] fun F X hF => ⟨r, w, rfl, rfl, by omega, by omega, hF _ ?_⟩
    rw [vs_seq, vs_set]
    have hq : ((fn x (pv w (fn r))).fdiv (fn r (pv w (fn r)))).natAbs < 2 ^ (b + j * (a + 1)) := Nat.lt_of_le_of_lt (fdiv_abs hpos) (hpx.1 _ hp)
    simp -implicitDefEqProofs only [vc, tupD, gt, st, oneK_1, nrK_d, ix_t, at_fn (by omega : pv w (fn r) < x.length), at_fn (by omega : pv w (fn r) < r.length), ex_some, div_i, List.getElem?_cons_zero, List.getElem?_cons_succ]
    refine ⟨⟨by omega, by have := PySem.Flt.log2_lt_of (by decide) (hR.piv r hrm); omega⟩, ?_⟩
    refine callD0 [tupD x, tupD r, .int ((fn x (pv w (fn r))).fdiv (fn r (pv w (fn r))))] fun F X hF => ⟨x, r, _, rfl, rfl, by omega, by omega, fun y hy => ?_, hF _ ?_⟩
    · obtain ⟨i, hi, rfl⟩ := fn_mem hy
      exact mulOk_big hq ((hR.rz r hrm).2 i) (by omega)
    · rw [vs_nil]
      refine hN _ _ ⟨rfl, _, _, _, rfl, by rw [less_len (by omega)]; exact hx, ?_⟩
      rw [fn_less _ _ _ (by omega), List.take_succ, q]
      show _ = remF w ((rs.take j ++ [r]).map fn) (fn v)
      rw [List.map_append]
      show _ = remF w (fns (rs.take j) ++ [fn r]) (fn v)
      rw [rem_snoc, ← hfx]
  · rintro ρ O ⟨rfl, x, x4, x5, rfl, hx, hfx⟩
    rw [Nat.zero_add, List.take_of_length_le (by unfold tupsD; rw [List.length_map]; exact Nat.le_refl _)] at hfx
    dsimp only
    rw [vs_seq, vs_ret]
    exact hQ x hx hfx
end Z

set_option Elab.async false
set_option linter.all false
set_option maxRecDepth 100000
set_option maxHeartbeats 4000000
namespace Z
open PySem PySem.Spec PyProof.Rows L2
/-! ### two rows -/
theorem Eu.quo {K L T x y a b c d : Int} (h : Eu K L T x y a b c d) (hT : T.natAbs < 2 ^ 8999) (hy : y ≠ 0) : DivQ x y := by
  rcases h.dv with z | z | z
  · exact divQ_low hy (by omega)
  · exact divQ_near hy (by omega)
  · exact divQ_near hy (by omega)
def eucZ : ZSp := fun us O Q _ => ∃ (k l : List Int) (p n S al M : Nat), us = [.d (tupD k), .d (tupD l), .d (.int p)] ∧ O = [] ∧ k.length = n ∧ l.length = n ∧ n ≤ 100 ∧ p < n ∧ fn k p ≠ 0 ∧ fn l p ≠ 0 ∧ (fn k p).natAbs < 2 ^ S ∧ S ≤ 8999 ∧ (fn l p).natAbs < 2 ^ al ∧ S ≤ al ∧ (∀ j, (fn k j).natAbs < 2 ^ M ∧ (fn l j).natAbs < 2 ^ M) ∧ M + al + al + 10 ≤ 134217728 ∧
  ∀ k' l', k'.length = n → l'.length = n → EucR p (fn k) (fn l) (fn k') (fn l') → Q (.d (.tup [tupD k', tupD l'])) []
theorem k_euclid_rows : Keeps [("less_times", lessZ)] y_euclid_rows N_euclid_rows.length eucZ := by
  rintro us O Q E ⟨k, l, p, n, S, al, M, rfl, rfl, hk, hl, hn, hp, hk0, hl0, hkS, hS, hlal, hSal, hM, hbits, h⟩
  show vcS _ y_euclid_rows E _ [some (.d (tupD k)), some (.d (tupD l)), some (.d (.int p)), none, none] _
  simp -implicitDefEqProofs only [y_euclid_rows, vcS, vc, gt, st, oneK_1]
  have hT : ((fn k p).natAbs : Int).natAbs < 2 ^ 8999 := by
    rw [Int.natAbs_natCast]
    exact lt2_mono hkS hS
  refine ⟨fun m ρ O => O = [] ∧ ∃ (x y : List Int) (a b c d : Int), ρ = [some (.d (tupD k)), some (.d (tupD l)), some (.d (.int p)), some (.d (tupD x)), some (.d (tupD y))] ∧ x.length = n ∧ y.length = n ∧ m = (fn y p).natAbs ∧ (∀ j, fn x j = a * fn k j + b * fn l j) ∧ (∀ j, fn y j = c * fn k j + d * fn l j) ∧
    Eu (fn k p) (fn l p) (fn k p).natAbs (fn x p) (fn y p) a b c d, ⟨_, rfl, k, l, 1, 0, 0, 1, rfl, hk, hl, rfl, fun j => by omega, fun j => by omega, Eu.start hk0 hl0 (by omega)⟩, ?_⟩
  rintro m ρ O ⟨rfl, x, y, a, b, c, d, rfl, hx, hy, rfl, e1, e2, hE⟩
  simp -implicitDefEqProofs only [tupD, gt, st, oneK_1, nrK_d, ix_t, at_fn (by omega : p < x.length), at_fn (by omega : p < y.length), ex_some, ne_i, boolK_1, List.getElem?_cons_zero]
  refine wayN (fun hne => ?_) fun he => ?_
  · obtain ⟨hN, hlt⟩ := hE.next (by omega) hne
    refine ⟨hE.quo hT hne, ?_⟩
    have hx1 : 1 ≤ (fn x p).natAbs := by have := hE.nx; omega
    have hcL : c.natAbs ≤ (fn l p).natAbs := by
      have h1 := hE.p1
      have h2 := Nat.le_mul_of_pos_right c.natAbs hx1
      omega
    have hdL : d.natAbs ≤ (fn k p).natAbs + 2 * (fn l p).natAbs := by
      have h1 := hE.p2
      have h2 := Nat.le_mul_of_pos_right d.natAbs hx1
      omega
    have hkal : (fn k p).natAbs < 2 ^ al := lt2_mono hkS hSal
    have p1 : 2 ^ (al + 2) = 4 * 2 ^ al := by rw [Nat.pow_add, Nat.mul_comm]
    have p2 : 2 ^ (al + 1) = 2 * 2 ^ al := by rw [Nat.pow_add, Nat.mul_comm]
    have hq : ((fn x p).fdiv (fn y p)).natAbs < 2 ^ (al + 1) := by
      refine Nat.lt_of_le_of_lt (fdiv_abs2 hne) (Nat.lt_of_le_of_lt hE.big ?_)
      omega
    have hyb : ∀ j, (fn y j).natAbs < 2 ^ (M + al + 3) := fun j => by
      rw [e2 j]
      obtain ⟨m1, m2⟩ := hM j
      exact add_lt2 (a := al + M) (b := al + 2 + M) (mul_lt2 (by omega) m1) (mul_lt2 (by omega) m2) (by omega) (by omega)
    refine callD0 [tupD x, tupD y, .int ((fn x p).fdiv (fn y p))] fun F X hF => ⟨x, y, _, rfl, rfl, by omega, by omega, fun z hz => ?_, hF _ ?_⟩
    · obtain ⟨j, hj, rfl⟩ := fn_mem hz
      exact mulOk_big hq (hyb j) (by omega)
    · have ef := fn_less ((fn x p).fdiv (fn y p)) x y (by omega)
      refine ⟨(fn (lessL x y ((fn x p).fdiv (fn y p))) p).natAbs, ?_, rfl, y, lessL x y ((fn x p).fdiv (fn y p)), c, d, a - (fn x p).fdiv (fn y p) * c, b - (fn x p).fdiv (fn y p) * d, rfl, hy, by rw [less_len (by omega)]; exact hx, rfl, e2, fun j => ?_, ?_⟩
      · rw [ef]
        exact hlt
      · rw [ef]
        show fn x j - _ * fn y j = _
        rw [e1 j, e2 j, Int.sub_mul, Int.sub_mul, Int.mul_add, Int.mul_assoc, Int.mul_assoc]
        omega
      · rw [ef]
        exact hN
  · simp -implicitDefEqProofs only [tosK_2]
    refine ⟨(by decide : 2 ≤ sizeLine), h x y hx hy ⟨⟨a, b, c, d, e1, e2, hE.det, hE.na⟩, he, hE.nx⟩⟩
end Z

set_option Elab.async false
set_option linter.all false
set_option maxRecDepth 100000
set_option maxHeartbeats 4000000
namespace Z
open PySem PySem.Spec PyProof.Rows L2
theorem euc_pz {w a Mx b p : Nat} {r l k' l' : Fn} (hR : EucR p r l k' l') (hp : p < w) (hl0 : l p ≠ 0) (h1 : Rz w a Mx r) (hl : Pz w Mx b l) : Pz w Mx (b + a + 1) l' := by
  obtain ⟨α, β, γ, δ, e1, e2, s1, s2, s3, s4⟩ := hR.small hl0
  have lp := hl.1 _ hp
  have rp := h1.1 _ hp
  exact ⟨fun j hj => by rw [e2 j]; exact add_lt2 (mul_lt2 (a := b) (by omega) (h1.1 j hj)) (mul_le_lt (p := a) (by omega) (hl.1 j hj)) (by omega) (by omega), fun j => by rw [e2 j]; exact add_lt2 (a := b + Mx) (mul_lt2 (a := b) (by omega) (h1.2 j)) (mul_le_lt (p := a) (by omega) (hl.2 j)) (by omega) (by omega)⟩
/-! ### a row more -/
def bwrZ : ZSp := fun us O Q _ => ∃ (rs : List (List Int)) (v : List Int) (w n a Mx b : Nat), us = [.o 0, .d (tupD v), .d (.int w)] ∧ O = [.lst (tupsD rs)] ∧ RowsOk w n a Mx rs ∧ v.length = n ∧ Pz w Mx b (fn v) ∧ a ≤ b ∧ Mx + 3 * (b + rs.length * (a + 1)) + 30000 ≤ 134217728 ∧
  ∀ res, (∀ x ∈ res, x.length = n) → Ins w (fns rs) (fn v) (fns res) → Q (.d (.lst (tupsD res))) [.lst (tupsD rs)]
theorem tups_snoc {rs : List (List Int)} {r : List Int} : tupsD rs ++ [tupD r] = tupsD (rs ++ [r]) := by unfold tupsD; rw [List.map_append]; rfl
theorem fns_snoc {rs : List (List Int)} {r : List Int} : fns (rs ++ [r]) = fns rs ++ [fn r] := by unfold fns; rw [List.map_append]; rfl
theorem tups_len {rs : List (List Int)} : (tupsD rs).length = rs.length := List.length_map ..
theorem k_basis_with_row : KeepsD [("pivot_place", pvZ), ("euclid_rows", eucZ)] y_basis_with_row N_basis_with_row.length bwrZ := by
  rintro us O Q E ⟨rs, v, w, n, a, Mx, b, rfl, rfl, hR, hv, hpz, hab, hbits, h⟩
  show vcS _ y_basis_with_row E _ [some (.o 0), some (.d (tupD v)), some (.d (.int w)), none, none, none, none, none, none] _
  have hfew := hR.few
  have hn := hR.n100
  have hw := hR.w100
  simp -implicitDefEqProofs only [y_basis_with_row]
  rw [vs_seq, vs_set]
  simp -implicitDefEqProofs only [vc, gt, st, oneK_1, tosK_0, newL, List.length_nil, List.length_cons, List.cons_append, List.nil_append]
  refine ⟨(by decide : 0 ≤ sizeLine), ?_⟩
  rw [vs_seq, vs_set]
  simp -implicitDefEqProofs only [vc, gt, st, oneK_1]
  rw [vs_seq, vs_for]
  simp -implicitDefEqProofs only [vc, gt, st, oneK_1]
  rw [brK_o (ds := tupsD rs) rfl]
  refine ⟨_, rfl, ?_⟩
  refine forR_inv (fun i ρ O => ∃ (pre : List (List Int)) (l : List Int) (x5 x6 x7 x8 : Option U), O = [.brw (tupsD rs), .lst (tupsD pre)] ∧ ρ = [some (.o 0), some (.d (tupD v)), some (.d (.int w)), some (.o 1), some (.d (tupD l)), x5, x6, x7, x8] ∧ l.length = n ∧ Pz w Mx (b + i * (a + 1)) (fn l) ∧
    (∀ x ∈ pre, x.length = n) ∧ pre.length ≤ i ∧ ∀ res, Ins w (fns (rs.drop i)) (fn l) (fns res) → Ins w (fns rs) (fn v) (fns (pre ++ res))) _ _ _ 0 ?_ ?_ ?_
  · exact ⟨[], v, none, none, none, none, rfl, rfl, hv, by rw [Nat.zero_mul]; exact hpz, (fun x hx => by cases hx), Nat.le_refl _, fun res hi => hi⟩
  · rintro j d ρ O e ⟨pre, l, x5, x6, x7, x8, rfl, rfl, hl, hlp, hpre, hpl, hins⟩ N hN
    unfold tupsD at e
    rw [List.getElem?_map] at e
    cases q : rs[j]? with
    | none => rw [q] at e; cases e
    | some r =>
    rw [q] at e
    cases e
    rw [Nat.zero_add] at hlp hpl hins hN
    have hrm := List.mem_of_getElem? q
    have hrl := hR.len r hrm
    have hjl := (List.getElem?_eq_some_iff.mp q).1
    have hp := hR.lt r hrm
    have hrz := hR.rz r hrm
    have hdrop : fns (rs.drop j) = fn r :: fns (rs.drop (j + 1)) := by
      rw [List.drop_eq_getElem_cons hjl, (List.getElem?_eq_some_iff.mp q).2]
      rfl
    rw [hdrop] at hins
    have hle : j * (a + 1) + (a + 1) ≤ rs.length * (a + 1) := by
      rw [← Nat.succ_mul]
      exact Nat.mul_le_mul_right _ hjl
    have hs : (j + 1) * (a + 1) = j * (a + 1) + (a + 1) := Nat.succ_mul ..
    have hsz : (tupsD pre).length < sizeLine := by rw [tups_len, sizeLine_eq]; omega
    simp -implicitDefEqProofs only [bindT, gt, st]
    rw [vs_seq, vs_set]
    simp -implicitDefEqProofs only [vc, gt, st, oneK_1, List.getElem?_cons_zero, List.getElem?_cons_succ]
    refine callD0 [tupD l, .int w] fun F X hF => ⟨l, w, rfl, rfl, by omega, by omega, hF _ ?_⟩
    rw [vs_seq, vs_set]
    simp -implicitDefEqProofs only [vc, gt, st, oneK_1, List.getElem?_cons_zero, List.getElem?_cons_succ]
    refine callD0 [tupD r, .int w] fun F X hF => ⟨r, w, rfl, rfl, by omega, by omega, hF _ ?_⟩
    rw [vs_seq, vs_ite]
    simp -implicitDefEqProofs only [vc, gt, st, oneK_1, nrK_d, gt_i, boolK_1]
    refine way (fun h1 => ?_) fun h1 => ?_
    · rw [vs_seq, vs_ex]
      simp -implicitDefEqProofs only [vc, gt, st, oneK_1, toK_d, go, so]
      refine ⟨hsz, ?_⟩
      rw [vs_nil]
      dsimp only
      rw [vs_nil]
      refine hN _ _ ⟨pre ++ [r], l, _, _, _, _, by rw [tups_snoc], rfl, hl, hlp.mono (by omega) (by omega), fun x hx => ?_, by rw [List.length_append]; exact Nat.succ_le_succ hpl, fun res hi => ?_⟩
      · rcases List.mem_append.mp hx with m | m
        · exact hpre x m
        · rw [List.mem_singleton.mp m]; exact hrl
      · rw [List.append_assoc]
        exact hins (r :: res) (.gt (by omega) hi)
    · rw [vs_seq, vs_ite]
      simp -implicitDefEqProofs only [vc, gt, st, oneK_1, nrK_d, lt_i, boolK_1]
      refine way (fun h2 => ?_) fun h2 => ?_
      · rw [vs_seq, vs_ex]
        simp -implicitDefEqProofs only [vc, gt, st, oneK_1, toK_d, go, so]
        refine ⟨hsz, ?_⟩
        rw [vs_seq, vs_set]
        simp -implicitDefEqProofs only [vc, gt, st, oneK_1]
        rw [vs_nil]
        dsimp only
        rw [vs_nil]
        dsimp only
        rw [vs_nil]
        refine hN _ _ ⟨pre ++ [l], r, _, _, _, _, by rw [tups_snoc], rfl, hrl, ⟨fun i hi => lt2_mono (hrz.1 i hi) (by omega), fun i => lt2_mono (hrz.2 i) (by omega)⟩, fun x hx => ?_, by rw [List.length_append]; exact Nat.succ_le_succ hpl, fun res hi => ?_⟩
        · rcases List.mem_append.mp hx with m | m
          · exact hpre x m
          · rw [List.mem_singleton.mp m]; exact hl
        · rw [List.append_assoc]
          exact hins (l :: res) (.lt (by omega) hi)
      · have heq : pv w (fn l) = pv w (fn r) := by omega
        rw [vs_seq, vs_tgt]
        simp -implicitDefEqProofs only [vc, gt, st, oneK_1, List.getElem?_cons_zero, List.getElem?_cons_succ]
        have hlne : fn l (pv w (fn l)) ≠ 0 := pv_ne (w := w) (by omega)
        have hrne : fn r (pv w (fn l)) ≠ 0 := by rw [heq]; exact pv_ne hp
        refine callD0 [tupD r, tupD l, .int (pv w (fn l))] fun F X hF => ⟨r, l, pv w (fn l), n, 8999, b + j * (a + 1) + 8999, Mx + (b + j * (a + 1)), rfl, rfl, hrl, hl, hn, by omega, hrne, hlne, by rw [heq]; exact hR.piv r hrm, Nat.le_refl _, lt2_mono (hlp.1 _ (by omega)) (by omega), by omega, fun i => ⟨lt2_mono (hrz.2 i) (by omega), hlp.2 i⟩, by omega, fun k' l' hk' hl' hE => hF _ ?_⟩
        simp -implicitDefEqProofs only [oneK_1, toK_d, bindT, bindTs, gt, st]
        rw [vs_seq, vs_ex]
        simp -implicitDefEqProofs only [vc, gt, st, oneK_1, toK_d, go, so]
        refine ⟨hsz, ?_⟩
        rw [vs_nil]
        dsimp only
        rw [vs_nil]
        dsimp only
        rw [vs_nil]
        refine hN _ _ ⟨pre ++ [k'], l', _, _, _, _, by rw [tups_snoc], rfl, hl', (euc_pz hE (by omega) hlne hrz hlp).mono (by omega) (by omega), fun x hx => ?_, by rw [List.length_append]; exact Nat.succ_le_succ hpl, fun res hi => ?_⟩
        · rcases List.mem_append.mp hx with m | m
          · exact hpre x m
          · rw [List.mem_singleton.mp m]; exact hk'
        · rw [List.append_assoc]
          exact hins (k' :: res) (.eq heq hE hi)
  · rintro ρ O ⟨pre, l, x5, x6, x7, x8, rfl, rfl, hl, hlp, hpre, hpl, hins⟩
    rw [Nat.zero_add, tups_len] at hlp hpl hins
    rw [List.drop_length] at hins
    have hsz : (tupsD pre).length < sizeLine := by rw [tups_len, sizeLine_eq]; omega
    have eu : unb [.lst (tupsD rs), .lst []] [.brw (tupsD rs), .lst (tupsD pre)] = [.lst (tupsD rs), .lst (tupsD pre)] := rfl
    rw [eu]
    dsimp only
    rw [vs_seq, vs_ite]
    simp -implicitDefEqProofs only [vc, gt, st, oneK_1, nrK_d, List.getElem?_cons_zero, List.getElem?_cons_succ]
    refine callD0 [tupD l, .int w] fun F X hF => ⟨l, w, rfl, rfl, by omega, by omega, hF _ ?_⟩
    simp -implicitDefEqProofs only [oneK_1, nrK_d, lt_i, boolK_1]
    refine way (fun h1 => ?_) fun h1 => ?_
    · rw [vs_seq, vs_ex]
      simp -implicitDefEqProofs only [vc, gt, st, oneK_1, toK_d, go, so]
      refine ⟨hsz, ?_⟩
      rw [vs_nil]
      dsimp only
      rw [vs_seq, vs_ret]
      simp -implicitDefEqProofs only [vc, gt, st, oneK_1, go, so, tups_snoc]
      refine ⟨_, rfl, h _ (fun x hx => ?_) (hins [l] (.inn (by omega)))⟩
      rcases List.mem_append.mp hx with m | m
      · exact hpre x m
      · rw [List.mem_singleton.mp m]; exact hl
    · rw [vs_nil]
      dsimp only
      rw [vs_seq, vs_ret]
      simp -implicitDefEqProofs only [vc, gt, st, oneK_1, go, so]
      have := hins [] (.out (by omega))
      rw [List.append_nil] at this
      exact ⟨_, rfl, h _ hpre this⟩
/-! ### reduced -/
def posL (w : Nat) (r : List Int) : List Int := if 0 < fn r (pv w (fn r)) then r else r.map (· * -1)
theorem fn_neg (r : List Int) : fn (r.map (· * -1)) = fun j => fn r j * -1 := funext fun j => by
  show (r.map (· * -1)).getD j 0 = r.getD j 0 * -1
  rw [List.getD_eq_getElem?_getD, List.getD_eq_getElem?_getD, List.getElem?_map]
  cases r[j]? <;> simp
theorem fn_pos {w : Nat} {r : List Int} : fn (posL w r) = posF w (fn r) := by
  unfold posL posF
  split
  · rfl
  · exact fn_neg r
theorem posL_len {w : Nat} {r : List Int} : (posL w r).length = r.length := by
  unfold posL
  split
  · rfl
  · exact List.length_map ..
theorem red_get {w : Nat} : ∀ {A : List Fn} {i : Nat} {x : Fn}, A[i]? = some x → (redF w A)[i]? = some (remF w (A.drop (i + 1)) x)
  | [], i, x, h => by simp at h
  | a :: A, 0, x, h => by
    cases h
    rfl
  | a :: A, i + 1, x, h => red_get (A := A) (i := i) h
def redbZ : ZSp := fun us O Q _ => ∃ (rs : List (List Int)) (w n b Mx : Nat), us = [.d (.lst (tupsD rs)), .d (.int w)] ∧ O = [] ∧ (∀ r ∈ rs, r.length = n) ∧ w ≤ n ∧ n ≤ 100 ∧ rs.length ≤ 20 ∧ Ech w (fns rs) ∧ (∀ r ∈ rs, Pz w Mx b (fn r)) ∧ (∀ r ∈ rs, (fn r (pv w (fn r))).natAbs < 2 ^ 8999) ∧ Mx + 3 * b + 2 * (rs.length * (b + 1)) ≤ 134217728 ∧
  ∀ bs, (∀ x ∈ bs, x.length = n) → fns bs = redF w ((fns rs).map (posF w)) → Q (.o 0) [.lst (tupsD bs)]
theorem k_reduced_basis : Keeps [("remainder_by", remZ), ("pivot_place", pvZ), ("vector_times", timesZ)] y_reduced_basis N_reduced_basis.length redbZ := by
  rintro us O Q E ⟨rs, w, n, b, Mx, rfl, rfl, hlen, hw, hn, hfew, hE, hpz, hpv, hbits, h⟩
  show vcS _ y_reduced_basis E _ [some (.d (.lst (tupsD rs))), some (.d (.int w)), none, none, none] _
  have hlt : ∀ r ∈ rs, pv w (fn r) < w := fun r hr => hE.lt _ (List.mem_map.mpr ⟨r, hr, rfl⟩)
  simp -implicitDefEqProofs only [y_reduced_basis]
  rw [vs_seq, vs_set]
  simp -implicitDefEqProofs only [vc, gt, st, oneK_1, brK_d, wipeR, wipeR.rm, List.getElem?_cons_zero, List.getElem?_cons_succ]
  refine ⟨_, rfl, by rw [tups_len, sizeLine_eq]; omega, ?_⟩
  refine compR_inv (fun i acc O => O = [] ∧ acc = tupsD ((rs.take i).map (posL w))) _ [] [] 0 ⟨rfl, rfl⟩ ?_ ?_
  · rintro j d acc O e ⟨rfl, rfl⟩ F hF
    unfold tupsD at e
    rw [List.getElem?_map] at e
    cases q : rs[j]? with
    | none => rw [q] at e; cases e
    | some r =>
    rw [q] at e
    cases e
    have hrm := List.mem_of_getElem? q
    have hrl := hlen r hrm
    have hp := hlt r hrm
    have hsn : tupsD ((rs.take j).map (posL w)) ++ [tupD (posL w r)] = tupsD ((rs.take (j + 1)).map (posL w)) := by
      rw [tups_snoc, List.take_succ, q, List.map_append]
      rfl
    simp -implicitDefEqProofs only [bindT, gt, st, oneK_1, List.getElem?_cons_zero, List.getElem?_cons_succ]
    refine callD0 [tupD r, .int w] fun F' X hF' => ⟨r, w, rfl, rfl, by omega, by omega, hF' _ ?_⟩
    simp -implicitDefEqProofs only [tupD, oneK_1, nrK_d, ix_t, at_fn (by omega : pv w (fn r) < r.length), ex_some, gt_i, boolK_1]
    refine way (fun h0 => hF _ _ ⟨rfl, ?_⟩) fun h0 => ?_
    · rw [Nat.zero_add, ← hsn]
      unfold posL
      rw [if_pos h0]
      rfl
    · refine callD0 [tupD r, .int (-1)] fun F' X hF' => ⟨r, rfl, rfl, by omega, hF' _ (hF _ _ ⟨rfl, ?_⟩)⟩
      rw [Nat.zero_add, ← hsn]
      unfold posL
      rw [if_neg h0]
  · rintro acc O ⟨rfl, rfl⟩
    rw [Nat.zero_add, List.take_of_length_le (by rw [tups_len]; exact Nat.le_refl _)]
    generalize hps : rs.map (posL w) = ps at *
    have hfp : fns ps = (fns rs).map (posF w) := by
      unfold fns
      rw [← hps, List.map_map, List.map_map]
      exact List.map_congr_left fun r _ => fn_pos
    have hpl : ps.length = rs.length := by rw [← hps, List.length_map]
    have hpm : ∀ p ∈ ps, p.length = n ∧ Pz w Mx b (fn p) ∧ pv w (fn p) < w ∧ 0 < fn p (pv w (fn p)) ∧ (fn p (pv w (fn p))).natAbs < 2 ^ 8999 := fun p hp => by
      rw [← hps] at hp
      obtain ⟨r, hr, rfl⟩ := List.mem_map.mp hp
      obtain ⟨p1, p2, p3⟩ := pos_pv (hlt r hr)
      rw [fn_pos, p1]
      exact ⟨by rw [posL_len]; exact hlen r hr, pos_pz (hpz r hr), hlt r hr, p2, by rw [p3]; exact hpv r hr⟩
    have hpe : Ech w (fns ps) := by rw [hfp]; exact (pos_ech hE).1
    rw [← hfp] at h
    simp -implicitDefEqProofs only [newL, unb_0, oneK_1, st]
    rw [vs_seq, vs_ret]
    simp -implicitDefEqProofs only [vc, gt, st, oneK_1, brK_d, wipeR, wipeR.rm, List.getElem?_cons_zero, List.getElem?_cons_succ]
    refine ⟨_, rfl, by rw [List.length_mapIdx, tups_len, sizeLine_eq]; omega, ?_⟩
    refine compR_inv (fun i acc O => O = [] ∧ ∃ bs, acc = tupsD bs ∧ (∀ x ∈ bs, x.length = n) ∧ fns bs = (redF w (fns ps)).take i) _ [] [] 0 ⟨rfl, [], rfl, (fun x hx => by cases hx), rfl⟩ ?_ ?_
    · rintro j d acc O e ⟨rfl, bs, rfl, hbl, hbs⟩ F hF
      rw [List.getElem?_mapIdx] at e
      unfold tupsD at e
      rw [List.getElem?_map] at e
      cases q : ps[j]? with
      | none => rw [q] at e; cases e
      | some r =>
      rw [q] at e
      cases e
      rw [Nat.zero_add] at hbs hF
      have hrm := List.mem_of_getElem? q
      have hjl := (List.getElem?_eq_some_iff.mp q).1
      obtain ⟨r1, r2, r3, r4, r5⟩ := hpm r hrm
      have ec : cutL (tupsD ps) (some ((j : Int) + 1)) none = tupsD (ps.drop (j + 1)) := by
        rw [show (j : Int) + 1 = ((j + 1 : Nat) : Int) by omega, cut_from _ (by rw [tups_len]; omega)]
        unfold tupsD
        rw [List.map_drop]
      have hdl : (ps.drop (j + 1)).length ≤ rs.length := by rw [List.length_drop]; omega
      have hdm : (ps.drop (j + 1)).length * (b + 1) ≤ rs.length * (b + 1) := Nat.mul_le_mul_right _ hdl
      have hfd : fns (ps.drop (j + 1)) = (fns ps).drop (j + 1) := by unfold fns; rw [List.map_drop]
      have hrok : RowsOk w n b (Mx + b) (ps.drop (j + 1)) := {
        len := fun p hp => (hpm p (List.mem_of_mem_drop hp)).1
        w100 := hw
        n100 := hn
        few := by omega
        ech := by
          rw [hfd]
          exact ⟨fun a ha => hpe.lt a (List.mem_of_mem_drop ha), hpe.inc.sublist (List.drop_sublist _ _)⟩
        rz := fun p hp => ⟨(hpm p (List.mem_of_mem_drop hp)).2.1.1, (hpm p (List.mem_of_mem_drop hp)).2.1.2⟩
        pos := fun p hp => (hpm p (List.mem_of_mem_drop hp)).2.2.2.1
        piv := fun p hp => (hpm p (List.mem_of_mem_drop hp)).2.2.2.2 }
      simp -implicitDefEqProofs only [bindT, bindTs, gt, st, oneK_1, nrK_d, add_i, partK, slD, ec, List.getElem?_cons_zero, List.getElem?_cons_succ]
      refine callD0 [.lst (tupsD (ps.drop (j + 1))), tupD r, .int w] fun F' X hF' => ⟨ps.drop (j + 1), r, w, n, b, Mx + b, b, _, rfl, .inl ⟨rfl, rfl⟩, hrok, r1, ⟨r2.1, fun i => lt2_mono (r2.2 i) (by omega)⟩, by omega, fun v' hv' hfv => hF' _ (hF _ _ ⟨rfl, bs ++ [v'], tups_snoc, fun x hx => ?_, ?_⟩)⟩
      · rcases List.mem_append.mp hx with m | m
        · exact hbl x m
        · rw [List.mem_singleton.mp m]; exact hv'
      · have hg : (fns ps)[j]? = some (fn r) := by unfold fns; rw [List.getElem?_map, q]; rfl
        rw [fns_snoc, hbs, List.take_succ, red_get hg, hfv, hfd]
        rfl
    · rintro acc O ⟨rfl, bs, rfl, hbl, hbs⟩
      rw [Nat.zero_add, List.take_of_length_le (by rw [red_len, List.length_mapIdx, tups_len]; unfold fns; rw [List.length_map]; exact Nat.le_refl _)] at hbs
      simp -implicitDefEqProofs only [newL, unb_0, oneK_1, List.length_nil, List.nil_append]
      exact h bs hbl hbs
end Z

set_option Elab.async false
set_option linter.all false
set_option maxRecDepth 100000
set_option maxHeartbeats 4000000
namespace Z
open PySem PySem.Spec PyProof.Rows L2
/-! ### the staircase of a list of vectors -/
structure VsOk (w n : Nat) (vs : List (List Int)) : Prop where
  len : ∀ v ∈ vs, v.length = n
  w100 : w ≤ n
  n100 : n ≤ 100
  few : vs.length ≤ 7
  bd : ∀ v ∈ vs, ∀ j, (fn v j).natAbs < 2 ^ 131
structure HB (w n : Nat) (vs bs : List (List Int)) : Prop where
  len : ∀ b ∈ bs, b.length = n
  over : Over w (fns vs) (fns bs)
  red : Red w (fns bs)
  few : bs.length ≤ 7
  big : ∀ b ∈ bs, ∀ j, (fn b j).natAbs < 2 ^ 23000000
structure StB (w n : Nat) (vs : List (List Int)) (i : Nat) (bs : List (List Int)) : Prop where
  len : ∀ b ∈ bs, b.length = n
  over : Over w (fns (vs.take i)) (fns bs)
  red : Red w (fns bs)
  few : bs.length ≤ i
  big : ∀ b ∈ bs, ∀ j, (fn b j).natAbs < 2 ^ (131 + i * 3200000)
theorem StB.rows {w n i : Nat} {vs bs : List (List Int)} (hV : VsOk w n vs) (h : StB w n vs i bs) (hi : i ≤ 7) : RowsOk w n 25219 (131 + i * 3200000) bs := by
  have hm : (fns (vs.take i)).length ≤ 7 := by
    have := hV.few
    unfold fns
    rw [List.length_map, List.length_take]
    omega
  have hv : ∀ v ∈ fns (vs.take i), Sb w 131 v := fun v hv => by
    obtain ⟨u, hu, rfl⟩ := List.mem_map.mp hv
    exact fun j _ => hV.bd u (List.mem_of_mem_take hu) j
  have hp := h.over.piv hm hv
  have hs := h.over.small h.red hm hv
  have hf := h.few
  refine ⟨h.len, hV.w100, hV.n100, by omega, h.over.ech, fun r hr => ⟨fun j hj => ?_, h.big r hr⟩, fun r hr => h.red.pos _ (List.mem_map.mpr ⟨r, hr, rfl⟩), fun r hr => lt2_mono (hp _ (List.mem_map.mpr ⟨r, hr, rfl⟩)) (by decide)⟩
  exact lt2_mono (hs _ (List.mem_map.mpr ⟨r, hr, rfl⟩) j hj) (by decide)
abbrev seqD (X : D) (vs : List (List Int)) : Prop := X = .lst (tupsD vs) ∨ X = .tup (tupsD vs)
theorem br_step {w n i : Nat} {vs bs res bs' : List (List Int)} {v l : List Int} (hV : VsOk w n vs) (hv : vs[i]? = some v) (h : StB w n vs i bs) (hl : fn l = remF w (fns bs) (fn v)) (hi : Ins w (fns bs) (fn l) (fns res)) (hb : fns bs' = redF w ((fns res).map (posF w))) (hbl : ∀ x ∈ bs', x.length = n) (hres : ∀ r ∈ res, Pz w (131 + i * 3200000) 353211 (fn r)) (hrl : res.length ≤ 7) : StB w n vs (i + 1) bs' := by
  have hti : fns (vs.take (i + 1)) = fns (vs.take i) ++ [fn v] := by rw [List.take_succ, hv]; exact fns_snoc
  rw [hl] at hi
  have ho := (h.over.ins hi).pos
  obtain ⟨r1, r2⟩ := ho.red (pos_ech (ins_ech hi h.over.ech)).2
  have hlen := ins_len hi
  have e1 : (fns bs).length = bs.length := List.length_map ..
  have e2 : (fns res).length = res.length := List.length_map ..
  have e3 : (fns bs').length = bs'.length := List.length_map ..
  have e4 : bs'.length = res.length := by rw [← e3, hb, red_len, List.length_map, e2]
  have hf := h.few
  refine ⟨hbl, by rw [hti, hb]; exact r1, by rw [hb]; exact r2, by omega, fun b hbm j => ?_⟩
  have hE := ins_ech hi h.over.ech
  have hz := red_pz (w := w) (b := 353211) (Mx := 131 + i * 3200000) (A := (fns res).map (posF w)) (fun c hc => by
    obtain ⟨g, hg, rfl⟩ := List.mem_map.mp hc
    obtain ⟨r, hr, rfl⟩ := List.mem_map.mp hg
    obtain ⟨q1, q2, q3⟩ := pos_pv (hE.lt _ hg)
    exact ⟨pos_pz (hres r hr), by rw [q1]; exact hE.lt _ hg, by rw [q1]; exact q2⟩) (fn b) (by rw [← hb]; exact List.mem_map.mpr ⟨b, hbm, rfl⟩)
  refine lt2_mono (hz.2 j) ?_
  rw [List.length_map, e2]
  have : res.length * (353211 + 1) ≤ 7 * (353211 + 1) := Nat.mul_le_mul_right _ hrl
  rw [Nat.succ_mul]
  omega
theorem br_loop {w n : Nat} {vs : List (List Int)} {X : D} (hX : seqD X vs) (hV : VsOk w n vs) {E : ZX} {Dn : ZD} (hD : ∀ (bs : List (List Int)) (k : Nat) (x3 x4 : Option U) (O' : List DO), go O' k = some (.lst (tupsD bs)) → HB w n vs bs → Dn.nx [some (.d X), some (.d (.int w)), some (.o k), x3, x4] O') :
    vcS [("pivot_place", pvZ), ("reduced_basis", redbZ), ("basis_with_row", bwrZ), ("remainder_by", remZ)] (.for_ (.nm 3) (.seq (.var 0)) (.seq (.set 4 (.call 3 (.cons (.var 2) (.cons (.var 3) (.cons (.var 1) .nil))))) (.seq (.ite (.cmp .Lt (.call 0 (.cons (.var 4) (.cons (.var 1) .nil))) (.var 1)) (.seq (.set 2 (.call 1 (.cons (.call 2 (.cons (.var 2) (.cons (.var 4) (.cons (.var 1) .nil)))) (.cons (.var 1) .nil)))) .nil) .nil) .nil))) E Dn [some (.d X), some (.d (.int w)), some (.o 0), none, none] [.lst []] := by
  have hfew := hV.few
  have hw := hV.w100
  have hn := hV.n100
  suffices main : forR (.nm 3) (vcS [("pivot_place", pvZ), ("reduced_basis", redbZ), ("basis_with_row", bwrZ), ("remainder_by", remZ)] (.seq (.set 4 (.call 3 (.cons (.var 2) (.cons (.var 3) (.cons (.var 1) .nil))))) (.seq (.ite (.cmp .Lt (.call 0 (.cons (.var 4) (.cons (.var 1) .nil))) (.var 1)) (.seq (.set 2 (.call 1 (.cons (.call 2 (.cons (.var 2) (.cons (.var 4) (.cons (.var 1) .nil)))) (.cons (.var 1) .nil)))) .nil) .nil) .nil))) E Dn [.lst []] (tupsD vs) [some (.d X), some (.d (.int w)), some (.o 0), none, none] [.lst []] by
    rw [vs_for]
    rcases hX with rfl | rfl
    · simp -implicitDefEqProofs only [vc, gt, oneK_1, brK_d]
      exact ⟨_, rfl, main⟩
    · simp -implicitDefEqProofs only [vc, gt, oneK_1, brK_d]
      exact ⟨_, rfl, main⟩
  refine forR_inv (fun i ρ O => ∃ (bs : List (List Int)) (k : Nat) (x3 x4 : Option U), go O k = some (.lst (tupsD bs)) ∧ ρ = [some (.d X), some (.d (.int w)), some (.o k), x3, x4] ∧ StB w n vs i bs) _ _ _ 0 ⟨[], 0, none, none, rfl, rfl, ⟨(fun b hb => by cases hb), Over.nil, Red.nil, Nat.le_refl _, (fun b hb => by cases hb)⟩⟩ ?_ ?_
  · rintro j d ρ O e ⟨bs, k, x3, x4, hgk, rfl, hB⟩ N hN
    unfold tupsD at e
    rw [List.getElem?_map] at e
    cases q : vs[j]? with
    | none => rw [q] at e; cases e
    | some v =>
    rw [q] at e
    cases e
    rw [Nat.zero_add] at hB hN
    have hvm := List.mem_of_getElem? q
    have hjl := (List.getElem?_eq_some_iff.mp q).1
    have hvl := hV.len v hvm
    have hR := hB.rows hV (by omega)
    have hbf := hB.few
    have hbm : bs.length * (25219 + 1) ≤ 6 * (25219 + 1) := Nat.mul_le_mul_right _ (by omega)
    have hvz : Pz w (131 + j * 3200000) 131 (fn v) := ⟨fun i _ => hV.bd v hvm i, fun i => lt2_mono (hV.bd v hvm i) (by omega)⟩
    simp -implicitDefEqProofs only [bindT, gt, st]
    rw [vs_seq, vs_set]
    simp -implicitDefEqProofs only [vc, gt, st, oneK_1, List.getElem?_cons_zero, List.getElem?_cons_succ]
    refine callO [tupD v, .int w] hgk fun F X hF => ⟨bs, v, w, n, 25219, 131 + j * 3200000, 131, .o 0, rfl, .inr ⟨rfl, rfl⟩, hR, hvl, hvz, by omega, fun l hll hfl => hF _ _ ?_⟩
    rw [so_same hgk]
    rw [vs_seq, vs_ite]
    simp -implicitDefEqProofs only [vc, gt, st, oneK_1, nrK_d, List.getElem?_cons_zero, List.getElem?_cons_succ]
    refine callD0 [tupD l, .int w] fun F X hF => ⟨l, w, rfl, rfl, by omega, by omega, hF _ ?_⟩
    have hlz : Pz w (131 + j * 3200000) 176671 (fn l) := by
      have := rem_pz (A := fns bs) (a := 25219) (x := fn v) (fun c hc => by
        obtain ⟨r, hr, rfl⟩ := List.mem_map.mp hc
        exact ⟨hR.rz r hr, hR.lt r hr, hR.pos r hr⟩) hvz
      rw [← hfl] at this
      have e2 : (fns bs).length = bs.length := List.length_map ..
      rw [e2] at this
      exact this.mono (by omega) (by omega)
    simp -implicitDefEqProofs only [nrK_d, oneK_1, lt_i, boolK_1]
    refine way (fun hlt => ?_) fun hge => ?_
    · rw [vs_seq, vs_set]
      simp -implicitDefEqProofs only [vc, gt, st, oneK_1, List.getElem?_cons_zero, List.getElem?_cons_succ]
      refine callO [tupD l, .int w] hgk fun F X hF => ⟨bs, l, w, n, 25219, 131 + j * 3200000, 176671, rfl, rfl, hR, hll, hlz, by decide, by omega, fun res hrl hins => hF _ _ ?_⟩
      rw [so_same hgk]
      have hlen := ins_len hins
      have e1 : (fns bs).length = bs.length := List.length_map ..
      have e2 : (fns res).length = res.length := List.length_map ..
      have hres : ∀ r ∈ res, Pz w (131 + j * 3200000) 353211 (fn r) := fun r hr => by
        have := ins_pz hins 176671 (a := 25219) (fun c hc => by
          obtain ⟨r', hr', rfl⟩ := List.mem_map.mp hc
          exact ⟨hR.rz r' hr', hR.lt r' hr'⟩) hlz (by decide) (fn r) (List.mem_map.mpr ⟨r, hr, rfl⟩)
        rw [e1] at this
        exact this.mono (by omega) (by omega)
      have hresl : res.length ≤ 7 := by omega
      have hover : Over w (fns (vs.take j) ++ [fn v]) (fns res) := hB.over.ins (by rw [← hfl]; exact hins)
      have hpiv : ∀ r ∈ res, (fn r (pv w (fn r))).natAbs < 2 ^ 8999 := fun r hr => by
        have := hover.piv (m := 7) (b := 131) (by
          unfold fns
          rw [List.length_append, List.length_map, List.length_take]
          simp only [List.length_cons, List.length_nil]
          omega) (fun g hg => by
          rcases List.mem_append.mp hg with m | m
          · obtain ⟨u, hu, rfl⟩ := List.mem_map.mp m
            exact fun i _ => hV.bd u (List.mem_of_mem_take hu) i
          · rw [List.mem_singleton.mp m]
            exact fun i _ => hV.bd v hvm i) (fn r) (List.mem_map.mpr ⟨r, hr, rfl⟩)
        exact lt2_mono this (by decide)
      have hrm : res.length * (353211 + 1) ≤ 7 * (353211 + 1) := Nat.mul_le_mul_right _ hresl
      refine callD [.lst (tupsD res), .int w] ⟨res, w, n, 353211, 131 + j * 3200000, rfl, rfl, hrl, hw, hn, by omega, hover.ech, hres, hpiv, by omega, fun bs' hbl hbs => ?_⟩
      dsimp only
      rw [shU_o]
      show vcS _ _ _ _ [some (.d _), some (.d (.int w)), some (.o (O.length + 0)), some (.d (tupD v)), some (.d (tupD l))] (O ++ [.lst (tupsD bs')])
      rw [vs_nil]
      dsimp only
      rw [vs_nil]
      exact hN _ _ ⟨bs', O.length, _, _, go_last, rfl, br_step hV q hB hfl hins hbs hbl hres hresl⟩
    · rw [vs_nil]
      dsimp only
      rw [vs_nil]
      refine hN _ _ ⟨bs, k, _, _, hgk, rfl, ⟨hB.len, ?_, hB.red, by omega, fun b hb i => lt2_mono (hB.big b hb i) (by omega)⟩⟩
      have hti : fns (vs.take (j + 1)) = fns (vs.take j) ++ [fn v] := by rw [List.take_succ, q]; exact fns_snoc
      rw [hti]
      exact hB.over.skip (by rw [← hfl]; omega)
  · rintro ρ O ⟨bs, k, x3, x4, hgk, rfl, hB⟩
    rw [Nat.zero_add, tups_len] at hB
    refine hD bs k x3 x4 _ (unb_go hgk) ⟨hB.len, ?_, hB.red, by have := hB.few; omega, fun b hb i => lt2_mono (hB.big b hb i) (by omega)⟩
    have := hB.over
    rw [List.take_length] at this
    exact this
def brZ : ZSp := fun us O Q _ => ∃ (vs : List (List Int)) (w n : Nat) (X : D), us = [.d X, .d (.int w)] ∧ O = [] ∧ seqD X vs ∧ VsOk w n vs ∧ ∀ (bs : List (List Int)) (k : Nat) (O' : List DO), go O' k = some (.lst (tupsD bs)) → HB w n vs bs → Q (.o k) O'
def brdZ : ZSp := fun us O Q _ => ∃ (vs : List (List Int)) (w n : Nat) (X : D), us = [.d X, .d (.int w)] ∧ O = [] ∧ seqD X vs ∧ VsOk w n vs ∧ ∀ bs, HB w n vs bs → Q (.d (.lst (tupsD bs))) []
theorem k_basis_rows : Keeps [("pivot_place", pvZ), ("reduced_basis", redbZ), ("basis_with_row", bwrZ), ("remainder_by", remZ)] y_basis_rows N_basis_rows.length brZ := by
  rintro us O Q E ⟨vs, w, n, X, rfl, rfl, hX, hV, h⟩
  show vcS _ y_basis_rows E _ [some (.d X), some (.d (.int w)), none, none, none] _
  simp -implicitDefEqProofs only [y_basis_rows]
  rw [vs_seq, vs_set]
  simp -implicitDefEqProofs only [vc, gt, st, oneK_1, tosK_0, newL, List.length_nil, List.nil_append]
  refine ⟨(by decide : 0 ≤ sizeLine), ?_⟩
  rw [vs_seq]
  refine br_loop hX hV fun bs k x3 x4 O' hg hB => ?_
  dsimp only
  rw [vs_seq, vs_ret]
  simp -implicitDefEqProofs only [vc, gt, oneK_1]
  exact h bs k O' hg hB
theorem k_basis_rows__d : KeepsD [("pivot_place", pvZ), ("reduced_basis", redbZ), ("basis_with_row", bwrZ), ("remainder_by", remZ)] y_basis_rows__d N_basis_rows__d.length brdZ := by
  rintro us O Q E ⟨vs, w, n, X, rfl, rfl, hX, hV, h⟩
  show vcS _ y_basis_rows__d E _ [some (.d X), some (.d (.int w)), none, none, none] _
  simp -implicitDefEqProofs only [y_basis_rows__d]
  rw [vs_seq, vs_set]
  simp -implicitDefEqProofs only [vc, gt, st, oneK_1, tosK_0, newL, List.length_nil, List.nil_append]
  refine ⟨(by decide : 0 ≤ sizeLine), ?_⟩
  rw [vs_seq]
  refine br_loop hX hV fun bs k x3 x4 O' hg hB => ?_
  dsimp only
  rw [vs_seq, vs_ret]
  simp -implicitDefEqProofs only [vc, gt, oneK_1, hg]
  exact ⟨_, rfl, h bs hB⟩
theorem k_hermite : Keeps [("basis_rows", brZ)] y_hermite N_hermite.length brZ := by
  rintro us O Q E ⟨vs, w, n, X, rfl, rfl, hX, hV, h⟩
  show vcS _ y_hermite E _ [some (.d X), some (.d (.int w))] _
  simp -implicitDefEqProofs only [y_hermite]
  rw [vs_seq, vs_ret]
  simp -implicitDefEqProofs only [vc, gt, oneK_1, List.getElem?_cons_zero]
  refine callD [X, .int w] ⟨vs, w, n, X, rfl, rfl, hX, hV, fun bs k O' hg hB => ?_⟩
  dsimp only
  rw [shU_o]
  show Q (.o (0 + k)) ([] ++ O')
  rw [Nat.zero_add, List.nil_append]
  exact h bs k O' hg hB
theorem k_hermite__d : Keeps [("basis_rows", brdZ)] y_hermite__d N_hermite__d.length brdZ := by
  rintro us O Q E ⟨vs, w, n, X, rfl, rfl, hX, hV, h⟩
  show vcS _ y_hermite__d E _ [some (.d X), some (.d (.int w))] _
  simp -implicitDefEqProofs only [y_hermite__d]
  rw [vs_seq, vs_ret]
  simp -implicitDefEqProofs only [vc, gt, oneK_1, List.getElem?_cons_zero]
  exact callD0 [X, .int w] fun F _ hF => ⟨vs, w, n, X, rfl, rfl, hX, hV, fun bs hB => hF _ (h bs hB)⟩
end Z

set_option Elab.async false
set_option linter.all false
set_option maxRecDepth 100000
set_option maxHeartbeats 4000000
namespace Z
open PySem PySem.Spec PyProof.Rows L2
/-! ### the staircase with its numbers -/
def unitL (m i : Nat) : List Int := (List.range m).map fun p => if p = i then 1 else 0
def exts (m : Nat) : List (List Int) → Nat → List (List Int)
  | [], _ => []
  | v :: vs, i => (v ++ unitL m i) :: exts m vs (i + 1)
theorem exts_len {m : Nat} : ∀ {vs : List (List Int)} {i : Nat}, (exts m vs i).length = vs.length
  | [], _ => rfl
  | v :: vs, i => congrArg (· + 1) exts_len
theorem exts_get {m : Nat} : ∀ {vs : List (List Int)} {i j : Nat} {v : List Int}, vs[j]? = some v → (exts m vs i)[j]? = some (v ++ unitL m (i + j))
  | [], _, _, _, h => by simp at h
  | u :: vs, i, 0, v, h => by
    cases h
    rfl
  | u :: vs, i, j + 1, v, h => by
    have := exts_get (m := m) (vs := vs) (i := i + 1) (j := j) (v := v) (by simpa using h)
    rw [show i + (j + 1) = i + 1 + j by omega]
    exact this
theorem exts_mem {m i : Nat} {vs : List (List Int)} {x : List Int} (h : x ∈ exts m vs i) : ∃ (j : Nat) (v : List Int), vs[j]? = some v ∧ x = v ++ unitL m (i + j) := by
  obtain ⟨j, hj, rfl⟩ := List.mem_iff_getElem.mp h
  rw [exts_len] at hj
  refine ⟨j, vs[j], List.getElem?_eq_getElem hj, ?_⟩
  have h1 := exts_get (m := m) (i := i) (List.getElem?_eq_getElem hj)
  rw [List.getElem?_eq_getElem (by rw [exts_len]; exact hj)] at h1
  exact Option.some.inj h1
theorem unitL_len {m i : Nat} : (unitL m i).length = m := by unfold unitL; rw [List.length_map, List.length_range]
theorem fn_app1 {a b : List Int} {j : Nat} (h : j < a.length) : fn (a ++ b) j = fn a j := by
  show (a ++ b).getD j 0 = a.getD j 0
  rw [List.getD_eq_getElem?_getD, List.getD_eq_getElem?_getD, List.getElem?_append_left h]
theorem fn_app2 {a b : List Int} {j : Nat} : fn (a ++ b) (a.length + j) = fn b j := by
  show (a ++ b).getD (a.length + j) 0 = b.getD j 0
  rw [List.getD_eq_getElem?_getD, List.getD_eq_getElem?_getD, List.getElem?_append_right (by omega), Nat.add_sub_cancel_left]
theorem fn_unit {m i j : Nat} (h : j < m) : fn (unitL m i) j = if j = i then 1 else 0 := by
  show (unitL m i).getD j 0 = _
  unfold unitL
  rw [List.getD_eq_getElem?_getD, List.getElem?_map, List.getElem?_range h]
  rfl
theorem fn_ext_bd {v : List Int} {m i j : Nat} (h : ∀ j, (fn v j).natAbs < 2 ^ 131) : (fn (v ++ unitL m i) j).natAbs < 2 ^ 131 := by
  by_cases hj : j < v.length
  · rw [fn_app1 hj]
    exact h j
  · obtain ⟨k, rfl⟩ : ∃ k, j = v.length + k := ⟨j - v.length, by omega⟩
    rw [fn_app2]
    by_cases hk : k < m
    · rw [fn_unit hk]
      split <;> decide
    · rw [fn_out (by rw [unitL_len]; omega)]
      decide
structure TabOk (w : Nat) (vs : List (List Int)) : Prop where
  ok : VsOk w w vs
  w50 : w ≤ 50
theorem TabOk.exts {w : Nat} {vs : List (List Int)} (h : TabOk w vs) : VsOk w (w + vs.length) (exts vs.length vs 0) := by
  have hf := h.ok.few
  have h50 := h.w50
  refine ⟨fun v hv => ?_, by omega, by omega, by rw [exts_len]; exact hf, fun v hv j => ?_⟩
  · obtain ⟨i, u, hu, rfl⟩ := exts_mem hv
    rw [List.length_append, unitL_len, h.ok.len u (List.mem_of_getElem? hu)]
  · obtain ⟨i, u, hu, rfl⟩ := exts_mem hv
    exact fn_ext_bd (h.ok.bd u (List.mem_of_getElem? hu))
def tabZ (own : Bool) : ZSp := fun us O Q _ => ∃ (vs : List (List Int)) (w : Nat) (X : D), us = [.d X, .d (.int w)] ∧ O = [] ∧ seqD X vs ∧ TabOk w vs ∧ ∀ bs, HB w (w + vs.length) (exts vs.length vs 0) bs →
  (own = true → Q (.t [.o 0, .o 1]) [.lst (tupsD (bs.map (List.take w))), .lst (tupsD (bs.map (List.drop w)))]) ∧ (own = false → Q (.d (.tup [.lst (tupsD (bs.map (List.take w))), .lst (tupsD (bs.map (List.drop w)))])) [])
theorem map_int_app {a b : List Int} : a.map D.int ++ b.map D.int = (a ++ b).map .int := by rw [List.map_append]
theorem cut_map_w {w n : Nat} {bs : List (List Int)} (hb : ∀ b ∈ bs, b.length = n) (hw : w ≤ n) : ∀ d ∈ tupsD bs, ∃ b ∈ bs, d = tupD b ∧ cutL (b.map D.int) none (some (w : Int)) = (b.take w).map .int ∧ cutL (b.map D.int) (some (w : Int)) none = (b.drop w).map .int := fun d hd => by
  unfold tupsD at hd
  obtain ⟨b, hm, rfl⟩ := List.mem_map.mp hd
  have hl := hb b hm
  exact ⟨b, hm, rfl, by rw [cut_to _ (by rw [List.length_map]; omega), List.map_take], by rw [cut_from _ (by rw [List.length_map]; omega), List.map_drop]⟩
def rowOfT : D → List Int
  | .tup ds => ds.map fun d => match d with
    | .int i => i
    | _ => 0
  | _ => []
theorem rowOfT_tup (r : List Int) : rowOfT (tupD r) = r := by
  show ((r.map D.int).map fun d => match d with
    | .int i => i
    | _ => 0) = r
  rw [List.map_map]
  exact List.map_id r
theorem tups_map (f : List Int → List Int) (bs : List (List Int)) : (tupsD bs).map (fun d => tupD (f (rowOfT d))) = tupsD (bs.map f) := by
  unfold tupsD
  rw [List.map_map, List.map_map]
  exact List.map_congr_left fun b _ => by show tupD (f (rowOfT (tupD b))) = tupD (f b); rw [rowOfT_tup]
theorem k_hermite_table : Keeps [("basis_rows", brdZ), ("unit", unitZ)] y_hermite_table N_hermite_table.length (tabZ true) := by
  rintro us O Q E ⟨vs, w, X, rfl, rfl, hX, hT, h⟩
  show vcS _ y_hermite_table E _ [some (.d X), some (.d (.int w)), none, none, none, none, none] _
  have hf := hT.ok.few
  have h50 := hT.w50
  rcases hX with rfl | rfl
  all_goals
    simp -implicitDefEqProofs only [y_hermite_table]
    rw [vs_seq, vs_set]
    simp -implicitDefEqProofs only [vc, gt, st, oneK_1, nrsK_1, len_l, len_t, tups_len]
    rw [vs_seq, vs_set]
    simp -implicitDefEqProofs only [vc, gt, st, oneK_1, brK_d, wipeR, wipeR.rm, List.getElem?_cons_zero, List.getElem?_cons_succ]
    refine ⟨_, rfl, by rw [List.length_mapIdx, tups_len, sizeLine_eq]; omega, ?_⟩
    refine compR_inv (fun i acc O => O = [] ∧ acc = tupsD ((exts vs.length vs 0).take i)) _ [] [] 0 ⟨rfl, rfl⟩ ?_ ?_
    · rintro j d acc O e ⟨rfl, rfl⟩ F hF
      rw [List.getElem?_mapIdx] at e
      unfold tupsD at e
      rw [List.getElem?_map] at e
      cases q : vs[j]? with
      | none => rw [q] at e; cases e
      | some v =>
      rw [q] at e
      cases e
      have hvl := hT.ok.len v (List.mem_of_getElem? q)
      simp -implicitDefEqProofs only [bindT, bindTs, tupD, gt, st, oneK_1, nrK_d]
      refine callD0 [.int vs.length, .int j] fun F' X hF' => ⟨vs.length, j, rfl, rfl, by omega, hF' _ ?_⟩
      simp -implicitDefEqProofs only [oneK_1, nrK_d, tupD, List.append_nil]
      have e2 : (v.map D.int).map U.d ++ (((List.range vs.length).map fun p => if p = j then (1 : Int) else 0).map D.int).map U.d = ((v ++ unitL vs.length j).map D.int).map U.d := by
        rw [← List.map_append, map_int_app]
        rfl
      rw [e2]
      rw [tosK_some (toDs_map _)]
      refine ⟨by rw [List.length_map, List.length_append, unitL_len, hvl, sizeLine_eq]; omega, hF _ _ ⟨by simp, ?_⟩⟩
      have h1 := exts_get (m := vs.length) (i := 0) q
      rw [Nat.zero_add] at h1 ⊢
      rw [List.take_succ, h1]
      exact tups_snoc
    · rintro acc O ⟨rfl, rfl⟩
      rw [Nat.zero_add, List.take_of_length_le (by rw [exts_len, List.length_mapIdx, tups_len]; exact Nat.le_refl _)]
      simp -implicitDefEqProofs only [newL, unb_0, oneK_1]
      refine callD0 [.lst (tupsD (exts vs.length vs 0)), .int w] fun F _ hF => ⟨_, w, w + vs.length, _, rfl, rfl, .inl rfl, hT.exts, fun bs hB => hF _ ?_⟩
      have hh := h bs hB
      have cm := cut_map_w hB.len (by omega : w ≤ w + vs.length)
      have hb7 := hB.few
      have hsz : (tupsD bs).length ≤ sizeLine := by rw [tups_len, sizeLine_eq]; omega
      rw [vs_seq, vs_ret]
      simp -implicitDefEqProofs only [vc, gt, st, oneK_1, brK_d, wipeR, wipeR.rm, nrK_d, partK]
      refine ⟨_, rfl, hsz, ?_⟩
      refine compR_map (fun d => tupD (List.take w (rowOfT d))) (Nat.le_refl _) _ (fun d hd F hF => ?_) ?_
      · obtain ⟨b, hm, rfl, c1, c2⟩ := cm d hd
        rw [rowOfT_tup] at hF
        simp -implicitDefEqProofs only [bindT, tupD, gt, st, oneK_1, nrK_d, partK, slD, c1]
        exact hF
      rw [tups_map]
      simp -implicitDefEqProofs only [newL, unb_0, oneK_1, List.length_nil, List.nil_append, List.length_cons, brK_d]
      refine ⟨_, rfl, hsz, ?_⟩
      refine compR_map (fun d => tupD (List.drop w (rowOfT d))) (by simp) _ (fun d hd F hF => ?_) ?_
      · obtain ⟨b, hm, rfl, c1, c2⟩ := cm d hd
        rw [rowOfT_tup] at hF
        simp -implicitDefEqProofs only [bindT, tupD, gt, st, oneK_1, nrK_d, partK, slD, c2]
        exact hF
      rw [tups_map]
      have eu : unb [.lst (tupsD (bs.map (List.take w)))] [.lst (tupsD (bs.map (List.take w)))] = [.lst (tupsD (bs.map (List.take w)))] := rfl
      simp -implicitDefEqProofs only [newL, eu, oneK_1, List.length_nil, List.nil_append, List.length_cons, List.cons_append]
      exact ⟨(by decide : 2 ≤ sizeLine), hh.1 rfl⟩
theorem k_hermite_table__d : Keeps [("basis_rows", brdZ), ("unit", unitZ)] y_hermite_table__d N_hermite_table__d.length (tabZ false) := by
  rintro us O Q E ⟨vs, w, X, rfl, rfl, hX, hT, h⟩
  show vcS _ y_hermite_table__d E _ [some (.d X), some (.d (.int w)), none, none, none, none, none] _
  have hf := hT.ok.few
  have h50 := hT.w50
  rcases hX with rfl | rfl
  all_goals
    simp -implicitDefEqProofs only [y_hermite_table__d]
    rw [vs_seq, vs_set]
    simp -implicitDefEqProofs only [vc, gt, st, oneK_1, nrsK_1, len_l, len_t, tups_len]
    rw [vs_seq, vs_set]
    simp -implicitDefEqProofs only [vc, gt, st, oneK_1, brK_d, wipeR, wipeR.rm, List.getElem?_cons_zero, List.getElem?_cons_succ]
    refine ⟨_, rfl, by rw [List.length_mapIdx, tups_len, sizeLine_eq]; omega, ?_⟩
    refine compR_inv (fun i acc O => O = [] ∧ acc = tupsD ((exts vs.length vs 0).take i)) _ [] [] 0 ⟨rfl, rfl⟩ ?_ ?_
    · rintro j d acc O e ⟨rfl, rfl⟩ F hF
      rw [List.getElem?_mapIdx] at e
      unfold tupsD at e
      rw [List.getElem?_map] at e
      cases q : vs[j]? with
      | none => rw [q] at e; cases e
      | some v =>
      rw [q] at e
      cases e
      have hvl := hT.ok.len v (List.mem_of_getElem? q)
      simp -implicitDefEqProofs only [bindT, bindTs, tupD, gt, st, oneK_1, nrK_d]
      refine callD0 [.int vs.length, .int j] fun F' X hF' => ⟨vs.length, j, rfl, rfl, by omega, hF' _ ?_⟩
      simp -implicitDefEqProofs only [oneK_1, nrK_d, tupD, List.append_nil]
      have e2 : (v.map D.int).map U.d ++ (((List.range vs.length).map fun p => if p = j then (1 : Int) else 0).map D.int).map U.d = ((v ++ unitL vs.length j).map D.int).map U.d := by
        rw [← List.map_append, map_int_app]
        rfl
      rw [e2]
      rw [tosK_some (toDs_map _)]
      refine ⟨by rw [List.length_map, List.length_append, unitL_len, hvl, sizeLine_eq]; omega, hF _ _ ⟨by simp, ?_⟩⟩
      have h1 := exts_get (m := vs.length) (i := 0) q
      rw [Nat.zero_add] at h1 ⊢
      rw [List.take_succ, h1]
      exact tups_snoc
    · rintro acc O ⟨rfl, rfl⟩
      rw [Nat.zero_add, List.take_of_length_le (by rw [exts_len, List.length_mapIdx, tups_len]; exact Nat.le_refl _)]
      simp -implicitDefEqProofs only [newL, unb_0, oneK_1]
      refine callD0 [.lst (tupsD (exts vs.length vs 0)), .int w] fun F _ hF => ⟨_, w, w + vs.length, _, rfl, rfl, .inl rfl, hT.exts, fun bs hB => hF _ ?_⟩
      have hh := h bs hB
      have cm := cut_map_w hB.len (by omega : w ≤ w + vs.length)
      have hb7 := hB.few
      have hsz : (tupsD bs).length ≤ sizeLine := by rw [tups_len, sizeLine_eq]; omega
      rw [vs_seq, vs_ret]
      simp -implicitDefEqProofs only [vc, gt, st, oneK_1, brK_d, wipeR, wipeR.rm, nrK_d, partK]
      refine ⟨_, rfl, hsz, ?_⟩
      refine compR_map (fun d => tupD (List.take w (rowOfT d))) (Nat.le_refl _) _ (fun d hd F hF => ?_) ?_
      · obtain ⟨b, hm, rfl, c1, c2⟩ := cm d hd
        rw [rowOfT_tup] at hF
        simp -implicitDefEqProofs only [bindT, tupD, gt, st, oneK_1, nrK_d, partK, slD, c1]
        exact hF
      rw [tups_map]
      simp -implicitDefEqProofs only [newL, unb_0, oneK_1, brK_d]
      refine ⟨_, rfl, hsz, ?_⟩
      refine compR_map (fun d => tupD (List.drop w (rowOfT d))) (Nat.le_refl _) _ (fun d hd F hF => ?_) ?_
      · obtain ⟨b, hm, rfl, c1, c2⟩ := cm d hd
        rw [rowOfT_tup] at hF
        simp -implicitDefEqProofs only [bindT, tupD, gt, st, oneK_1, nrK_d, partK, slD, c2]
        exact hF
      rw [tups_map]
      simp -implicitDefEqProofs only [newL, unb_0, oneK_1, tosK_2]
      exact ⟨(by decide : 2 ≤ sizeLine), hh.2 rfl⟩
end Z

set_option Elab.async false
set_option linter.all false
set_option maxRecDepth 100000
set_option maxHeartbeats 4000000
namespace Z
open PySem PySem.Spec PyProof.Rows L2
theorem unb_l2 {a b c d : List D} : unb [.lst a, .lst b] [.lst c, .lst d] = [.lst c, .lst d] := rfl
theorem unb_l1 {a b : List D} : unb [.lst a] [.lst b] = [.lst b] := rfl
theorem brK_lst0 {ds : List D} {O : List DO} {k : D → List DO → Prop} : brK (.lst ds :: O) (.o 0) k = k (.lst ds) (.brw ds :: O) := rfl
theorem unb_lb {a : List D} : unb [.lst a] [.brw a] = [.lst a] := rfl
/-! ### the law's small ones -/
def mixedZ : ZSp := fun us O Q _ => ∃ (ds : List D) (vs : List (List Int)), us = [.o 0, .d (.lst (tupsD vs))] ∧ O = [.lst ds] ∧ BagOk ds ∧ vs.length ≤ 20 ∧ ∀ ws ds', (∀ x, x ∈ ws ↔ x ∈ vs) → ws.length = vs.length → BagOk ds' → Q (.d (.lst (tupsD ws))) [.lst ds']
theorem k_law_mixed : KeepsD [("_law_draw", drawZ)] y__law_mixed N__law_mixed.length mixedZ := by
  rintro us O Q E ⟨ds, vs, rfl, rfl, hb, hl, h⟩
  show vcS _ y__law_mixed E _ [some (.o 0), some (.d (.lst (tupsD vs))), none, none] _
  simp -implicitDefEqProofs only [y__law_mixed]
  rw [vs_seq, vs_set]
  simp -implicitDefEqProofs only [vc, gt, st, oneK_1, tosK_0, newL, List.length_nil, List.length_cons, List.nil_append, List.cons_append]
  refine ⟨(by decide : 0 ≤ sizeLine), ?_⟩
  rw [vs_seq, vs_for]
  simp -implicitDefEqProofs only [vc, gt, st, oneK_1, brK_d]
  refine ⟨_, rfl, ?_⟩
  refine forR_inv (fun i ρ O => ∃ (ds : List D) (ws : List (List Int)) (x3 : Option U), O = [.lst ds, .lst (tupsD ws)] ∧ BagOk ds ∧ ρ = [some (.o 0), some (.d (.lst (tupsD vs))), some (.o 1), x3] ∧ (∀ x, x ∈ ws ↔ x ∈ vs.take i) ∧ ws.length = i ∧ i ≤ vs.length) _ _ _ 0 ⟨ds, [], none, rfl, hb, rfl, by simp, rfl, Nat.zero_le _⟩ ?_ ?_
  · rintro j d ρ O e ⟨ds, ws, x3, rfl, hb, rfl, hm, hwl, hjv⟩ N hN
    unfold tupsD at e
    rw [List.getElem?_map] at e
    cases q : vs[j]? with
    | none => rw [q] at e; cases e
    | some v =>
    rw [q] at e
    cases e
    rw [Nat.zero_add] at hm hwl hN
    have hjl := (List.getElem?_eq_some_iff.mp q).1
    simp -implicitDefEqProofs only [bindT, gt, st]
    rw [vs_seq, vs_ex]
    have e1 : nrm [.lst ds, .lst (tupsD ws)] (.o 1) = some (.lst (tupsD ws)) := rfl
    simp -implicitDefEqProofs only [vc, gt, st, oneK_1, nrsK_o e1, len_l, tups_len, nrK_d, add_i, List.getElem?_cons_zero]
    refine callO [.int ((ws.length : Int) + 1)] rfl fun F X hF => ⟨ds, (ws.length : Int) + 1, rfl, rfl, hb, by omega, by omega, fun r ds' h1 h2 hb' => hF _ _ ?_⟩
    simp -implicitDefEqProofs only [oneK_1, so, toK_d, go]
    obtain ⟨p, rfl⟩ := Int.eq_ofNat_of_zero_le h1
    have hp : p ≤ ws.length := by omega
    have ews : (tupsD ws).take ((p : Int)).toNat ++ [tupD v] ++ (tupsD ws).drop ((p : Int)).toNat = tupsD (ws.take p ++ [v] ++ ws.drop p) := by
      rw [show ((p : Int)).toNat = p by omega]
      unfold tupsD
      rw [List.map_append, List.map_append, List.map_take, List.map_drop]
      rfl
    rw [ews]
    refine ⟨⟨by rw [tups_len, sizeLine_eq]; omega, by omega, by omega⟩, ?_⟩
    rw [vs_nil]
    refine hN _ _ ⟨ds', _, _, rfl, hb', rfl, fun x => ?_, ?_, hjl⟩
    · rw [List.take_succ, q, List.mem_append, List.mem_append, List.mem_append, ← hm x]
      have : x ∈ ws ↔ x ∈ ws.take p ∨ x ∈ ws.drop p := by
        conv => lhs; rw [← List.take_append_drop p ws]
        exact List.mem_append
      rw [this]
      simp only [List.mem_singleton, Option.toList, List.mem_cons, List.not_mem_nil, or_false]
      constructor
      · rintro ((h | h) | h)
        · exact .inl (.inl h)
        · exact .inr h
        · exact .inl (.inr h)
      · rintro ((h | h) | h)
        · exact .inl (.inl h)
        · exact .inr h
        · exact .inl (.inr h)
    · rw [List.length_append, List.length_append, List.length_take, List.length_drop]
      simp only [List.length_cons, List.length_nil]
      omega
  · rintro ρ O ⟨ds, ws, x3, rfl, hb, rfl, hm, hwl, hjv⟩
    rw [Nat.zero_add, tups_len] at hm hwl
    rw [List.take_length] at hm
    simp -implicitDefEqProofs only [unb_l2]
    rw [vs_seq, vs_ret]
    simp -implicitDefEqProofs only [vc, gt, oneK_1, go, so]
    exact ⟨_, rfl, h ws ds hm hwl hb⟩
def BB : Nat := 10 ^ 35
def numZ : ZSp := fun us O Q _ => ∃ (ds : List D) (w : Int), us = [.o 0, .d (.int w)] ∧ O = [.lst ds] ∧ BagOk ds ∧ 0 ≤ w ∧ w ≤ 1000 ∧ ∀ x ds', x.natAbs ≤ BB → BagOk ds' → Q (.d (.int x)) [.lst ds']
theorem k_law_number : Keeps [("_law_draw", drawZ), ("_law_huge", hugeZ), ("_law_pick", pickZ)] y__law_number N__law_number.length numZ := by
  rintro us O Q E ⟨ds, w, rfl, rfl, hb, hw0, hw1, h⟩
  show vcS _ y__law_number E _ [some (.o 0), some (.d (.int w))] _
  have hBB : BB = 100000000000000000000000000000000000 := by decide
  simp -implicitDefEqProofs only [y__law_number]
  rw [vs_seq, vs_ite]
  simp -implicitDefEqProofs only [vc, gt, st, oneK_1, List.getElem?_cons_zero, List.getElem?_cons_succ]
  refine callO [.int 13] rfl fun F X hF => ⟨ds, 13, rfl, rfl, hb, by decide, by decide, fun r ds1 h1 h2 hb1 => hF _ _ ?_⟩
  simp -implicitDefEqProofs only [oneK_1, so, nrK_d, eq_i, boolK_1]
  refine way (fun _ => ?_) fun _ => ?_
  · rw [vs_seq, vs_ret]
    simp -implicitDefEqProofs only [vc, gt, st, oneK_1, nrK_d, tosK_2, newL, List.getElem?_cons_zero, List.getElem?_cons_succ]
    refine callO [] rfl fun F X hF => ⟨ds1, rfl, rfl, hb1, fun g ds2 g1 g2 hb2 => hF _ _ ?_⟩
    simp -implicitDefEqProofs only [oneK_1, so, nrK_d, tosK_2, newL]
    refine ⟨(by decide : 2 ≤ sizeLine), ?_⟩
    refine callO [.lst [.int 1, .int (-1)]] rfl fun F X hF => ⟨ds2, [.int 1, .int (-1)], .inl ⟨rfl, rfl⟩, hb2, by decide, by decide, fun x ds3 hx hb3 => hF _ _ ?_⟩
    simp only [List.mem_cons, List.not_mem_nil, or_false] at hx
    rcases hx with rfl | rfl
    · simp -implicitDefEqProofs only [oneK_1, so, nrK_d, mul_i]
      exact ⟨mulOk_r (by decide) (by decide), h _ _ (by omega) hb3⟩
    · simp -implicitDefEqProofs only [oneK_1, so, nrK_d, mul_i]
      exact ⟨mulOk_r (by decide) (by decide), h _ _ (by omega) hb3⟩
  · rw [vs_nil]
    dsimp only
    rw [vs_seq, vs_ret]
    simp -implicitDefEqProofs only [vc, gt, st, oneK_1, nrK_d, mul_i, add_i, List.getElem?_cons_zero]
    refine ⟨mulOk_l (by decide) (by decide), ?_⟩
    refine callO [.int (2 * w + 1)] rfl fun F X hF => ⟨ds1, _, rfl, rfl, hb1, by omega, by omega, fun r2 ds2 g1 g2 hb2 => hF _ _ ?_⟩
    simp -implicitDefEqProofs only [oneK_1, so, nrK_d, sub_i]
    exact h _ _ (by omega) hb2
def vecZ : ZSp := fun us O Q _ => ∃ (ds : List D) (w : Nat) (near : Int), us = [.o 0, .d (.int w), .d (.int near)] ∧ O = [.lst ds] ∧ BagOk ds ∧ w ≤ 50 ∧ 0 ≤ near ∧ near ≤ 1000 ∧ ∀ r ds', r.length = w → (∀ x ∈ r, x.natAbs ≤ BB) → BagOk ds' → Q (.d (tupD r)) [.lst ds']
theorem int_snoc {r : List Int} {x : Int} : r.map D.int ++ [.int x] = (r ++ [x]).map .int := by rw [List.map_append]; rfl
theorem k_law_vector : Keeps [("_law_number", numZ)] y__law_vector N__law_vector.length vecZ := by
  rintro us O Q E ⟨ds, w, near, rfl, rfl, hb, hw, hn0, hn1, h⟩
  show vcS _ y__law_vector E _ [some (.o 0), some (.d (.int w)), some (.d (.int near)), none] _
  simp -implicitDefEqProofs only [y__law_vector]
  rw [vs_seq, vs_ret]
  simp -implicitDefEqProofs only [vc, gt, st, oneK_1, nrK_d, wipeR, wipeR.rm, List.getElem?_cons_zero]
  refine ⟨⟨by omega, by omega⟩, _, rfl, by rw [List.length_map, List.length_range, sizeLine_eq]; omega, ?_⟩
  refine compR_inv (fun i acc O => ∃ (ds : List D) (r : List Int), O = [.lst ds] ∧ BagOk ds ∧ acc = r.map .int ∧ r.length = i ∧ ∀ x ∈ r, x.natAbs ≤ BB) _ [] _ 0 ⟨ds, [], rfl, hb, rfl, rfl, (fun x hx => by cases hx)⟩ ?_ ?_
  · rintro j d acc O e ⟨ds, r, rfl, hb, rfl, hrl, hr⟩ F hF
    obtain ⟨hj, rfl⟩ := rng_at e
    simp -implicitDefEqProofs only [bindT, gt, st]
    refine callO [.int near] rfl fun F' X hF' => ⟨ds, near, rfl, rfl, hb, hn0, hn1, fun x ds' hx hb' => hF' _ _ (hF _ _ ⟨ds', r ++ [x], rfl, hb', int_snoc, by rw [List.length_append, hrl]; simp, fun y hy => ?_⟩)⟩
    rcases List.mem_append.mp hy with m | m
    · exact hr y m
    · rw [List.mem_singleton.mp m]; exact hx
  · rintro acc O ⟨ds, r, rfl, hb, rfl, hrl, hr⟩
    rw [List.length_map, List.length_range, Nat.zero_add, show ((w : Int)).toNat = w by omega] at hrl
    simp -implicitDefEqProofs only [newL, unb_l1, oneK_1, nrsK_1, tuple_l]
    exact h r ds hrl hr hb
theorem k_law_small : Keeps [("_law_draw", drawZ)] y__law_small N__law_small.length vecZ := by
  rintro us O Q E ⟨ds, w, near, rfl, rfl, hb, hw, hn0, hn1, h⟩
  show vcS _ y__law_small E _ [some (.o 0), some (.d (.int w)), some (.d (.int near)), none] _
  have hBB : BB = 100000000000000000000000000000000000 := by decide
  simp -implicitDefEqProofs only [y__law_small]
  rw [vs_seq, vs_ret]
  simp -implicitDefEqProofs only [vc, gt, st, oneK_1, nrK_d, wipeR, wipeR.rm, List.getElem?_cons_zero]
  refine ⟨⟨by omega, by omega⟩, _, rfl, by rw [List.length_map, List.length_range, sizeLine_eq]; omega, ?_⟩
  refine compR_inv (fun i acc O => ∃ (ds : List D) (r : List Int), O = [.lst ds] ∧ BagOk ds ∧ acc = r.map .int ∧ r.length = i ∧ ∀ x ∈ r, x.natAbs ≤ BB) _ [] _ 0 ⟨ds, [], rfl, hb, rfl, rfl, (fun x hx => by cases hx)⟩ ?_ ?_
  · rintro j d acc O e ⟨ds, r, rfl, hb, rfl, hrl, hr⟩ F hF
    obtain ⟨hj, rfl⟩ := rng_at e
    simp -implicitDefEqProofs only [bindT, gt, st, oneK_1, nrK_d, mul_i, add_i]
    refine ⟨mulOk_l (by decide) (by decide), ?_⟩
    refine callO [.int (2 * near + 1)] rfl fun F' X hF' => ⟨ds, _, rfl, rfl, hb, by omega, by omega, fun x ds' hx hx2 hb' => hF' _ _ ?_⟩
    simp -implicitDefEqProofs only [oneK_1, so, nrK_d, sub_i]
    refine hF _ _ ⟨ds', r ++ [x - near], rfl, hb', int_snoc, by rw [List.length_append, hrl]; simp, fun y hy => ?_⟩
    rcases List.mem_append.mp hy with m | m
    · exact hr y m
    · rw [List.mem_singleton.mp m]; omega
  · rintro acc O ⟨ds, r, rfl, hb, rfl, hrl, hr⟩
    rw [List.length_map, List.length_range, Nat.zero_add, show ((w : Int)).toNat = w by omega] at hrl
    simp -implicitDefEqProofs only [newL, unb_l1, oneK_1, nrsK_1, tuple_l]
    exact h r ds hrl hr hb
def isvZ : ZSp := fun us O Q _ => ∃ (r : List Int), us = [.d (tupD r), .d (.int r.length)] ∧ O = [] ∧ r.length ≤ 100 ∧ Q (.d (.bl true)) []
theorem k_law_is_vector : Keeps [("_law_int", intZ)] y__law_is_vector N__law_is_vector.length isvZ := by
  rintro us O Q E ⟨r, rfl, rfl, hl, h⟩
  show vcS _ y__law_is_vector E _ [some (.d (tupD r)), some (.d (.int r.length)), none] _
  simp -implicitDefEqProofs only [y__law_is_vector]
  rw [vs_seq, vs_ret]
  simp -implicitDefEqProofs only [vc, tupD, gt, st, oneK_1, boolK_1, tyU, tyD, isi_tt, ex_some, nrsK_1, nrK_d, len_t, brK_d, wipeR, wipeR.rm, eq_i, List.length_map, List.getElem?_cons_zero]
  refine ⟨fun _ => way (fun _ => ?_) fun z => absurd trivial z, fun z => by cases z⟩
  refine ⟨_, rfl, by rw [List.length_map, sizeLine_eq]; omega, ?_⟩
  refine compR_map (fun _ => .bl true) (Nat.le_refl _) _ (fun d hd F hF => ?_) ?_
  · obtain ⟨x, hx, rfl⟩ := List.mem_map.mp hd
    simp -implicitDefEqProofs only [bindT, gt, st]
    exact callD0 [.int x] fun F' X hF' => ⟨x, rfl, rfl, hF' _ hF⟩
  · simp -implicitDefEqProofs only [newL, oneK_1, nrsK_1, unb_0]
    have e : (r.map D.int).map (fun _ => D.bl true) = (r.map fun _ => true).map .bl := by
      rw [List.map_map, List.map_map]
      rfl
    rw [e]
    refine all_l ?_
    have e2 : (r.map fun _ => true).all id = true := by simp
    rw [e2]
    exact h
def llessZ : ZSp := fun us O Q _ => ∃ (x y : List Int) (t : Int) (X : D), us = [.d X, .d (tupD y), .d (.int t)] ∧ O = [] ∧ (X = .lst (x.map .int) ∨ X = tupD x) ∧ x.length = y.length ∧ x.length ≤ 100 ∧ (∀ z ∈ y, MulOk t z) ∧ Q (.d (.lst ((lessL x y t).map .int))) []
theorem k_law_less : Keeps [] y__law_less N__law_less.length llessZ := by
  rintro us O Q E ⟨x, y, t, X, rfl, rfl, hX, hl, hn, hm, h⟩
  show vcS _ y__law_less E _ [some (.d X), some (.d (tupD y)), some (.d (.int t)), none, none] _
  rcases hX with rfl | rfl
  all_goals
    simp -implicitDefEqProofs only [y__law_less]
    rw [vs_seq, vs_ret]
    simp -implicitDefEqProofs only [vc, tupD, gt, st, oneK_1, nrK_d, brK_d, wipeR, wipeR.rm, zip_ints]
    refine ⟨_, rfl, by rw [List.length_map, List.length_zip, sizeLine_eq]; omega, ?_⟩
    refine compR_map (fun d => match d with
      | .tup [.int u, .int w] => .int (u - t * w)
      | _ => .non) (Nat.le_refl _) _ (fun d hd F hF => ?_) ?_
    · obtain ⟨⟨u, v⟩, hz, rfl⟩ := List.mem_map.mp hd
      simp -implicitDefEqProofs only [bindT, bindTs, gt, st, nrK_d, oneK_1, mul_i, sub_i]
      exact ⟨hm v (List.of_mem_zip hz).2, hF⟩
    · simp -implicitDefEqProofs only [newL, unb_0, oneK_1]
      have e : ((List.zip x y).map fun q => D.tup [.int q.1, .int q.2]).map (fun d => match d with
        | .tup [.int u, .int w] => D.int (u - t * w)
        | _ => .non) = (lessL x y t).map .int := by
        unfold lessL
        rw [List.map_map, List.map_zipWith, List.zip_eq_zipWith, List.map_zipWith]
        rfl
      rw [e]
      exact h
def lpvZ : ZSp := fun us O Q _ => ∃ (r : List Int) (w : Nat), us = [.d (tupD r)] ∧ O = [] ∧ r.length = w ∧ w ≤ 100 ∧ pv w (fn r) < w ∧ Q (.d (.int (pv w (fn r)))) []
theorem first_piv {w : Nat} {f : Fn} (h : pv w f < w) : ∃ l, (((List.range w).map fun (i : Nat) => D.int (0 + (i : Int))).filter fun d => match d with
    | .int i => !decide (f i.toNat = 0)
    | _ => false) = .int (pv w f) :: l := by
  have e : List.range w = List.range (pv w f) ++ pv w f :: (List.range' (pv w f + 1) (w - pv w f - 1)) := by
    conv => lhs; rw [show w = pv w f + (w - pv w f) by omega, List.range_add]
    rw [List.range_eq_range' (n := w - pv w f), show w - pv w f = (w - pv w f - 1) + 1 by omega, List.range'_succ, List.map_cons]
    congr 2
    rw [List.map_add_range']
    simp
  rw [e, List.map_append, List.map_cons, List.filter_append]
  have h1 : ((List.range (pv w f)).map fun (i : Nat) => D.int (0 + (i : Int))).filter (fun d => match d with
    | .int i => !decide (f i.toNat = 0)
    | _ => false) = [] := by
    refine List.filter_eq_nil_iff.mpr fun d hd => ?_
    obtain ⟨i, hi, rfl⟩ := List.mem_map.mp hd
    have := pv_zero (w := w) (f := f) (List.mem_range.mp hi)
    simp [this]
  rw [h1, List.nil_append, List.filter_cons_of_pos]
  · exact ⟨_, by rw [Int.zero_add]⟩
  · have := pv_ne h
    simpa using this
theorem k_law_pivot : Keeps [] y__law_pivot N__law_pivot.length lpvZ := by
  rintro us O Q E ⟨r, w, rfl, rfl, hl, hw, hp, h⟩
  show vcS _ y__law_pivot E _ [some (.d (tupD r)), none] _
  simp -implicitDefEqProofs only [y__law_pivot]
  rw [vs_seq, vs_ret]
  simp -implicitDefEqProofs only [vc, tupD, gt, st, oneK_1, nrsK_1, nrK_d, len_t, List.length_map, hl, wipeR, wipeR.rm]
  refine ⟨⟨by omega, by omega⟩, _, rfl, by rw [List.length_map, List.length_range, sizeLine_eq]; omega, ?_⟩
  refine compR_filter (fun d => match d with
    | .int i => !decide (fn r i.toNat = 0)
    | _ => false) (fun d => d) (Nat.le_refl _) _ _ (fun d hd F S hF hS => ?_) ?_
  · obtain ⟨i, hi, rfl⟩ := List.mem_map.mp hd
    have hi2 : i < w := by have := List.mem_range.mp hi; omega
    have e0 : (0 : Int) + (i : Int) = (i : Int) := Int.zero_add _
    have e1 : ((i : Int)).toNat = i := by omega
    simp -implicitDefEqProofs only [e0, e1] at hF hS ⊢
    simp -implicitDefEqProofs only [bindT, gt, st, oneK_1, nrK_d, ix_t, at_fn (by omega : i < r.length), ex_some, ne_i, boolK_1]
    exact ⟨fun z => hF z, fun z => hS z⟩
  · rw [List.nil_append, List.map_id', show ((w : Int)).toNat = w by omega]
    obtain ⟨l, el⟩ := first_piv (f := fn r) hp
    rw [el]
    simp -implicitDefEqProofs only [newL, unb_0, oneK_1, nrK_d, ix_l, at_0, ex_some]
    exact h
def takenL (vs : List (List Int)) (cs : List Int) (w : Nat) : List Int := (List.range w).map fun j => (List.zipWith (fun v c => fn v j * c) vs cs).sum
def takenZ : ZSp := fun us O Q _ => ∃ (vs : List (List Int)) (cs : List Int) (w : Nat) (u : U) (C : D), us = [u, .d C, .d (.int w)] ∧ ((u = .d (.lst (tupsD vs)) ∧ O = []) ∨ (u = .o 0 ∧ O = [.lst (tupsD vs)])) ∧ (C = .lst (cs.map .int) ∨ C = tupD cs) ∧ vs.length ≤ 20 ∧ w ≤ 50 ∧ (∀ v ∈ vs, w ≤ v.length) ∧ (∀ v ∈ vs, ∀ j, (fn v j).natAbs < 2 ^ 131) ∧ (∀ c ∈ cs, c.natAbs < 2 ^ 23000000) ∧ Q (.d (tupD (takenL vs cs w))) O
theorem zip_tc {vs : List (List Int)} {cs : List Int} : List.zipWith (fun d e => D.tup [d, e]) (tupsD vs) (cs.map .int) = (List.zip vs cs).map fun q => D.tup [tupD q.1, .int q.2] := by
  unfold tupsD
  rw [List.zipWith_map, List.zip_eq_zipWith, List.map_zipWith]
theorem zip_sum {vs : List (List Int)} {cs : List Int} {j : Nat} : ((List.zip vs cs).map fun q => D.tup [.tup (q.1.map .int), .int q.2]).map (fun d => match d with
    | .tup [.tup r, .int c] => D.int (fn (rowOfT (.tup r)) j * c)
    | _ => .non) = (List.zipWith (fun v c => fn v j * c) vs cs).map .int := by
  rw [List.map_map, List.map_zipWith, List.zip_eq_zipWith, List.map_zipWith]
  congr 1
  funext v c
  show D.int (fn (rowOfT (tupD v)) j * c) = _
  rw [rowOfT_tup]
theorem k_law_taken : Keeps [] y__law_taken N__law_taken.length takenZ := by
  rintro us O Q E ⟨vs, cs, w, u, C, rfl, hu, hC, hvl, hw, hlen, hbv, hbc, h⟩
  show vcS _ y__law_taken E _ [some u, some (.d C), some (.d (.int w)), none, none, none] _
  have hfin : ∀ ns, ns = takenL vs cs w → ns.map D.int = (takenL vs cs w).map .int := fun ns e => by rw [e]
  rcases hu with ⟨rfl, rfl⟩ | ⟨rfl, rfl⟩ <;> rcases hC with rfl | rfl
  all_goals
    simp -implicitDefEqProofs only [y__law_taken]
    rw [vs_seq, vs_ret]
    simp -implicitDefEqProofs only [vc, gt, st, oneK_1, nrK_d, wipeR, wipeR.rm]
    refine ⟨⟨by omega, by omega⟩, _, rfl, by rw [List.length_map, List.length_range, sizeLine_eq]; omega, ?_⟩
    refine compR_inv (fun i acc O => O = _ ∧ acc = ((List.range i).map fun j => (List.zipWith (fun v c => fn v j * c) vs cs).sum).map .int) _ [] _ 0 ⟨rfl, rfl⟩ ?_ ?_
    · rintro j d acc O e ⟨rfl, rfl⟩ F hF
      obtain ⟨hj, rfl⟩ := rng_at e
      rw [Nat.zero_add] at hF
      simp -implicitDefEqProofs only [bindT, tupD, gt, st, oneK_1, nrK_d, brK_d, brK_lst0, wipeR, wipeR.rm, zip_tc]
      refine ⟨_, rfl, by rw [List.length_map, List.length_zip, sizeLine_eq]; omega, ?_⟩
      refine compR_map (fun d => match d with
        | .tup [.tup r, .int c] => .int (fn (rowOfT (.tup r)) j * c)
        | _ => .non) (Nat.le_refl _) _ (fun d hd F hF => ?_) ?_
      · obtain ⟨⟨v, c⟩, hz, rfl⟩ := List.mem_map.mp hd
        have hm := List.of_mem_zip hz
        have hvl2 := hlen v hm.1
        have er : rowOfT (.tup (v.map D.int)) = v := rowOfT_tup v
        simp -implicitDefEqProofs only [tupD, er] at hF
        simp -implicitDefEqProofs only [bindT, bindTs, tupD, gt, st, oneK_1, nrK_d, ix_t, at_fn (by omega : j < v.length), ex_some, mul_i]
        exact ⟨mulOk_big (hbv v hm.1 j) (hbc c hm.2) (by decide), hF⟩
      · rw [zip_sum]
        simp -implicitDefEqProofs only [newL, unb_0, unb_lb, oneK_1, nrsK_1]
        refine ⟨_, rfl, hF _ _ ⟨rfl, ?_⟩⟩
        rw [List.range_succ, List.map_append, List.map_append]
        rfl
    · rintro acc O ⟨rfl, rfl⟩
      rw [List.length_map, List.length_range, Nat.zero_add, show ((w : Int)).toNat = w by omega]
      simp -implicitDefEqProofs only [newL, unb_0, unb_l1, oneK_1, nrsK_1, tuple_l]
      exact h
end Z

set_option Elab.async false
set_option linter.all false
set_option maxRecDepth 100000
set_option maxHeartbeats 4000000
namespace Z
open PySem PySem.Spec PyProof.Rows L2
theorem HB.rows {w n : Nat} {vs bs : List (List Int)} (hV : VsOk w n vs) (h : HB w n vs bs) : RowsOk w n 25219 23000000 bs := by
  have hm : (fns vs).length ≤ 7 := by
    have := hV.few
    unfold fns
    rw [List.length_map]
    omega
  have hv : ∀ v ∈ fns vs, Sb w 131 v := fun v hv => by
    obtain ⟨u, hu, rfl⟩ := List.mem_map.mp hv
    exact fun j _ => hV.bd u hu j
  have hp := h.over.piv hm hv
  have hs := h.over.small h.red hm hv
  have hf := h.few
  refine ⟨h.len, hV.w100, hV.n100, by omega, h.over.ech, fun r hr => ⟨fun j hj => ?_, h.big r hr⟩, fun r hr => h.red.pos _ (List.mem_map.mpr ⟨r, hr, rfl⟩), fun r hr => lt2_mono (hp _ (List.mem_map.mpr ⟨r, hr, rfl⟩)) (by decide)⟩
  exact lt2_mono (hs _ (List.mem_map.mpr ⟨r, hr, rfl⟩) j hj) (by decide)
theorem at_last {α : Type} {l : List α} {x : α} : atI (l ++ [x]) (-1) = some x := by
  unfold atI ixN
  rw [List.length_append]
  simp only [List.length_cons, List.length_nil]
  rw [if_neg (by decide), if_pos (by omega)]
  show (l ++ [x])[(((l.length + (0 + 1) : Nat) : Int) + -1).toNat]? = _
  rw [show (((l.length + (0 + 1) : Nat) : Int) + -1).toNat = l.length by omega]
  simp
/-- what a vector of the lattice leaves: nothing -/
theorem rem_none {w : Nat} {vs : List Fn} {A : List Fn} {x : Fn} (hE : Ech w A) (hp : ∀ a ∈ A, 0 < a (pv w a)) (hx : LatE w A x) : ∀ j, j < w → remF w A x j = 0 := by
  obtain ⟨y, hy, e⟩ := hx
  obtain ⟨z, hz, e2⟩ := rem_lat (w := w) (A := A) (x := x)
  have hlow := rem_low (x := x) hE hp
  have hl : Lat A (fun j => y j + 1 * z j) := hy.comb 1 hz
  have hs := Ech.small hE hl fun a ha => by
    have h1 := hlow a ha
    have h2 := hE.lt a ha
    rw [e2, e _ h2] at h1
    have h3 := hp a ha
    show (y (pv w a) + 1 * z (pv w a)).natAbs < _
    omega
  intro j hj
  rw [e2, e j hj]
  have := hs j
  omega
def numsZ : ZSp := fun us O Q _ => ∃ (vs bs : List (List Int)) (x : List Int) (w : Nat), us = [.o 0, .d (tupD x)] ∧ O = [.lst (tupsD bs)] ∧ VsOk w w vs ∧ HB w w vs bs ∧ x ∈ vs ∧ ∀ r, Q (.d (.tup r)) [.lst (tupsD bs)]
theorem unb_bl {a b c : List D} : unb [.lst a, .lst b] [.brw a, .lst c] = [.lst a, .lst c] := rfl
theorem k_law_numbers : KeepsD [("_law_less", llessZ), ("_law_pivot", lpvZ)] y__law_numbers N__law_numbers.length numsZ := by
  rintro us O Q E ⟨vs, bs, x, w, rfl, rfl, hV, hB, hx, h⟩
  show vcS _ y__law_numbers E _ [some (.o 0), some (.d (tupD x)), none, none, none, none, none] _
  have hR := hB.rows hV
  have hxl := hV.len x hx
  have hw := hV.n100
  have hbf := hB.few
  have hxz : Pz w 23000000 131 (fn x) := ⟨fun i _ => hV.bd x hx i, fun i => lt2_mono (hV.bd x hx i) (by omega)⟩
  simp -implicitDefEqProofs only [y__law_numbers]
  rw [vs_seq, vs_par]
  simp -implicitDefEqProofs only [vc, tupD, gt, st, oneK_1, nrsK_1, list_t, tosK_0, newL, List.length_nil, List.length_cons, List.nil_append, List.cons_append]
  refine ⟨(by decide : 0 ≤ sizeLine), ?_⟩
  rw [vs_seq, vs_for]
  simp -implicitDefEqProofs only [vc, gt, st, oneK_1, brK_lst0]
  refine ⟨_, rfl, ?_⟩
  refine forR_inv (fun i ρ O => ∃ (fs rest : List Int) (x2 x5 x6 : Option U), O = [.brw (tupsD bs), .lst (fs.map .int)] ∧ ρ = [some (.o 0), some (.d (.tup (x.map .int))), x2, some (.d (.lst (rest.map .int))), some (.o 1), x5, x6] ∧ rest.length = w ∧ fn rest = remF w (fns (bs.take i)) (fn x) ∧ fs.length = i) _ _ _ 0 ⟨[], x, none, none, none, rfl, rfl, hxl, rfl, rfl⟩ ?_ ?_
  · rintro j d ρ O e ⟨fs, rest, x2, x5, x6, rfl, rfl, hrl, hfr, hfl⟩ N hN
    unfold tupsD at e
    rw [List.getElem?_map] at e
    cases q : bs[j]? with
    | none => rw [q] at e; cases e
    | some r =>
    rw [q] at e
    cases e
    rw [Nat.zero_add] at hfr hfl hN
    have hrm := List.mem_of_getElem? q
    have hrlen := hR.len r hrm
    have hjl := (List.getElem?_eq_some_iff.mp q).1
    have hp := hR.lt r hrm
    have hpos := hR.pos r hrm
    have hpx : Pz w 23000000 (131 + j * 25220) (fn rest) := by
      have := rem_pz (A := fns (bs.take j)) (a := 25219) (x := fn x) (fun c hc => by
        obtain ⟨r', hr', rfl⟩ := List.mem_map.mp hc
        have hm := List.mem_of_mem_take hr'
        exact ⟨hR.rz r' hm, hR.lt r' hm, hR.pos r' hm⟩) hxz
      rw [hfr]
      have e2 : (fns (bs.take j)).length = (bs.take j).length := List.length_map ..
      rw [e2, List.length_take] at this
      have e3 : min j bs.length = j := by omega
      rw [e3] at this
      exact this
    have hq : ((fn rest (pv w (fn r))).fdiv (fn r (pv w (fn r)))).natAbs < 2 ^ (131 + j * 25220) := Nat.lt_of_le_of_lt (fdiv_abs hpos) (hpx.1 _ hp)
    simp -implicitDefEqProofs only [bindT, gt, st]
    rw [vs_seq, vs_set]
    simp -implicitDefEqProofs only [vc, gt, st, oneK_1, List.getElem?_cons_zero, List.getElem?_cons_succ]
    refine callD0 [tupD r] fun F X hF => ⟨r, w, rfl, rfl, hrlen, by omega, hp, hF _ ?_⟩
    rw [vs_seq, vs_ex]
    simp -implicitDefEqProofs only [vc, tupD, gt, st, oneK_1, toK_d, nrK_d, go, so, ix_t, ix_l, at_fn (by omega : pv w (fn r) < rest.length), at_fn (by omega : pv w (fn r) < r.length), ex_some, div_i]
    refine ⟨⟨by omega, by have := PySem.Flt.log2_lt_of (by decide) (hR.piv r hrm); omega⟩, by rw [List.length_map, sizeLine_eq]; omega, ?_⟩
    rw [vs_seq, vs_set]
    have e1 : nrm [.brw (tupsD bs), .lst (fs.map .int ++ [.int ((fn rest (pv w (fn r))).fdiv (fn r (pv w (fn r))))])] (.o 1) = some (.lst (fs.map .int ++ [.int ((fn rest (pv w (fn r))).fdiv (fn r (pv w (fn r))))])) := rfl
    simp -implicitDefEqProofs only [vc, gt, st, oneK_1, nrK_d, nrK_lst1, ix_l, at_last, ex_some, List.getElem?_cons_zero, List.getElem?_cons_succ]
    refine callD0 [.lst (rest.map .int), tupD r, .int ((fn rest (pv w (fn r))).fdiv (fn r (pv w (fn r))))] fun F X hF => ⟨rest, r, _, _, rfl, rfl, .inl rfl, by omega, by omega, fun y hy => ?_, hF _ ?_⟩
    · obtain ⟨i, hi, rfl⟩ := fn_mem hy
      exact mulOk_big hq ((hR.rz r hrm).2 i) (by omega)
    · rw [vs_nil]
      refine hN _ _ ⟨fs ++ [_], _, _, _, _, by rw [int_snoc], rfl, by rw [less_len (by omega)]; exact hrl, ?_, by rw [List.length_append, hfl]; rfl⟩
      rw [fn_less _ _ _ (by omega), List.take_succ, q]
      show _ = remF w ((bs.take j ++ [r]).map fn) (fn x)
      rw [List.map_append]
      show _ = remF w (fns (bs.take j) ++ [fn r]) (fn x)
      rw [rem_snoc, ← hfr]
  · rintro ρ O ⟨fs, rest, x2, x5, x6, rfl, rfl, hrl, hfr, hfl⟩
    rw [Nat.zero_add, List.take_of_length_le (by rw [tups_len]; exact Nat.le_refl _)] at hfr
    have hz : ∀ y ∈ rest, y = 0 := fun y hy => by
      obtain ⟨i, hi, rfl⟩ := fn_mem hy
      rw [hfr]
      refine rem_none (vs := fns vs) hB.over.ech hB.red.pos ?_ i (by omega)
      exact hB.over.back _ (List.mem_map.mpr ⟨x, hx, rfl⟩)
    rw [unb_bl]
    dsimp only
    rw [vs_seq, vs_ret]
    simp -implicitDefEqProofs only [vc, gt, st, oneK_1, brK_d, wipeR, wipeR.rm]
    refine ⟨_, rfl, by rw [List.length_map, sizeLine_eq]; omega, ?_⟩
    refine compR_map (fun _ => .bl true) (Nat.le_refl _) _ (fun d hd F hF => ?_) ?_
    · obtain ⟨y, hy, rfl⟩ := List.mem_map.mp hd
      simp -implicitDefEqProofs only [bindT, gt, st, oneK_1, nrK_d, eq_i, hz y hy]
      exact hF
    · have e1 : nrm [.lst (tupsD bs), .lst (fs.map .int)] (.o 1) = some (.lst (fs.map .int)) := rfl
      simp -implicitDefEqProofs only [newL, unb_self, oneK_1, nrsK_1]
      have e : (rest.map D.int).map (fun _ => D.bl true) = (rest.map fun _ => true).map .bl := by
        rw [List.map_map, List.map_map]
        rfl
      rw [e]
      refine all_l ?_
      have e2 : (rest.map fun _ => true).all id = true := by simp
      rw [e2]
      simp -implicitDefEqProofs only [boolK_1, gt, nrsK_o e1, tuple_l, oneK_1]
      exact ⟨fun _ => ⟨_, rfl, h _⟩, fun z => by cases z⟩
end Z

set_option Elab.async false
set_option linter.all false
set_option maxRecDepth 100000
set_option maxHeartbeats 4000000
namespace Z
open PySem PySem.Spec PyProof.Rows L2
theorem any_l {bs : List Bool} {Q : D → Prop} (h : Q (.bl (bs.any id))) : BF.op .any [.lst (bs.map .bl)] Q := ⟨bs, rfl, h⟩
theorem tups_at {bs : List (List Int)} {j : Nat} {r : List Int} (h : bs[j]? = some r) : atI (tupsD bs) (j : Int) = some (tupD r) := atI_nat (by
  unfold tupsD
  rw [List.getElem?_map, h]
  rfl)
theorem trues {β : Type} (l : List β) : (l.map fun _ => true).all id = true := by simp
def isbZ : ZSp := fun us O Q _ => ∃ (bs : List (List Int)) (w : Nat), us = [.o 0, .d (.int w)] ∧ O = [.lst (tupsD bs)] ∧ (∀ b ∈ bs, b.length = w) ∧ w ≤ 100 ∧ bs.length ≤ 20 ∧ Ech w (fns bs) ∧ Red w (fns bs) ∧ Q (.d (.bl true)) [.lst (tupsD bs)]
theorem k_law_is_basis : Keeps [("_law_pivot", lpvZ), ("_law_is_vector", isvZ)] y__law_is_basis N__law_is_basis.length isbZ := by
  rintro us O Q E ⟨bs, w, rfl, rfl, hlen, hw, hfew, hE, hR, h⟩
  show vcS _ y__law_is_basis E _ [some (.o 0), some (.d (.int w)), none, none, none, none] _
  obtain ⟨t1, t2, t3, t4, t5, t6, t7, t8, t9, t10, t11, t12, t13, t14⟩ := isi_tab
  have hpv : ∀ b ∈ bs, pv w (fn b) < w := fun b hb => hE.lt _ (List.mem_map.mpr ⟨b, hb, rfl⟩)
  have hsz : (tupsD bs).length ≤ sizeLine := by rw [tups_len, sizeLine_eq]; omega
  have hty : tyU [.lst (tupsD bs)] (.o 0) = some "list" := rfl
  have e1 : nrm [.lst (tupsD bs)] (.o 0) = some (.lst (tupsD bs)) := rfl
  simp -implicitDefEqProofs only [y__law_is_basis]
  rw [vs_seq, vs_ite]
  simp -implicitDefEqProofs only [vc, gt, st, oneK_1, boolK_1, hty, t6, ex_some, brK_lst0, wipeR, wipeR.rm, nrsK_o e1, len_l, tups_len, nrK_d]
  refine ⟨(fun z => by cases z), fun _ => ⟨_, rfl, hsz, ?_⟩⟩
  refine compR_map (fun _ => .bl true) (Nat.le_refl _) _ (fun d hd F hF => ?_) ?_
  · obtain ⟨b, hb, rfl⟩ := List.mem_map.mp hd
    have hbl := hlen b hb
    simp -implicitDefEqProofs only [bindT, gt, st, oneK_1, List.getElem?_cons_zero, List.getElem?_cons_succ]
    refine callD0 [tupD b, .int w] fun F' X hF' => ⟨b, by rw [hbl]; rfl, rfl, by omega, hF' _ ?_⟩
    simp -implicitDefEqProofs only [tupD, boolK_1, gt, st, oneK_1, brK_d, wipeR, wipeR.rm]
    refine ⟨fun _ => ⟨_, rfl, by rw [List.length_map, sizeLine_eq]; omega, ?_⟩, fun z => by cases z⟩
    refine compR_map (fun d => match d with
      | .int i => .bl (!(decide (i = 0)))
      | _ => .non) (Nat.le_refl _) _ (fun d hd F hF => ?_) ?_
    · obtain ⟨y, hy, rfl⟩ := List.mem_map.mp hd
      simp -implicitDefEqProofs only [bindT, gt, st, oneK_1, nrK_d, ne_i]
      exact hF
    · simp -implicitDefEqProofs only [newL, unb_self, oneK_1, nrsK_1]
      have e : (b.map D.int).map (fun d => match d with
        | .int i => D.bl (!(decide (i = 0)))
        | _ => .non) = (b.map fun i => !(decide (i = 0))).map .bl := by
        rw [List.map_map, List.map_map]
        rfl
      rw [e]
      refine any_l ?_
      have hp := hpv b hb
      have hne := pv_ne hp
      have e2 : (b.map fun i => !(decide (i = 0))).any id = true := by
        rw [List.any_map, List.any_eq_true]
        refine ⟨fn b (pv w (fn b)), ?_, by simpa using hne⟩
        show b.getD _ 0 ∈ b
        rw [List.getD_eq_getElem?_getD, List.getElem?_eq_getElem (by omega : pv w (fn b) < b.length)]
        exact List.getElem_mem _
      rw [e2]
      exact hF
  · simp -implicitDefEqProofs only [newL, unb_lb, oneK_1, nrsK_1]
    have e : (tupsD bs).map (fun _ => D.bl true) = (bs.map fun _ => true).map .bl := by
      unfold tupsD
      rw [List.map_map, List.map_map]
      rfl
    rw [e]
    refine all_l ?_
    rw [trues]
    simp -implicitDefEqProofs only [boolK_1, Bool.not_true]
    refine ⟨(fun z => by cases z), fun _ => ?_⟩
    rw [vs_nil]
    dsimp only
    rw [vs_seq, vs_for]
    simp -implicitDefEqProofs only [vc, gt, st, oneK_1, nrsK_o e1, len_l, tups_len, nrK_d]
    refine ⟨⟨by omega, by omega⟩, _, rfl, ?_⟩
    rw [show ((bs.length : Int)).toNat = bs.length by omega]
    refine forR_inv (fun i ρ O => ∃ (x2 x3 : Option U), O = [.lst (tupsD bs)] ∧ ρ = [some (.o 0), some (.d (.int w)), x2, x3, none, none]) _ _ _ 0 ⟨none, none, rfl, rfl⟩ ?_ ?_
    · rintro j d ρ O e ⟨x2, x3, rfl, rfl⟩ N hN
      obtain ⟨hj, rfl⟩ := rng_at e
      obtain ⟨r, hr⟩ : ∃ r, bs[j]? = some r := ⟨_, List.getElem?_eq_getElem hj⟩
      have hrm := List.mem_of_getElem? hr
      have hrl := hlen r hrm
      have hp := hpv r hrm
      have hpos := hR.pos _ (List.mem_map.mpr ⟨r, hrm, rfl⟩)
      have hat := tups_at hr
      have hfat := at_fn (by omega : pv w (fn r) < r.length)
      simp -implicitDefEqProofs only [bindT, gt, st]
      rw [vs_seq, vs_set]
      simp -implicitDefEqProofs only [vc, gt, st, oneK_1, nrK_d, nrK_lst0, ix_l, hat, ex_some, List.getElem?_cons_zero, List.getElem?_cons_succ]
      refine callD0 [tupD r] fun F X hF => ⟨r, w, rfl, rfl, hrl, by omega, hp, hF _ ?_⟩
      rw [vs_seq, vs_ite]
      simp -implicitDefEqProofs only [vc, tupD, gt, st, oneK_1, boolK_1, nrK_d, nrK_lst0, ix_l, ix_t, hat, hfat, ex_some, lt_i, gt_i, sub_i, List.getElem?_cons_zero, List.getElem?_cons_succ]
      refine way (fun z => absurd hpos (by omega)) fun _ => ?_
      have low : ∀ b ∈ bs.take j, 0 ≤ fn b (pv w (fn r)) ∧ fn b (pv w (fn r)) < fn r (pv w (fn r)) := fun b hb => by
        obtain ⟨i, hi, rfl⟩ := List.mem_iff_getElem.mp hb
        rw [List.length_take] at hi
        have h1 := hR.low
        rw [List.pairwise_iff_getElem] at h1
        have h2 := h1 i j (by unfold fns; rw [List.length_map]; omega) (by unfold fns; rw [List.length_map]; omega) (by omega)
        have e4 : (fns bs)[j]'(by unfold fns; rw [List.length_map]; omega) = fn r := by
          unfold fns
          rw [List.getElem_map, (List.getElem?_eq_some_iff.mp hr).2]
        rw [e4] at h2
        rw [List.getElem_take]
        have e3 : (fns bs)[i]'(by unfold fns; rw [List.length_map]; omega) = fn (bs[i]'(by omega)) := by
          unfold fns
          rw [List.getElem_map]
        rw [e3] at h2
        exact h2
      refine way (fun hj0 => ?_) fun hj0 => ?_
      · obtain ⟨p, rfl⟩ : ∃ p, j = p + 1 := ⟨j - 1, by omega⟩
        obtain ⟨s, hs⟩ : ∃ s, bs[p]? = some s := ⟨_, List.getElem?_eq_getElem (by omega)⟩
        have hsm := List.mem_of_getElem? hs
        have ep : ((p + 1 : Nat) : Int) - 1 = (p : Int) := by omega
        refine ⟨tupD s, by rw [ep]; exact tups_at hs, ?_⟩
        refine callD0 [tupD s] fun F X hF => ⟨s, w, rfl, rfl, hlen s hsm, by omega, hpv s hsm, hF _ ?_⟩
        have hinc : pv w (fn s) < pv w (fn r) := by
          have h1 := hE.inc
          rw [List.pairwise_iff_getElem] at h1
          have h2 := h1 p (p + 1) (by unfold fns; rw [List.length_map]; omega) (by unfold fns; rw [List.length_map]; omega) (by omega)
          have e3 : (fns bs)[p]'(by unfold fns; rw [List.length_map]; omega) = fn s := by
            unfold fns
            rw [List.getElem_map, (List.getElem?_eq_some_iff.mp hs).2]
          have e4 : (fns bs)[p + 1]'(by unfold fns; rw [List.length_map]; omega) = fn r := by
            unfold fns
            rw [List.getElem_map, (List.getElem?_eq_some_iff.mp hr).2]
          rw [e3, e4] at h2
          exact h2
        simp -implicitDefEqProofs only [oneK_1, nrK_d, ge_i, boolK_1]
        rw [decide_eq_false (by omega)]
        refine ⟨(fun z => by cases z), fun _ => ?_⟩
        rw [vs_nil]
        dsimp only
        rw [vs_seq, vs_ite]
        have hcut : cutL (tupsD bs) none (some ((p + 1 : Nat) : Int)) = tupsD (bs.take (p + 1)) := by
          rw [cut_to _ (by rw [tups_len]; omega)]
          unfold tupsD
          rw [List.map_take]
        simp -implicitDefEqProofs only [vc, gt, st, oneK_1, boolK_1, nrK_d, nrK_lst0, partK, slD, hcut, brK_d, wipeR, wipeR.rm]
        refine ⟨_, rfl, by rw [tups_len, List.length_take, sizeLine_eq]; omega, ?_⟩
        refine compR_map (fun _ => .bl true) (Nat.le_refl _) _ (fun d hd F hF => ?_) ?_
        · unfold tupsD at hd
          obtain ⟨b, hb, rfl⟩ := List.mem_map.mp hd
          have hbm := List.mem_of_mem_take hb
          have hbl := hlen b hbm
          have hlow := low b hb
          simp -implicitDefEqProofs only [bindT, tupD, gt, st, oneK_1, nrK_d, nrK_lst0, ix_t, ix_l, hat, hfat, at_fn (by omega : pv w (fn r) < b.length), ex_some, le_i, lt_i]
          exact way (fun _ => by rw [decide_eq_true hlow.2]; exact hF) fun z => absurd hlow.1 z
        · simp -implicitDefEqProofs only [newL, unb_self, oneK_1, nrsK_1]
          have e : (tupsD (bs.take (p + 1))).map (fun _ => D.bl true) = ((bs.take (p + 1)).map fun _ => true).map .bl := by
            unfold tupsD
            rw [List.map_map, List.map_map]
            rfl
          rw [e]
          refine all_l ?_
          rw [trues]
          simp -implicitDefEqProofs only [boolK_1, Bool.not_true]
          refine ⟨(fun z => by cases z), fun _ => ?_⟩
          rw [vs_nil]
          dsimp only
          rw [vs_nil]
          exact hN _ _ ⟨_, _, rfl, rfl⟩
      · refine ⟨(fun z => by cases z), fun _ => ?_⟩
        rw [vs_nil]
        dsimp only
        rw [vs_seq, vs_ite]
        have hcut : cutL (tupsD bs) none (some (j : Int)) = tupsD (bs.take j) := by
          rw [cut_to _ (by rw [tups_len]; omega)]
          unfold tupsD
          rw [List.map_take]
        simp -implicitDefEqProofs only [vc, gt, st, oneK_1, boolK_1, nrK_d, nrK_lst0, partK, slD, hcut, brK_d, wipeR, wipeR.rm]
        refine ⟨_, rfl, by rw [tups_len, List.length_take, sizeLine_eq]; omega, ?_⟩
        refine compR_map (fun _ => .bl true) (Nat.le_refl _) _ (fun d hd F hF => ?_) ?_
        · unfold tupsD at hd
          obtain ⟨b, hb, rfl⟩ := List.mem_map.mp hd
          have hbm := List.mem_of_mem_take hb
          have hbl := hlen b hbm
          have hlow := low b hb
          simp -implicitDefEqProofs only [bindT, tupD, gt, st, oneK_1, nrK_d, nrK_lst0, ix_t, ix_l, hat, hfat, at_fn (by omega : pv w (fn r) < b.length), ex_some, le_i, lt_i]
          exact way (fun _ => by rw [decide_eq_true hlow.2]; exact hF) fun z => absurd hlow.1 z
        · simp -implicitDefEqProofs only [newL, unb_self, oneK_1, nrsK_1]
          have e : (tupsD (bs.take j)).map (fun _ => D.bl true) = ((bs.take j).map fun _ => true).map .bl := by
            unfold tupsD
            rw [List.map_map, List.map_map]
            rfl
          rw [e]
          refine all_l ?_
          rw [trues]
          simp -implicitDefEqProofs only [boolK_1, Bool.not_true]
          refine ⟨(fun z => by cases z), fun _ => ?_⟩
          rw [vs_nil]
          dsimp only
          rw [vs_nil]
          exact hN _ _ ⟨_, _, rfl, rfl⟩
    · rintro ρ O ⟨x2, x3, rfl, rfl⟩
      rw [unb_self]
      dsimp only
      rw [vs_seq, vs_ret]
      simp -implicitDefEqProofs only [vc, oneK_1]
      exact h
end Z

set_option Elab.async false
set_option linter.all false
set_option maxRecDepth 100000
set_option maxHeartbeats 4000000
namespace Z
open PySem PySem.Spec PyProof.Rows L2
theorem fn_le {v : List Int} {B : Nat} (h : ∀ x ∈ v, x.natAbs ≤ B) (j : Nat) : (fn v j).natAbs ≤ B := by
  by_cases hj : j < v.length
  · refine h _ ?_
    show v.getD j 0 ∈ v
    rw [List.getD_eq_getElem?_getD, List.getElem?_eq_getElem hj]
    exact List.getElem_mem _
  · rw [fn_out (by omega)]
    exact Nat.zero_le _
theorem pl_tup {r : List Int} (h : r.length ≤ 1000) : Pl 1 (tupD r) := .tup (by rw [List.length_map]; exact h) fun d hd => by
  obtain ⟨i, _, rfl⟩ := List.mem_map.mp hd
  exact .int i
theorem pl_tups {vs : List (List Int)} (hl : vs.length ≤ 1000) (h : ∀ v ∈ vs, v.length ≤ 1000) : Pl 2 (.lst (tupsD vs)) := .lst (by rw [tups_len]; exact hl) fun d hd => by
  obtain ⟨v, hv, rfl⟩ := List.mem_map.mp hd
  exact pl_tup (h v hv)
def Mf : Nat → Nat
  | 0 => 1 | 1 => 1 | 2 => 2 | 3 => 8 | 4 => 48 | _ => 384
theorem Mf_step {i : Nat} (h : i < 5) : 2 * i * Mf i ≤ Mf (i + 1) ∧ Mf i ≤ Mf (i + 1) ∧ 1 ≤ Mf (i + 1) ∧ Mf i * BB < 2 ^ 131 := by
  match i, h with
  | 0, _ => decide
  | 1, _ => decide
  | 2, _ => decide
  | 3, _ => decide
  | 4, _ => decide
theorem Mf_top {i : Nat} (h : i ≤ 5) : Mf i ≤ 384 := by
  match i, h with
  | 0, _ => decide
  | 1, _ => decide
  | 2, _ => decide
  | 3, _ => decide
  | 4, _ => decide
  | 5, _ => decide
theorem taken_bd {B C : Nat} {j : Nat} : ∀ {vs : List (List Int)} {cs : List Int}, (∀ v ∈ vs, (fn v j).natAbs ≤ B) → (∀ c ∈ cs, c.natAbs ≤ C) → ((List.zipWith (fun v c => fn v j * c) vs cs).sum).natAbs ≤ vs.length * (B * C)
  | [], _, _, _ => Nat.zero_le _
  | _ :: _, [], _, _ => Nat.zero_le _
  | v :: vs, c :: cs, h1, h2 => by
    rw [List.zipWith_cons_cons, List.sum_cons, List.length_cons, Nat.succ_mul]
    have ih := taken_bd (vs := vs) (cs := cs) (fun u hu => h1 u (List.mem_cons_of_mem _ hu)) fun u hu => h2 u (List.mem_cons_of_mem _ hu)
    have e1 : (fn v j * c).natAbs ≤ B * C := by
      rw [Int.natAbs_mul]
      exact Nat.mul_le_mul (h1 v List.mem_cons_self) (h2 c List.mem_cons_self)
    have := Int.natAbs_add_le (fn v j * c) (List.zipWith (fun v c => fn v j * c) vs cs).sum
    omega
theorem taken_mem {vs : List (List Int)} {cs : List Int} {w : Nat} {x : Int} (h : x ∈ takenL vs cs w) : ∃ j, x = (List.zipWith (fun v c => fn v j * c) vs cs).sum := by
  obtain ⟨j, _, rfl⟩ := List.mem_map.mp h
  exact ⟨j, rfl⟩
theorem taken_len {vs : List (List Int)} {cs : List Int} {w : Nat} : (takenL vs cs w).length = w := by
  unfold takenL
  rw [List.length_map, List.length_range]
theorem tosK_8 {O : List DO} {a b c d e f g h : D} {k : List D → Prop} : tosK O [.d a, .d b, .d c, .d d, .d e, .d f, .d g, .d h] k = k [a, b, c, d, e, f, g, h] := tosK_some (by simp [toDs_d, toDs_nil])
theorem unb_2b {a c b : List D} : unb [.lst a, .lst b] [.lst c, .brw b] = [.lst c, .lst b] := rfl
def rowsZ : ZSp := fun us O Q _ => ∃ (ds : List D) (w : Nat), us = [.o 0, .d (.int w)] ∧ O = [.lst ds] ∧ BagOk ds ∧ w ≤ 50 ∧ ∀ vs ds', vs.length ≤ 5 → (∀ v ∈ vs, v.length = w ∧ ∀ x ∈ v, x.natAbs ≤ 384 * BB) → BagOk ds' → Q (.d (.lst (tupsD vs))) [.lst ds']
theorem k_law_rows : KeepsD [("_law_pick", pickZ), ("_law_draw", drawZ), ("_law_taken", takenZ), ("_law_vector", vecZ), ("_law_small", vecZ)] y__law_rows N__law_rows.length rowsZ := by
  rintro us O Q E ⟨ds, w, rfl, rfl, hb, hw, h⟩
  show vcS _ y__law_rows E _ [some (.o 0), some (.d (.int w)), none, none, none] _
  simp -implicitDefEqProofs only [y__law_rows]
  rw [vs_seq, vs_set]
  simp -implicitDefEqProofs only [vc, gt, st, oneK_1, tosK_0, newL, List.length_nil, List.length_cons, List.nil_append, List.cons_append]
  refine ⟨(by decide : 0 ≤ sizeLine), ?_⟩
  rw [vs_seq, vs_for]
  simp -implicitDefEqProofs only [vc, gt, st, oneK_1, tosK_8, newL, List.getElem?_cons_zero, List.getElem?_cons_succ]
  refine ⟨(by decide : 8 ≤ sizeLine), ?_⟩
  refine callO [.lst [.int 0, .int 1, .int 2, .int 2, .int 3, .int 3, .int 4, .int 5]] rfl fun F X hF => ⟨ds, _, .inl ⟨rfl, rfl⟩, hb, (by decide : 1 ≤ 8), (by decide : 8 < 2 ^ 60), fun x ds1 hx hb1 => hF _ _ ?_⟩
  have hx' : ∃ p : Nat, x = .int p ∧ p ≤ 5 := by
    simp only [List.mem_cons, List.not_mem_nil, or_false] at hx
    rcases hx with rfl | rfl | rfl | rfl | rfl | rfl | rfl | rfl
    · exact ⟨0, rfl, by decide⟩
    · exact ⟨1, rfl, by decide⟩
    · exact ⟨2, rfl, by decide⟩
    · exact ⟨2, rfl, by decide⟩
    · exact ⟨3, rfl, by decide⟩
    · exact ⟨3, rfl, by decide⟩
    · exact ⟨4, rfl, by decide⟩
    · exact ⟨5, rfl, by decide⟩
  obtain ⟨p, rfl, hp⟩ := hx'
  simp -implicitDefEqProofs only [oneK_1, nrK_d, so]
  refine ⟨⟨by omega, by omega⟩, _, rfl, ?_⟩
  rw [show ((p : Int)).toNat = p by omega]
  refine forR_inv (fun i ρ O => ∃ (ds : List D) (vs : List (List Int)) (x3 : Option U), O = [.lst ds, .lst (tupsD vs)] ∧ BagOk ds ∧ ρ = [some (.o 0), some (.d (.int w)), some (.o 1), x3, none] ∧ vs.length = i ∧ i ≤ p ∧ ∀ v ∈ vs, v.length = w ∧ ∀ x ∈ v, x.natAbs ≤ Mf i * BB) _ _ _ 0 ⟨ds1, [], none, rfl, hb1, rfl, rfl, Nat.zero_le _, (fun v hv => by cases hv)⟩ ?_ ?_
  · rintro j d ρ O e ⟨ds, vs, x3, rfl, hb, rfl, hvl, hjp, hv⟩ N hN
    obtain ⟨hj, rfl⟩ := rng_at e
    rw [Nat.zero_add] at hvl hjp hv hN
    obtain ⟨m1, m2, m3, m4⟩ := Mf_step (i := j) (by omega)
    have hsz : (tupsD vs).length < sizeLine := by rw [tups_len, sizeLine_eq]; omega
    have hpl : Pl 2 (.lst (tupsD vs)) := pl_tups (by omega) fun v hv' => by rw [(hv v hv').1]; omega
    -- a row more
    have fin : ∀ (ds' : List D) (r : List Int) (x3 : Option U), BagOk ds' → r.length = w → (∀ x ∈ r, x.natAbs ≤ Mf (j + 1) * BB) → N [some (.o 0), some (.d (.int w)), some (.o 1), x3, none] [.lst ds', .lst (tupsD vs ++ [tupD r])] := fun ds' r x3 hb' hr1 hr2 => by
      refine hN _ _ ⟨ds', vs ++ [r], _, by rw [tups_snoc], hb', rfl, by rw [List.length_append, hvl]; rfl, by omega, fun v hm => ?_⟩
      rcases List.mem_append.mp hm with m | m
      · exact ⟨(hv v m).1, fun x hx => Nat.le_trans ((hv v m).2 x hx) (Nat.mul_le_mul_right _ m2)⟩
      · rw [List.mem_singleton.mp m]; exact ⟨hr1, hr2⟩
    have fin2 : ∀ (ds' : List D) (r : List Int) (x3 : Option U), BagOk ds' → r.length = w → (∀ x ∈ r, x.natAbs ≤ BB) → N [some (.o 0), some (.d (.int w)), some (.o 1), x3, none] [.lst ds', .lst (tupsD vs ++ [tupD r])] := fun ds' r x3 hb' hr1 hr2 => fin ds' r x3 hb' hr1 fun x hx => by
      have := hr2 x hx
      have := Nat.mul_le_mul_right BB m3
      omega
    simp -implicitDefEqProofs only [bindT, gt, st]
    rw [vs_seq, vs_ite]
    simp -implicitDefEqProofs only [vc, gt, st, oneK_1, nrK_d, nrK_lst1, tosK_0, newL, boolK_1, List.getElem?_cons_zero, List.getElem?_cons_succ]
    refine ⟨(by decide : 0 ≤ sizeLine), ne_nil hpl (by decide) ⟨fun _ => ?_, fun _ => ?_⟩⟩
    · refine callO [.int 4] rfl fun F X hF => ⟨ds, 4, rfl, rfl, hb, by decide, by decide, fun r ds1 a1 a2 hb1 => hF _ _ ?_⟩
      simp -implicitDefEqProofs only [oneK_1, so, nrK_d, eq_i, boolK_1]
      refine way (fun _ => ?_) fun _ => ?_
      · rw [vs_seq, vs_ex]
        simp -implicitDefEqProofs only [vc, gt, st, oneK_1, brK_o (show go [.lst ds1, .lst (tupsD vs)] 1 = some (.lst (tupsD vs)) from rfl), so, wipeR, wipeR.rm, List.getElem?_cons_zero, List.getElem?_cons_succ, List.length_cons, List.length_nil]
        refine ⟨_, rfl, by omega, ?_⟩
        refine compR_inv (fun i acc O => ∃ (ds : List D) (cs : List Int), O = [.lst ds, .brw (tupsD vs)] ∧ BagOk ds ∧ acc = cs.map .int ∧ cs.length = i ∧ ∀ c ∈ cs, c.natAbs ≤ 2) _ [] _ 0 ⟨ds1, [], rfl, hb1, rfl, rfl, (fun c hc => by cases hc)⟩ ?_ ?_
        · rintro i d acc O e ⟨ds, cs, rfl, hb, rfl, hcl, hc⟩ F hF
          simp -implicitDefEqProofs only [bindT, gt, st, oneK_1, nrK_d]
          refine callO [.int 5] rfl fun F' X hF' => ⟨ds, 5, rfl, rfl, hb, by decide, by decide, fun x ds' hx hx2 hb' => hF' _ _ ?_⟩
          simp -implicitDefEqProofs only [oneK_1, nrK_d, sub_i, so]
          refine hF _ _ ⟨ds', cs ++ [x - 2], rfl, hb', int_snoc, by rw [List.length_append, hcl]; simp, fun c hm => ?_⟩
          rcases List.mem_append.mp hm with m | m
          · exact hc c m
          · rw [List.mem_singleton.mp m]; omega
        · rintro acc O ⟨ds2, cs, rfl, hb2, rfl, hcl, hc⟩
          simp -implicitDefEqProofs only [newL, oneK_1, List.getElem?_cons_zero, List.getElem?_cons_succ, unb_2b]
          have hbd : ∀ v ∈ vs, ∀ i, (fn v i).natAbs ≤ Mf j * BB := fun v hm i => fn_le (hv v hm).2 i
          refine callO [.lst (cs.map .int), .int w] (show go [.lst ds2, .lst (tupsD vs)] 1 = some (.lst (tupsD vs)) from rfl) fun F X hF => ⟨vs, cs, w, .o 0, _, rfl, .inr ⟨rfl, rfl⟩, .inl rfl, by omega, hw, fun v hm => by rw [(hv v hm).1]; exact Nat.le_refl _, fun v hm i => Nat.lt_of_le_of_lt (hbd v hm i) m4, fun c hm => Nat.lt_of_le_of_lt (hc c hm) (Nat.lt_of_lt_of_le (by decide : 2 < 2 ^ 2) (Nat.pow_le_pow_right (by decide) (by decide))), hF _ _ ?_⟩
          simp -implicitDefEqProofs only [oneK_1, toK_d, go, so]
          refine ⟨hsz, ?_⟩
          rw [vs_nil]
          dsimp only
          rw [vs_nil]
          refine fin ds2 _ _ hb2 taken_len fun x hx => ?_
          obtain ⟨i, rfl⟩ := taken_mem hx
          refine Nat.le_trans (taken_bd (B := Mf j * BB) (C := 2) (fun v hm => hbd v hm i) hc) ?_
          rw [hvl]
          have e : j * (Mf j * BB * 2) = 2 * j * Mf j * BB := by
            simp only [Nat.mul_assoc, Nat.mul_left_comm, Nat.mul_comm]
          rw [e]
          exact Nat.mul_le_mul_right _ m1
      · rw [vs_seq, vs_ite]
        simp -implicitDefEqProofs only [vc, gt, st, oneK_1, nrK_d, boolK_1, List.getElem?_cons_zero, List.getElem?_cons_succ]
        refine callO [.int 9] rfl fun F X hF => ⟨_, 9, rfl, rfl, hb1, by decide, by decide, fun r2 ds2 a1 a2 hb2 => hF _ _ ?_⟩
        simp -implicitDefEqProofs only [oneK_1, so, nrK_d, eq_i, boolK_1]
        refine way (fun _ => ?_) fun _ => ?_
        · rw [vs_seq, vs_ex]
          simp -implicitDefEqProofs only [vc, gt, st, oneK_1, List.getElem?_cons_zero, List.getElem?_cons_succ]
          refine callO [.int w, .int 4] rfl fun F X hF => ⟨ds2, w, 4, rfl, rfl, hb2, by omega, by decide, by decide, fun r ds3 hr1 hr2 hb3 => hF _ _ ?_⟩
          simp -implicitDefEqProofs only [oneK_1, toK_d, go, so]
          refine ⟨hsz, ?_⟩
          rw [vs_nil]
          dsimp only
          rw [vs_nil]
          dsimp only
          rw [vs_nil]
          exact fin2 ds3 r _ hb3 hr1 hr2
        · rw [vs_seq, vs_ex]
          simp -implicitDefEqProofs only [vc, gt, st, oneK_1, List.getElem?_cons_zero, List.getElem?_cons_succ]
          refine callO [.int w, .int 4] rfl fun F X hF => ⟨ds2, w, 4, rfl, rfl, hb2, by omega, by decide, by decide, fun r ds3 hr1 hr2 hb3 => hF _ _ ?_⟩
          simp -implicitDefEqProofs only [oneK_1, toK_d, go, so]
          refine ⟨hsz, ?_⟩
          rw [vs_nil]
          dsimp only
          rw [vs_nil]
          dsimp only
          rw [vs_nil]
          exact fin2 ds3 r _ hb3 hr1 hr2
    · refine ⟨(fun z => by cases z), fun _ => ?_⟩
      rw [vs_seq, vs_ite]
      simp -implicitDefEqProofs only [vc, gt, st, oneK_1, nrK_d, boolK_1, List.getElem?_cons_zero, List.getElem?_cons_succ]
      refine callO [.int 9] rfl fun F X hF => ⟨_, 9, rfl, rfl, hb, by decide, by decide, fun r2 ds2 a1 a2 hb2 => hF _ _ ?_⟩
      simp -implicitDefEqProofs only [oneK_1, so, nrK_d, eq_i, boolK_1]
      refine way (fun _ => ?_) fun _ => ?_
      · rw [vs_seq, vs_ex]
        simp -implicitDefEqProofs only [vc, gt, st, oneK_1, List.getElem?_cons_zero, List.getElem?_cons_succ]
        refine callO [.int w, .int 4] rfl fun F X hF => ⟨ds2, w, 4, rfl, rfl, hb2, by omega, by decide, by decide, fun r ds3 hr1 hr2 hb3 => hF _ _ ?_⟩
        simp -implicitDefEqProofs only [oneK_1, toK_d, go, so]
        refine ⟨hsz, ?_⟩
        rw [vs_nil]
        dsimp only
        rw [vs_nil]
        dsimp only
        rw [vs_nil]
        exact fin2 ds3 r _ hb3 hr1 hr2
      · rw [vs_seq, vs_ex]
        simp -implicitDefEqProofs only [vc, gt, st, oneK_1, List.getElem?_cons_zero, List.getElem?_cons_succ]
        refine callO [.int w, .int 4] rfl fun F X hF => ⟨ds2, w, 4, rfl, rfl, hb2, by omega, by decide, by decide, fun r ds3 hr1 hr2 hb3 => hF _ _ ?_⟩
        simp -implicitDefEqProofs only [oneK_1, toK_d, go, so]
        refine ⟨hsz, ?_⟩
        rw [vs_nil]
        dsimp only
        rw [vs_nil]
        dsimp only
        rw [vs_nil]
        exact fin2 ds3 r _ hb3 hr1 hr2
  · rintro ρ O ⟨ds, vs, x3, rfl, hb, rfl, hvl, hjp, hv⟩
    rw [Nat.zero_add, List.length_map, List.length_range] at hvl hv
    rw [unb_l2]
    dsimp only
    rw [vs_seq, vs_ret]
    simp -implicitDefEqProofs only [vc, gt, oneK_1, go, so]
    exact ⟨_, rfl, h vs ds (by omega) (fun v hm => ⟨(hv v hm).1, fun x hx => Nat.le_trans ((hv v hm).2 x hx) (Nat.mul_le_mul_right _ (Mf_top hp))⟩) hb⟩
end Z

set_option Elab.async false
set_option linter.all false
set_option maxRecDepth 100000
set_option maxHeartbeats 4000000
namespace Z
open PySem PySem.Spec PyProof.Rows L2
/-! ### each row is the sum that is told -/
def tk : List (List Int) → (Nat → Int) → Nat → Int
  | [], _, _ => 0
  | v :: vs, g, j => fn v j * g 0 + tk vs (fun i => g (i + 1)) j
theorem tk_lin {j : Nat} {t : Int} : ∀ {vs : List (List Int)} {g h : Nat → Int}, tk vs (fun i => g i + t * h i) j = tk vs g j + t * tk vs h j
  | [], _, _ => by rw [tk, tk, tk]; simp
  | v :: vs, g, h => by
    rw [tk, tk, tk, tk_lin (g := fun i => g (i + 1)) (h := fun i => h (i + 1))]
    have h1 : fn v j * (g 0 + t * h 0) = fn v j * g 0 + t * (fn v j * h 0) := by rw [Int.mul_add, Int.mul_left_comm]
    have h2 : t * (fn v j * h 0 + tk vs (fun i => h (i + 1)) j) = t * (fn v j * h 0) + t * tk vs (fun i => h (i + 1)) j := Int.mul_add ..
    omega
theorem tk_congr {j : Nat} : ∀ {vs : List (List Int)} {g h : Nat → Int}, (∀ i, i < vs.length → g i = h i) → tk vs g j = tk vs h j
  | [], _, _, _ => rfl
  | v :: vs, g, h, e => by
    rw [tk, tk, e 0 (Nat.succ_pos _), tk_congr (vs := vs) (g := fun i => g (i + 1)) (h := fun i => h (i + 1)) fun i hi => e (i + 1) (Nat.succ_lt_succ hi)]
theorem tk_zero {j : Nat} : ∀ {vs : List (List Int)}, tk vs (fun _ => 0) j = 0
  | [] => rfl
  | v :: vs => by rw [tk, tk_zero]; simp
theorem tk_one {j : Nat} : ∀ {vs : List (List Int)} {p : Nat} {v : List Int}, vs[p]? = some v → tk vs (fun i => if i = p then 1 else 0) j = fn v j
  | [], _, _, h => by simp at h
  | u :: vs, 0, v, h => by
    cases h
    rw [tk, if_pos rfl, tk_congr (h := fun _ => 0) fun i _ => if_neg (Nat.succ_ne_zero i), tk_zero]
    simp
  | u :: vs, p + 1, v, h => by
    rw [tk, if_neg (Nat.succ_ne_zero p).symm, tk_congr (h := fun i => if i = p then 1 else 0) fun i _ => by simp, tk_one (by simpa using h)]
    simp
theorem tk_zip {j : Nat} : ∀ {vs : List (List Int)} {cs : List Int}, cs.length = vs.length → (List.zipWith (fun v c => fn v j * c) vs cs).sum = tk vs (fn cs) j
  | [], [], _ => rfl
  | [], _ :: _, h => by simp at h
  | _ :: _, [], h => by simp at h
  | v :: vs, c :: cs, h => by
    rw [List.zipWith_cons_cons, List.sum_cons, tk, tk_zip (by simpa using h)]
    rfl
theorem tk_lat {w : Nat} {vs : List (List Int)} (hl : ∀ v ∈ vs, v.length = w) {x : Fn} (h : Lat (fns (exts vs.length vs 0)) x) : ∀ j, j < w → x j = tk vs (fun i => x (w + i)) j := by
  induction h with
  | zero => intro j _; rw [tk_zero]
  | @add x a t _ ha ih =>
    intro j hj
    rw [tk_lin, ← ih j hj]
    obtain ⟨e, he, rfl⟩ := List.mem_map.mp ha
    obtain ⟨p, v, hp, rfl⟩ := exts_mem he
    have hv := hl v (List.mem_of_getElem? hp)
    dsimp only
    rw [fn_app1 (a := v) (j := j) (by omega)]
    congr 2
    rw [tk_congr (h := fun i => if i = p then 1 else 0) fun i hi => by
      show fn _ (w + i) = _
      rw [← hv, fn_app2, fn_unit hi, Nat.zero_add]]
    exact (tk_one hp).symm
theorem fn_drop {b : List Int} {w i : Nat} : fn (b.drop w) i = fn b (w + i) := by
  show (b.drop w).getD i 0 = b.getD (w + i) 0
  rw [List.getD_eq_getElem?_getD, List.getD_eq_getElem?_getD, List.getElem?_drop]
theorem tab_counts {w : Nat} {vs bs : List (List Int)} (hl : ∀ v ∈ vs, v.length = w) (hB : HB w (w + vs.length) (exts vs.length vs 0) bs) {b : List Int} (hb : b ∈ bs) : takenL vs (b.drop w) w = b.take w := by
  have hbl := hB.len b hb
  have hL := hB.over.to _ (List.mem_map.mpr ⟨b, hb, rfl⟩)
  refine List.ext_getElem? fun j => ?_
  by_cases hj : j < w
  · unfold takenL
    rw [List.getElem?_map, List.getElem?_range hj, List.getElem?_take, if_pos hj]
    show some ((List.zipWith (fun v c => fn v j * c) vs (b.drop w)).sum) = _
    rw [tk_zip (j := j) (vs := vs) (cs := b.drop w) (by rw [List.length_drop]; omega), tk_congr (h := fun i => fn b (w + i)) fun i _ => fn_drop, ← tk_lat hl hL j hj]
    show some (b.getD j 0) = _
    rw [List.getD_eq_getElem?_getD, List.getElem?_eq_getElem (by omega)]
    rfl
  · rw [List.getElem?_eq_none (by rw [taken_len]; omega), List.getElem?_eq_none (by rw [List.length_take]; omega)]
/-! ### equal to itself -/
theorem eqvs {ds : List D} : (∀ d ∈ ds, PyData.eqv (toP d) (toP d) = true) → PyData.eqvAll (toPs ds) (toPs ds) = true := by
  induction ds with
  | nil => intro _; rw [toPs, PyData.eqvAll]
  | cons d ds ih =>
    intro h
    rw [toPs, PyData.eqvAll, h d List.mem_cons_self, ih fun e he => h e (List.mem_cons_of_mem _ he)]
    rfl
theorem Pl.eqv {n : Nat} {d : D} (h : Pl n d) : PyData.eqv (toP d) (toP d) = true := by
  induction h with
  | non => rw [toP, PyData.eqv]
  | bl b => rw [toP, PyData.eqv]; simp
  | int i => rw [toP, PyData.eqv]; simp
  | lst _ _ ih => rw [toP, PyData.eqv]; exact eqvs ih
  | tup _ _ ih => rw [toP, PyData.eqv]; exact eqvs ih
theorem eq_self {n : Nat} {ds : List D} {Q : Bool → Prop} (h : Pl n (.lst ds)) (hn : n ≤ 64) (q : Q true) : cmpD .Eq (.lst ds) (.lst ds) Q := by
  refine ⟨h.shp hn, h.shp hn, ?_⟩
  show Q (PyData.eqv (toP (.lst ds)) (toP (.lst ds)))
  rw [h.eqv]
  exact q
end Z

set_option Elab.async false
set_option linter.all false
set_option maxRecDepth 100000
set_option maxHeartbeats 4000000
namespace Z
open PySem PySem.Spec PyProof.Rows L2
def cntZ : ZSp := fun us O Q _ => ∃ (told cs vs : List (List Int)) (w : Nat), ((us = [.d (.lst (tupsD told)), .d (.lst (tupsD cs)), .d (.lst (tupsD vs)), .d (.int w)] ∧ O = []) ∨ (us = [.o 0, .o 1, .d (.lst (tupsD vs)), .d (.int w)] ∧ O = [.lst (tupsD told), .brw (tupsD cs)])) ∧ vs.length ≤ 20 ∧ w ≤ 50 ∧ (∀ v ∈ vs, v.length = w) ∧ (∀ v ∈ vs, ∀ j, (fn v j).natAbs < 2 ^ 131) ∧ cs.length ≤ 20 ∧ (∀ c ∈ cs, c.length = vs.length) ∧ (∀ c ∈ cs, ∀ x ∈ c, x.natAbs < 2 ^ 23000000) ∧ told = cs.map (fun c => takenL vs c w) ∧ Q (.d (.bl true)) O
theorem k_law_counts_so : Keeps [("_law_taken", takenZ), ("_law_is_vector", isvZ)] y__law_counts_so N__law_counts_so.length cntZ := by
  rintro us O Q E ⟨told, cs, vs, w, hu, hvl, hw, hlen, hbv, hcl, hclen, hbc, rfl, h⟩
  obtain ⟨t1, t2, t3, t4, t5, t6, t7, t8, t9, t10, t11, t12, t13, t14⟩ := isi_tab
  have hsz : (tupsD cs).length ≤ sizeLine := by rw [tups_len, sizeLine_eq]; omega
  have htl : (tupsD (cs.map fun c => takenL vs c w)).length = (tupsD cs).length := by rw [tups_len, tups_len, List.length_map]
  have hpl : Pl 2 (.lst (tupsD (cs.map fun c => takenL vs c w))) := pl_tups (by rw [List.length_map]; omega) fun v hv => by
    obtain ⟨c, _, rfl⟩ := List.mem_map.mp hv
    rw [taken_len]; omega
  have e2 : (tupsD cs).map (fun _ => D.bl true) = (cs.map fun _ => true).map .bl := by
    unfold tupsD
    rw [List.map_map, List.map_map]
    rfl
  have one : ∀ (u : U) (O : List DO) (ρ : List (Option U)) (x4 : Option U), gt ρ 2 = some (.d (.lst (tupsD vs))) → gt ρ 3 = some (.d (.int w)) → (∀ r, gt (st ρ 4 r) 2 = gt ρ 2 ∧ gt (st ρ 4 r) 3 = gt ρ 3 ∧ gt (st ρ 4 r) 4 = some r) → ∀ (n : Nat) (G : List D → List DO → Prop), O.length ≤ n → G (tupsD (cs.map fun c => takenL vs c w)) O → compR (.nm 4) yesV (fun ρ O Q => vc [("_law_taken", takenZ), ("_law_is_vector", isvZ)] (.call 0 (.cons (.var 2) (.cons (.var 4) (.cons (.var 3) .nil)))) (fun _ _ => False) ρ O Q) ρ n (tupsD cs) [] O G := fun u O ρ x4 h2 h3 hst n G hn hG => by
    refine compR_map (fun d => tupD (takenL vs (rowOfT d) w)) hn _ (fun d hd F hF => ?_) ?_
    · obtain ⟨c, hc, rfl⟩ := List.mem_map.mp hd
      obtain ⟨g2, g3, g4⟩ := hst (.d (tupD c))
      rw [rowOfT_tup] at hF
      simp -implicitDefEqProofs only [bindT, vc, g2, g3, g4, h2, h3, oneK_1, List.getElem?_cons_zero]
      exact callD0 [.lst (tupsD vs), tupD c, .int w] fun F' X hF' => ⟨vs, c, w, _, _, rfl, .inl ⟨rfl, rfl⟩, .inr rfl, hvl, hw, fun v hv => by rw [hlen v hv]; exact Nat.le_refl _, hbv, hbc c hc, hF' _ hF⟩
    · rw [tups_map fun c => takenL vs c w]
      exact hG
  rcases hu with ⟨rfl, rfl⟩ | ⟨rfl, rfl⟩
  · show vcS _ y__law_counts_so E _ [some (.d (.lst (tupsD (cs.map fun c => takenL vs c w)))), some (.d (.lst (tupsD cs))), some (.d (.lst (tupsD vs))), some (.d (.int w)), none] _
    simp -implicitDefEqProofs only [y__law_counts_so]
    rw [vs_seq, vs_ite]
    simp -implicitDefEqProofs only [vc, gt, st, oneK_1, boolK_1, tyU, tyD, t6, ex_some, nrsK_1, len_l, htl, nrK_d, ne_i]
    refine ⟨(fun z => by cases z), fun _ => ?_⟩
    rw [decide_eq_true trivial]
    refine ⟨(fun z => by cases z), fun _ => ?_⟩
    rw [vs_nil]
    dsimp only
    rw [vs_seq, vs_ite]
    simp -implicitDefEqProofs only [vc, gt, st, oneK_1, brK_d, wipeR, wipeR.rm]
    refine ⟨_, rfl, hsz, ?_⟩
    refine compR_map (fun _ => .bl true) (Nat.le_refl _) _ (fun d hd F hF => ?_) ?_
    · obtain ⟨c, hc, rfl⟩ := List.mem_map.mp hd
      simp -implicitDefEqProofs only [bindT, gt, st, oneK_1, nrsK_1, len_l, tups_len, List.getElem?_cons_zero, List.getElem?_cons_succ]
      exact callD0 [tupD c, .int vs.length] fun F' X hF' => ⟨c, by rw [hclen c hc]; rfl, rfl, by rw [hclen c hc]; omega, hF' _ hF⟩
    simp -implicitDefEqProofs only [newL, unb_self, oneK_1, nrsK_1]
    rw [e2]
    refine all_l ?_
    rw [trues]
    simp -implicitDefEqProofs only [boolK_1, Bool.not_true]
    refine ⟨(fun z => by cases z), fun _ => ?_⟩
    rw [vs_nil]
    dsimp only
    rw [vs_seq, vs_ret]
    simp -implicitDefEqProofs only [vc, gt, st, oneK_1, brK_d, wipeR, wipeR.rm]
    refine ⟨_, rfl, hsz, one (.d .non) _ _ none rfl rfl (fun _ => ⟨rfl, rfl, rfl⟩) _ _ (Nat.le_refl _) ?_⟩
    simp -implicitDefEqProofs only [newL, unb_self, oneK_1, nrK_d]
    exact eq_self hpl (by decide) h
  · show vcS _ y__law_counts_so E _ [some (.o 0), some (.o 1), some (.d (.lst (tupsD vs))), some (.d (.int w)), none] _
    have e0 : nrm [.lst (tupsD (cs.map fun c => takenL vs c w)), .brw (tupsD cs)] (.o 0) = some (.lst (tupsD (cs.map fun c => takenL vs c w))) := rfl
    have e1 : nrm [.lst (tupsD (cs.map fun c => takenL vs c w)), .brw (tupsD cs)] (.o 1) = some (.lst (tupsD cs)) := rfl
    have ety : tyU [.lst (tupsD (cs.map fun c => takenL vs c w)), .brw (tupsD cs)] (.o 1) = some "list" := rfl
    have ebr : ∀ k, brK [.lst (tupsD (cs.map fun c => takenL vs c w)), .brw (tupsD cs)] (.o 1) k = k (.lst (tupsD cs)) [.lst (tupsD (cs.map fun c => takenL vs c w)), .brw (tupsD cs)] := fun _ => rfl
    simp -implicitDefEqProofs only [y__law_counts_so]
    rw [vs_seq, vs_ite]
    simp -implicitDefEqProofs only [vc, gt, st, oneK_1, boolK_1, ety, t6, ex_some, nrsK_o e0, nrsK_o e1, len_l, htl, nrK_d, ne_i]
    refine ⟨(fun z => by cases z), fun _ => ?_⟩
    rw [decide_eq_true trivial]
    refine ⟨(fun z => by cases z), fun _ => ?_⟩
    rw [vs_nil]
    dsimp only
    rw [vs_seq, vs_ite]
    simp -implicitDefEqProofs only [vc, gt, st, oneK_1, ebr, wipeR, wipeR.rm]
    refine ⟨_, rfl, hsz, ?_⟩
    refine compR_map (fun _ => .bl true) (Nat.le_refl _) _ (fun d hd F hF => ?_) ?_
    · obtain ⟨c, hc, rfl⟩ := List.mem_map.mp hd
      simp -implicitDefEqProofs only [bindT, gt, st, oneK_1, nrsK_1, len_l, tups_len, List.getElem?_cons_zero, List.getElem?_cons_succ]
      exact callD0 [tupD c, .int vs.length] fun F' X hF' => ⟨c, by rw [hclen c hc]; rfl, rfl, by rw [hclen c hc]; omega, hF' _ hF⟩
    simp -implicitDefEqProofs only [newL, unb_self, oneK_1, nrsK_1]
    rw [e2]
    refine all_l ?_
    rw [trues]
    simp -implicitDefEqProofs only [boolK_1, Bool.not_true]
    refine ⟨(fun z => by cases z), fun _ => ?_⟩
    rw [vs_nil]
    dsimp only
    rw [vs_seq, vs_ret]
    simp -implicitDefEqProofs only [vc, gt, st, oneK_1, ebr, wipeR, wipeR.rm]
    refine ⟨_, rfl, hsz, one (.d .non) _ _ none rfl rfl (fun _ => ⟨rfl, rfl, rfl⟩) _ _ (Nat.le_refl _) ?_⟩
    simp -implicitDefEqProofs only [newL, unb_self, oneK_1, nrK_d, nrK_lst0]
    exact eq_self hpl (by decide) h
end Z

set_option Elab.async false
set_option linter.all false
set_option maxRecDepth 100000
set_option maxHeartbeats 4000000
namespace Z
open PySem PySem.Spec PyProof.Rows L2
/-! ### other rows of the same lattice -/
def negL (r : List Int) : List Int := r.map fun x => -x
theorem fn_negL (r : List Int) : fn (negL r) = fun j => -1 * fn r j := funext fun j => by
  show (r.map fun x => -x).getD j 0 = -1 * r.getD j 0
  rw [List.getD_eq_getElem?_getD, List.getD_eq_getElem?_getD, List.getElem?_map]
  cases r[j]? with
  | none => rfl
  | some x => show -x = -1 * x; omega
theorem lat_neg {A : List Fn} {r : List Int} : (Lat A (fn r) → Lat A (fn (negL r))) ∧ (Lat A (fn (negL r)) → Lat A (fn r)) := by
  rw [fn_negL]
  exact ⟨fun h => h.smul (-1), fun h => (h.smul (-1)).eq fun j => by omega⟩
theorem fn_taken {vs : List (List Int)} {cs : List Int} {w : Nat} (hl : ∀ v ∈ vs, v.length = w) : fn (takenL vs cs w) = fun j => (List.zipWith (fun v c => fn v j * c) vs cs).sum := funext fun j => by
  by_cases hj : j < w
  · show (takenL vs cs w).getD j 0 = _
    unfold takenL
    rw [List.getD_eq_getElem?_getD, List.getElem?_map, List.getElem?_range hj]
    rfl
  · rw [fn_out (by rw [taken_len]; omega)]
    have : ∀ (vs : List (List Int)) (cs : List Int), (∀ v ∈ vs, v.length = w) → (List.zipWith (fun v c => fn v j * c) vs cs).sum = 0 := by
      intro vs
      induction vs with
      | nil => intro cs _; rfl
      | cons v vs ih =>
        intro cs h
        cases cs with
        | nil => rfl
        | cons c cs =>
          rw [List.zipWith_cons_cons, List.sum_cons, ih cs fun u hu => h u (List.mem_cons_of_mem _ hu), fn_out (by rw [h v List.mem_cons_self]; omega)]
          simp
    exact (this vs cs hl).symm
theorem taken_lat {w : Nat} {vs : List (List Int)} {cs : List Int} (hl : ∀ v ∈ vs, v.length = w) : Lat (fns vs) (fn (takenL vs cs w)) := by
  rw [fn_taken hl]
  clear hl
  induction vs generalizing cs with
  | nil => exact Lat.zero
  | cons v vs ih =>
    cases cs with
    | nil => exact Lat.zero
    | cons c cs =>
      refine (((ih (cs := cs)).mono fun a ha => List.mem_cons_of_mem _ ha).add c (a := fn v) List.mem_cons_self).eq fun j => ?_
      rw [List.zipWith_cons_cons, List.sum_cons, Int.mul_comm c, Int.add_comm]
structure Oth (w : Nat) (vs fs : List (List Int)) (B : Nat) : Prop where
  len : ∀ f ∈ fs, f.length = w
  bd : ∀ f ∈ fs, ∀ x ∈ f, x.natAbs ≤ B
  to : ∀ f ∈ fs, Lat (fns vs) (fn f)
  back : ∀ v ∈ vs, Lat (fns fs) (fn v)
theorem mem_fns {fs : List (List Int)} {f : List Int} (h : f ∈ fs) : fn f ∈ fns fs := List.mem_map.mpr ⟨f, h, rfl⟩
theorem fns_mono {fs gs : List (List Int)} (h : ∀ f ∈ fs, f ∈ gs) {x : Fn} (hx : Lat (fns fs) x) : Lat (fns gs) x := hx.mono fun a ha => by
  obtain ⟨f, hf, rfl⟩ := List.mem_map.mp ha
  exact mem_fns (h f hf)
theorem Oth.nil {w B : Nat} : Oth w [] [] B := ⟨(fun f h => by cases h), (fun f h => by cases h), (fun f h => by cases h), (fun f h => by cases h)⟩
/-- a row as it is, or turned -/
theorem Oth.snoc {w B : Nat} {vs fs : List (List Int)} {v f : List Int} (h : Oth w vs fs B) (hf : f = v ∨ f = negL v) (hl : v.length = w) (hb : ∀ x ∈ v, x.natAbs ≤ B) : Oth w (vs ++ [v]) (fs ++ [f]) B := by
  have hv : Lat (fns (vs ++ [v])) (fn v) := .mem (mem_fns (List.mem_append_right _ List.mem_cons_self))
  have hf2 : Lat (fns (fs ++ [f])) (fn f) := .mem (mem_fns (List.mem_append_right _ List.mem_cons_self))
  refine ⟨fun g hg => ?_, fun g hg => ?_, fun g hg => ?_, fun g hg => ?_⟩
  · rcases List.mem_append.mp hg with m | m
    · exact h.len g m
    · rw [List.mem_singleton.mp m]
      rcases hf with rfl | rfl
      · exact hl
      · unfold negL; rw [List.length_map]; exact hl
  · rcases List.mem_append.mp hg with m | m
    · exact h.bd g m
    · rw [List.mem_singleton.mp m]
      rcases hf with rfl | rfl
      · exact hb
      · intro x hx
        obtain ⟨y, hy, rfl⟩ := List.mem_map.mp hx
        rw [Int.natAbs_neg]
        exact hb y hy
  · rcases List.mem_append.mp hg with m | m
    · exact fns_mono (fun a ha => List.mem_append_left _ ha) (h.to g m)
    · rw [List.mem_singleton.mp m]
      rcases hf with rfl | rfl
      · exact hv
      · exact lat_neg.1 hv
  · rcases List.mem_append.mp hg with m | m
    · exact fns_mono (fun a ha => List.mem_append_left _ ha) (h.back g m)
    · rw [List.mem_singleton.mp m]
      rcases hf with rfl | rfl
      · exact hf2
      · exact lat_neg.2 hf2
/-- a row less so many times another one -/
theorem Oth.set {w B t p : Nat} {vs fs : List (List Int)} {a b : List Int} {s : Int} (h : Oth w vs fs B) (ha : fs[t]? = some a) (hb : fs[p]? = some b) (hne : p ≠ t) (hs : s.natAbs ≤ 2) : Oth w vs (fs.set t (lessL a b s)) (3 * B) := by
  have ham := List.mem_of_getElem? ha
  have hbm := List.mem_of_getElem? hb
  have hlab : a.length = b.length := by rw [h.len a ham, h.len b hbm]
  have hr : fn (lessL a b s) = fun j => fn a j + -s * fn b j := by rw [fn_less _ _ _ hlab, lessF_eq]
  have htl := (List.getElem?_eq_some_iff.mp ha).1
  have mem : ∀ g ∈ fs.set t (lessL a b s), g ∈ fs ∨ g = lessL a b s := fun g hg => List.mem_or_eq_of_mem_set hg
  refine ⟨fun g hg => ?_, fun g hg x hx => ?_, fun g hg => ?_, fun v hv => ?_⟩
  · rcases mem g hg with m | rfl
    · exact h.len g m
    · rw [less_len hlab]; exact h.len a ham
  · rcases mem g hg with m | rfl
    · have := h.bd g m x hx; omega
    · obtain ⟨i, hi, rfl⟩ := fn_mem hx
      rw [hr]
      have h1 := fn_le (h.bd a ham) i
      have h2 := fn_le (h.bd b hbm) i
      have h3 : (-s * fn b i).natAbs ≤ 2 * B := by
        rw [Int.natAbs_mul, Int.natAbs_neg]
        exact Nat.mul_le_mul hs h2
      show (fn a i + -s * fn b i).natAbs ≤ _
      omega
  · rcases mem g hg with m | rfl
    · exact h.to g m
    · rw [hr]
      exact (h.to a ham).comb (-s) (h.to b hbm)
  · refine (h.back v hv).sub fun c hc => ?_
    obtain ⟨f, hf, rfl⟩ := List.mem_map.mp hc
    obtain ⟨i, hi, rfl⟩ := List.mem_iff_getElem.mp hf
    have m1 : Lat (fns (fs.set t (lessL a b s))) (fn (lessL a b s)) := .mem (mem_fns (List.mem_of_getElem? (i := t) (by rw [List.getElem?_set_self htl])))
    have m2 : Lat (fns (fs.set t (lessL a b s))) (fn b) := .mem (mem_fns (List.mem_of_getElem? (i := p) (by rw [List.getElem?_set_ne (Ne.symm hne)]; exact hb)))
    by_cases q : i = t
    · subst q
      have ea : fs[i] = a := (List.getElem?_eq_some_iff.mp ha).2
      rw [ea]
      refine (m1.comb s m2).eq fun j => ?_
      rw [hr]
      show fn a j + -s * fn b j + s * fn b j = fn a j
      rw [Int.neg_mul]
      omega
    · exact .mem (mem_fns (List.mem_of_getElem? (i := i) (by rw [List.getElem?_set_ne (Ne.symm q)]; exact List.getElem?_eq_getElem hi)))
theorem by_ne {m t r : Int} (hm : 2 ≤ m) (t0 : 0 ≤ t) (t1 : t < m) (r0 : 0 ≤ r) (r1 : r < m - 1) : 0 ≤ (t + 1 + r).fmod m ∧ (t + 1 + r).fmod m < m ∧ (t + 1 + r).fmod m ≠ t := by
  refine ⟨Int.fmod_nonneg_of_pos _ (by omega), Int.fmod_lt_of_pos _ (by omega), ?_⟩
  rw [Int.fmod_eq_emod_of_nonneg _ (by omega)]
  by_cases q : t + 1 + r < m
  · rw [Int.emod_eq_of_lt (by omega) q]
    omega
  · have e : t + 1 + r = (t + 1 + r - m) + m := by omega
    rw [e, Int.add_emod_right, Int.emod_eq_of_lt (by omega) (by omega)]
    omega
end Z

set_option Elab.async false
set_option linter.all false
set_option maxRecDepth 100000
set_option maxHeartbeats 4000000
namespace Z
open PySem PySem.Spec PyProof.Rows L2
theorem add_l {a b : List D} {Q : D → Prop} : binD .Add (.lst a) (.lst b) Q = (a.length + b.length ≤ sizeLine ∧ Q (.lst (a ++ b))) := rfl
theorem vs_seti {Γ : List (Str × ZSp)} {E : ZX} {D : ZD} {ρ : List (Option U)} {O : List DO} {o ix y : Y} : vcS Γ (.seti o ix y) E D ρ O = vc Γ y E ρ O fun us O1 => oneK us fun u => vc Γ o E ρ O1 fun rs O2 => oneK rs fun r => vc Γ ix E ρ O2 fun ks O3 => oneK ks fun kx => match r, kx with
    | .o k, .d (.int i) => (match go O3 k with
      | some (.lst ds) => toK O3 u fun x => ∃ j, ixN ds.length i = some j ∧ D.nx ρ (so O3 k (.lst (ds.set j x)))
      | _ => False)
    | _, _ => False := rfl
def BR : Nat := 384 * BB
theorem Oth.mono {w B C : Nat} {vs fs : List (List Int)} (h : Oth w vs fs B) (l : B ≤ C) : Oth w vs fs C := ⟨h.len, fun f hf x hx => Nat.le_trans (h.bd f hf x hx) l, h.to, h.back⟩
theorem Oth.perm {w B : Nat} {vs fs gs : List (List Int)} (h : Oth w vs fs B) (e : ∀ x, x ∈ gs ↔ x ∈ fs) : Oth w vs gs B :=
  ⟨fun f hf => h.len f ((e f).mp hf), fun f hf => h.bd f ((e f).mp hf), fun f hf => h.to f ((e f).mp hf), fun v hv => fns_mono (fun a ha => (e a).mpr ha) (h.back v hv)⟩
theorem Oth.more {w B k : Nat} {vs fs : List (List Int)} {cs : List Int} (h : Oth w vs fs B) (hl : fs.length ≤ 6) (hc : ∀ c ∈ cs, c.natAbs ≤ 1) : Oth w vs (fs ++ [takenL fs cs w].take k) (6 * B) := by
  have hm : ∀ g ∈ fs ++ [takenL fs cs w].take k, g ∈ fs ∨ g = takenL fs cs w := fun g hg => by
    rcases List.mem_append.mp hg with m | m
    · exact .inl m
    · exact .inr (List.mem_singleton.mp (List.mem_of_mem_take m))
  refine ⟨fun g hg => ?_, fun g hg x hx => ?_, fun g hg => ?_, fun v hv => fns_mono (fun a ha => List.mem_append_left _ ha) (h.back v hv)⟩
  · rcases hm g hg with m | rfl
    · exact h.len g m
    · exact taken_len
  · rcases hm g hg with m | rfl
    · have := h.bd g m x hx; omega
    · obtain ⟨i, rfl⟩ := taken_mem hx
      have := taken_bd (B := B) (C := 1) (j := i) (fun v hm => fn_le (h.bd v hm) i) hc
      have h2 := Nat.mul_le_mul_right (B * 1) hl
      omega
  · rcases hm g hg with m | rfl
    · exact h.to g m
    · exact (taken_lat h.len).sub fun c hc => by
        obtain ⟨f, hf, rfl⟩ := List.mem_map.mp hc
        exact h.to f hf
def othZ : ZSp := fun us O Q _ => ∃ (ds : List D) (vs : List (List Int)) (w : Nat), us = [.o 0, .d (.lst (tupsD vs)), .d (.int w)] ∧ O = [.lst ds] ∧ BagOk ds ∧ vs.length ≤ 6 ∧ w ≤ 50 ∧ (∀ v ∈ vs, v.length = w ∧ ∀ x ∈ v, x.natAbs ≤ BR) ∧ ∀ fs ds', fs.length ≤ 7 → Oth w vs fs (54 * BR) → BagOk ds' → Q (.d (.lst (tupsD fs))) [.lst ds']
theorem tups_set {fs : List (List Int)} {t : Nat} {r : List Int} : (tupsD fs).set t (tupD r) = tupsD (fs.set t r) := by
  unfold tupsD
  rw [List.map_set]
theorem k_law_other_rows : KeepsD [("_law_mixed", mixedZ), ("_law_taken", takenZ), ("_law_draw", drawZ), ("_law_less", llessZ)] y__law_other_rows N__law_other_rows.length othZ := by
  rintro us O Q E ⟨ds, vs, w, rfl, rfl, hb, hvl, hw, hv, h⟩
  show vcS _ y__law_other_rows E _ [some (.o 0), some (.d (.lst (tupsD vs))), some (.d (.int w)), none, none, none, none, none, none] _
  simp -implicitDefEqProofs only [y__law_other_rows]
  rw [vs_seq, vs_set]
  simp -implicitDefEqProofs only [vc, gt, st, oneK_1, brK_d, wipeR, wipeR.rm, List.length_cons, List.length_nil, List.getElem?_cons_zero, List.getElem?_cons_succ]
  refine ⟨_, rfl, by rw [tups_len, sizeLine_eq]; omega, ?_⟩
  refine compR_inv (fun i acc O => ∃ (ds : List D) (fs : List (List Int)), O = [.lst ds] ∧ BagOk ds ∧ acc = tupsD fs ∧ fs.length = i ∧ Oth w (vs.take i) fs BR) _ [] _ 0 ⟨ds, [], rfl, hb, rfl, rfl, Oth.nil⟩ ?_ ?_
  · rintro j d acc O e ⟨ds, fs, rfl, hb, rfl, hfl, hO⟩ F hF
    unfold tupsD at e
    rw [List.getElem?_map] at e
    cases q : vs[j]? with
    | none => rw [q] at e; cases e
    | some v =>
    rw [q] at e
    cases e
    rw [Nat.zero_add] at hO hfl
    rw [show 0 + j + 1 = j + 1 by omega] at hF
    have hvm := hv v (List.mem_of_getElem? q)
    have htk : vs.take (j + 1) = vs.take j ++ [v] := by rw [List.take_succ, q]; rfl
    rw [htk] at hF
    simp -implicitDefEqProofs only [bindT, gt, st]
    refine callO [.int 2] rfl fun F' X hF' => ⟨ds, 2, rfl, rfl, hb, by decide, by decide, fun r ds' a1 a2 hb' => hF' _ _ ?_⟩
    simp -implicitDefEqProofs only [oneK_1, so, nrK_d, eq_i, boolK_1]
    refine way (fun _ => ?_) fun _ => ?_
    · exact hF _ _ ⟨ds', fs ++ [v], rfl, hb', tups_snoc, by rw [List.length_append, hfl]; rfl, hO.snoc (.inl rfl) hvm.1 hvm.2⟩
    · simp -implicitDefEqProofs only [tupD, brK_d]
      refine ⟨_, rfl, by rw [List.length_map, hvm.1, sizeLine_eq]; omega, ?_⟩
      refine compR_map (fun d => match d with
        | .int i => .int (-i)
        | _ => .non) (Nat.le_refl _) _ (fun d hd F hF => ?_) ?_
      · obtain ⟨y, hy, rfl⟩ := List.mem_map.mp hd
        simp -implicitDefEqProofs only [bindT, gt, st, oneK_1, nrK_d]
        exact hF
      · simp -implicitDefEqProofs only [newL, unb_self, oneK_1, nrsK_1, tuple_l]
        have e : (v.map D.int).map (fun d => match d with
          | .int i => D.int (-i)
          | _ => .non) = (negL v).map .int := by
          unfold negL
          rw [List.map_map, List.map_map]
          rfl
        rw [e]
        exact hF _ _ ⟨ds', fs ++ [negL v], rfl, hb', tups_snoc, by rw [List.length_append, hfl]; rfl, hO.snoc (.inr rfl) hvm.1 hvm.2⟩
  · rintro acc O ⟨ds, fs, rfl, hb, rfl, hfl, hO⟩
    rw [Nat.zero_add, tups_len] at hfl hO
    rw [List.take_length] at hO
    have eu : unb [.lst ds] [.lst ds] = [.lst ds] := rfl
    simp -implicitDefEqProofs only [newL, unb_l1, oneK_1, List.length_cons, List.length_nil, List.cons_append, List.nil_append, Nat.zero_add]
    rw [vs_seq, vs_for]
    have e1 : ∀ (a : List D), nrm [.lst a, .lst (tupsD fs)] (.o 1) = some (.lst (tupsD fs)) := fun _ => rfl
    simp -implicitDefEqProofs only [vc, gt, st, oneK_1, nrsK_o (e1 _), len_l, tups_len, nrK_d, gt_i, boolK_1, List.getElem?_cons_zero, List.getElem?_cons_succ]
    refine way (fun h1 => ?_) fun h1 => ?_
    · refine callO [.int 3] rfl fun F X hF => ⟨_, 3, rfl, rfl, hb, by decide, by decide, fun r ds1 a1 a2 hb1 => hF _ _ ?_⟩
      simp -implicitDefEqProofs only [oneK_1, so, nrK_d]
      refine ⟨⟨by omega, by omega⟩, _, rfl, ?_⟩
      generalize hpp : r.toNat = p
      have hp : p ≤ 2 := by omega
      have hp1 : p ≠ 0 → 2 ≤ vs.length := fun _ => by omega
      refine forR_inv (fun i ρ O => ∃ (ds : List D) (gs : List (List Int)) (x4 x5 x6 : Option U), O = [.lst ds, .lst (tupsD gs)] ∧ BagOk ds ∧ ρ = [some (.o 0), some (.d (.lst (tupsD vs))), some (.d (.int w)), some (.o 1), x4, x5, x6, none, none] ∧ gs.length = vs.length ∧ Oth w vs gs (3 ^ i * BR)) _ _ _ 0 ⟨_, fs, none, none, none, rfl, hb1, rfl, hfl, by rw [Nat.pow_zero, Nat.one_mul]; exact hO⟩ ?_ ?_
      · rintro j d ρ O e ⟨ds, gs, x4, x5, x6, rfl, hb, rfl, hgl, hG⟩ N hN
        obtain ⟨hj, rfl⟩ := rng_at e
        have h2 := hp1 (by omega)
        rw [Nat.zero_add] at hG
        rw [show 0 + j + 1 = j + 1 by omega] at hN
        have e1 : ∀ (a : List D), nrm [.lst a, .lst (tupsD gs)] (.o 1) = some (.lst (tupsD gs)) := fun _ => rfl
        simp -implicitDefEqProofs only [bindT, gt, st]
        rw [vs_seq, vs_set]
        simp -implicitDefEqProofs only [vc, gt, st, oneK_1, nrsK_o (e1 _), len_l, tups_len, List.getElem?_cons_zero, List.getElem?_cons_succ]
        refine callO [.int gs.length] rfl fun F X hF => ⟨ds, gs.length, rfl, rfl, hb, by omega, by omega, fun t ds2 t0 t1 hb2 => hF _ _ ?_⟩
        simp -implicitDefEqProofs only [oneK_1, so]
        rw [vs_seq, vs_set]
        simp -implicitDefEqProofs only [vc, gt, st, oneK_1, nrK_d, add_i, sub_i, nrsK_o (e1 _), len_l, tups_len, List.getElem?_cons_zero, List.getElem?_cons_succ]
        refine callO [.int ((gs.length : Int) - 1)] rfl fun F X hF => ⟨ds2, _, rfl, rfl, hb2, by omega, by omega, fun r ds3 r0 r1 hb3 => hF _ _ ?_⟩
        simp -implicitDefEqProofs only [oneK_1, so, nrK_d, add_i, nrsK_1, int_i, nrsK_o (e1 _), len_l, tups_len, mod_i]
        refine ⟨by omega, ?_⟩
        obtain ⟨b0, b1, b2⟩ := by_ne (m := gs.length) (t := t) (r := r) (by omega) t0 t1 r0 r1
        generalize (t + 1 + r).fmod gs.length = bb at b0 b1 b2 ⊢
        obtain ⟨tn, rfl⟩ := Int.eq_ofNat_of_zero_le t0
        obtain ⟨pn, rfl⟩ := Int.eq_ofNat_of_zero_le b0
        obtain ⟨a, ha⟩ : ∃ a, gs[tn]? = some a := ⟨_, List.getElem?_eq_getElem (by omega)⟩
        obtain ⟨b, hbb⟩ : ∃ b, gs[pn]? = some b := ⟨_, List.getElem?_eq_getElem (by omega)⟩
        have hal := hG.len a (List.mem_of_getElem? ha)
        have hbl := hG.len b (List.mem_of_getElem? hbb)
        rw [vs_seq, vs_seti]
        simp -implicitDefEqProofs only [vc, gt, st, oneK_1, nrK_d, nrK_lst1, ix_l, tups_at ha, tups_at hbb, ex_some, List.getElem?_cons_zero, List.getElem?_cons_succ]
        refine callO [.int 5] rfl fun F X hF => ⟨ds3, 5, rfl, rfl, hb3, by decide, by decide, fun s ds4 s0 s1 hb4 => hF _ _ ?_⟩
        simp -implicitDefEqProofs only [oneK_1, so, nrK_d, sub_i]
        refine callD0 [tupD a, tupD b, .int (s - 2)] fun F X hF => ⟨a, b, s - 2, _, rfl, rfl, .inr rfl, by omega, by omega, fun z _ => mulOk_l (by omega) (by omega), hF _ ?_⟩
        simp -implicitDefEqProofs only [oneK_1, nrsK_1, tuple_l, toK_d, go, so]
        refine ⟨tn, ixN_nat (by rw [tups_len]; omega), ?_⟩
        rw [vs_nil]
        refine hN _ _ ⟨ds4, gs.set tn (lessL a b (s - 2)), _, _, _, by rw [← tups_set]; rfl, hb4, rfl, by rw [List.length_set]; exact hgl, ?_⟩
        have := hG.set ha hbb (by omega) (by omega : (s - 2).natAbs ≤ 2)
        rw [Nat.pow_succ, Nat.mul_comm (3 ^ j), Nat.mul_assoc]
        exact this
      · rintro ρ O ⟨ds, gs, x4, x5, x6, rfl, hb, rfl, hgl, hG⟩
        rw [Nat.zero_add, List.length_map, List.length_range] at hG
        have hG9 : Oth w vs gs (9 * BR) := hG.mono (Nat.mul_le_mul_right _ (by
          have := Nat.pow_le_pow_right (n := 3) (by decide) hp
          omega))
        rw [unb_l2]
        dsimp only
        rw [vs_seq, vs_ret]
        simp -implicitDefEqProofs only [vc, gt, st, oneK_1, brK_o (show go [.lst ds, .lst (tupsD gs)] 1 = some (.lst (tupsD gs)) from rfl), so, wipeR, wipeR.rm, List.getElem?_cons_zero, List.getElem?_cons_succ, List.length_cons, List.length_nil]
        refine ⟨_, rfl, by rw [tups_len, sizeLine_eq]; omega, ?_⟩
        refine compR_inv (fun i acc O => ∃ (ds : List D) (cs : List Int), O = [.lst ds, .brw (tupsD gs)] ∧ BagOk ds ∧ acc = cs.map .int ∧ cs.length = i ∧ ∀ c ∈ cs, c.natAbs ≤ 1) _ [] _ 0 ⟨ds, [], rfl, hb, rfl, rfl, (fun c hc => by cases hc)⟩ ?_ ?_
        · rintro i d acc O e ⟨ds, cs, rfl, hb, rfl, hcl, hc⟩ F hF
          simp -implicitDefEqProofs only [bindT, gt, st, oneK_1, nrK_d]
          refine callO [.int 3] rfl fun F' X hF' => ⟨ds, 3, rfl, rfl, hb, by decide, by decide, fun x ds' hx hx2 hb' => hF' _ _ ?_⟩
          simp -implicitDefEqProofs only [oneK_1, nrK_d, sub_i, so]
          refine hF _ _ ⟨ds', cs ++ [x - 1], rfl, hb', int_snoc, by rw [List.length_append, hcl]; simp, fun c hm => ?_⟩
          rcases List.mem_append.mp hm with m | m
          · exact hc c m
          · rw [List.mem_singleton.mp m]; omega
        · rintro acc O ⟨ds2, cs, rfl, hb2, rfl, hcl, hc⟩
          simp -implicitDefEqProofs only [newL, oneK_1, List.getElem?_cons_zero, List.getElem?_cons_succ, unb_2b]
          have hBR : 9 * BR < 2 ^ 131 := by decide
          have hgl6 : gs.length ≤ 6 := by omega
          refine callO [.lst (cs.map .int), .int w] (show go [.lst ds2, .lst (tupsD gs)] 1 = some (.lst (tupsD gs)) from rfl) fun F X hF => ⟨gs, cs, w, .o 0, _, rfl, .inr ⟨rfl, rfl⟩, .inl rfl, by omega, hw, fun v hm => by rw [hG9.len v hm]; exact Nat.le_refl _, fun v hm i => Nat.lt_of_le_of_lt (fn_le (hG9.bd v hm) i) hBR, fun c hm => Nat.lt_of_le_of_lt (hc c hm) (Nat.lt_of_lt_of_le (by decide : 1 < 2 ^ 1) (Nat.pow_le_pow_right (by decide) (by decide))), hF _ _ ?_⟩
          simp -implicitDefEqProofs only [oneK_1, tosK_1, newL, partK, so]
          refine ⟨(by decide : 1 ≤ sizeLine), ?_⟩
          refine callO [.int 2] rfl fun F X hF => ⟨ds2, 2, rfl, rfl, hb2, by decide, by decide, fun r ds3 r0 r1 hb3 => hF _ _ ?_⟩
          obtain ⟨k, rfl⟩ := Int.eq_ofNat_of_zero_le r0
          have hk : k ≤ 1 := by omega
          have ecut : cutL [tupD (takenL gs cs w)] none (some (k : Int)) = tupsD ([takenL gs cs w].take k) := by
            rw [cut_to _ (by show k ≤ 1; exact hk)]
            unfold tupsD
            rw [List.map_take]
            rfl
          simp -implicitDefEqProofs only [oneK_1, partK, so, nrK_d, nrK_lst1, slD, ecut, add_l]
          have eapp : tupsD gs ++ tupsD ([takenL gs cs w].take k) = tupsD (gs ++ [takenL gs cs w].take k) := by
            unfold tupsD
            rw [List.map_append]
          have hal : (gs ++ [takenL gs cs w].take k).length ≤ 7 := by
            rw [List.length_append, List.length_take]
            simp only [List.length_cons, List.length_nil]
            omega
          rw [eapp]
          refine ⟨?_, ?_⟩
          · rw [← List.length_append, eapp, tups_len, sizeLine_eq]
            omega
          refine callO [.lst (tupsD (gs ++ [takenL gs cs w].take k))] rfl fun F X hF => ⟨ds3, _, rfl, rfl, hb3, by omega, fun ws ds4 hm hwl hb4 => hF _ _ ?_⟩
          refine ⟨_, rfl, h ws ds4 (by omega) (((hG9.more hgl6 hc).perm hm).mono (by omega)) hb4⟩
    · refine ⟨⟨by omega, by omega⟩, _, rfl, ?_⟩
      generalize hpp : Int.toNat 0 = p
      have hp : p ≤ 2 := by omega
      have hp1 : p ≠ 0 → 2 ≤ vs.length := fun z => absurd hpp.symm z
      have hb1 := hb
      refine forR_inv (fun i ρ O => ∃ (ds : List D) (gs : List (List Int)) (x4 x5 x6 : Option U), O = [.lst ds, .lst (tupsD gs)] ∧ BagOk ds ∧ ρ = [some (.o 0), some (.d (.lst (tupsD vs))), some (.d (.int w)), some (.o 1), x4, x5, x6, none, none] ∧ gs.length = vs.length ∧ Oth w vs gs (3 ^ i * BR)) _ _ _ 0 ⟨_, fs, none, none, none, rfl, hb1, rfl, hfl, by rw [Nat.pow_zero, Nat.one_mul]; exact hO⟩ ?_ ?_
      · rintro j d ρ O e ⟨ds, gs, x4, x5, x6, rfl, hb, rfl, hgl, hG⟩ N hN
        obtain ⟨hj, rfl⟩ := rng_at e
        have h2 := hp1 (by omega)
        rw [Nat.zero_add] at hG
        rw [show 0 + j + 1 = j + 1 by omega] at hN
        have e1 : ∀ (a : List D), nrm [.lst a, .lst (tupsD gs)] (.o 1) = some (.lst (tupsD gs)) := fun _ => rfl
        simp -implicitDefEqProofs only [bindT, gt, st]
        rw [vs_seq, vs_set]
        simp -implicitDefEqProofs only [vc, gt, st, oneK_1, nrsK_o (e1 _), len_l, tups_len, List.getElem?_cons_zero, List.getElem?_cons_succ]
        refine callO [.int gs.length] rfl fun F X hF => ⟨ds, gs.length, rfl, rfl, hb, by omega, by omega, fun t ds2 t0 t1 hb2 => hF _ _ ?_⟩
        simp -implicitDefEqProofs only [oneK_1, so]
        rw [vs_seq, vs_set]
        simp -implicitDefEqProofs only [vc, gt, st, oneK_1, nrK_d, add_i, sub_i, nrsK_o (e1 _), len_l, tups_len, List.getElem?_cons_zero, List.getElem?_cons_succ]
        refine callO [.int ((gs.length : Int) - 1)] rfl fun F X hF => ⟨ds2, _, rfl, rfl, hb2, by omega, by omega, fun r ds3 r0 r1 hb3 => hF _ _ ?_⟩
        simp -implicitDefEqProofs only [oneK_1, so, nrK_d, add_i, nrsK_1, int_i, nrsK_o (e1 _), len_l, tups_len, mod_i]
        refine ⟨by omega, ?_⟩
        obtain ⟨b0, b1, b2⟩ := by_ne (m := gs.length) (t := t) (r := r) (by omega) t0 t1 r0 r1
        generalize (t + 1 + r).fmod gs.length = bb at b0 b1 b2 ⊢
        obtain ⟨tn, rfl⟩ := Int.eq_ofNat_of_zero_le t0
        obtain ⟨pn, rfl⟩ := Int.eq_ofNat_of_zero_le b0
        obtain ⟨a, ha⟩ : ∃ a, gs[tn]? = some a := ⟨_, List.getElem?_eq_getElem (by omega)⟩
        obtain ⟨b, hbb⟩ : ∃ b, gs[pn]? = some b := ⟨_, List.getElem?_eq_getElem (by omega)⟩
        have hal := hG.len a (List.mem_of_getElem? ha)
        have hbl := hG.len b (List.mem_of_getElem? hbb)
        rw [vs_seq, vs_seti]
        simp -implicitDefEqProofs only [vc, gt, st, oneK_1, nrK_d, nrK_lst1, ix_l, tups_at ha, tups_at hbb, ex_some, List.getElem?_cons_zero, List.getElem?_cons_succ]
        refine callO [.int 5] rfl fun F X hF => ⟨ds3, 5, rfl, rfl, hb3, by decide, by decide, fun s ds4 s0 s1 hb4 => hF _ _ ?_⟩
        simp -implicitDefEqProofs only [oneK_1, so, nrK_d, sub_i]
        refine callD0 [tupD a, tupD b, .int (s - 2)] fun F X hF => ⟨a, b, s - 2, _, rfl, rfl, .inr rfl, by omega, by omega, fun z _ => mulOk_l (by omega) (by omega), hF _ ?_⟩
        simp -implicitDefEqProofs only [oneK_1, nrsK_1, tuple_l, toK_d, go, so]
        refine ⟨tn, ixN_nat (by rw [tups_len]; omega), ?_⟩
        rw [vs_nil]
        refine hN _ _ ⟨ds4, gs.set tn (lessL a b (s - 2)), _, _, _, by rw [← tups_set]; rfl, hb4, rfl, by rw [List.length_set]; exact hgl, ?_⟩
        have := hG.set ha hbb (by omega) (by omega : (s - 2).natAbs ≤ 2)
        rw [Nat.pow_succ, Nat.mul_comm (3 ^ j), Nat.mul_assoc]
        exact this
      · rintro ρ O ⟨ds, gs, x4, x5, x6, rfl, hb, rfl, hgl, hG⟩
        rw [Nat.zero_add, List.length_map, List.length_range] at hG
        have hG9 : Oth w vs gs (9 * BR) := hG.mono (Nat.mul_le_mul_right _ (by
          have := Nat.pow_le_pow_right (n := 3) (by decide) hp
          omega))
        rw [unb_l2]
        dsimp only
        rw [vs_seq, vs_ret]
        simp -implicitDefEqProofs only [vc, gt, st, oneK_1, brK_o (show go [.lst ds, .lst (tupsD gs)] 1 = some (.lst (tupsD gs)) from rfl), so, wipeR, wipeR.rm, List.getElem?_cons_zero, List.getElem?_cons_succ, List.length_cons, List.length_nil]
        refine ⟨_, rfl, by rw [tups_len, sizeLine_eq]; omega, ?_⟩
        refine compR_inv (fun i acc O => ∃ (ds : List D) (cs : List Int), O = [.lst ds, .brw (tupsD gs)] ∧ BagOk ds ∧ acc = cs.map .int ∧ cs.length = i ∧ ∀ c ∈ cs, c.natAbs ≤ 1) _ [] _ 0 ⟨ds, [], rfl, hb, rfl, rfl, (fun c hc => by cases hc)⟩ ?_ ?_
        · rintro i d acc O e ⟨ds, cs, rfl, hb, rfl, hcl, hc⟩ F hF
          simp -implicitDefEqProofs only [bindT, gt, st, oneK_1, nrK_d]
          refine callO [.int 3] rfl fun F' X hF' => ⟨ds, 3, rfl, rfl, hb, by decide, by decide, fun x ds' hx hx2 hb' => hF' _ _ ?_⟩
          simp -implicitDefEqProofs only [oneK_1, nrK_d, sub_i, so]
          refine hF _ _ ⟨ds', cs ++ [x - 1], rfl, hb', int_snoc, by rw [List.length_append, hcl]; simp, fun c hm => ?_⟩
          rcases List.mem_append.mp hm with m | m
          · exact hc c m
          · rw [List.mem_singleton.mp m]; omega
        · rintro acc O ⟨ds2, cs, rfl, hb2, rfl, hcl, hc⟩
          simp -implicitDefEqProofs only [newL, oneK_1, List.getElem?_cons_zero, List.getElem?_cons_succ, unb_2b]
          have hBR : 9 * BR < 2 ^ 131 := by decide
          have hgl6 : gs.length ≤ 6 := by omega
          refine callO [.lst (cs.map .int), .int w] (show go [.lst ds2, .lst (tupsD gs)] 1 = some (.lst (tupsD gs)) from rfl) fun F X hF => ⟨gs, cs, w, .o 0, _, rfl, .inr ⟨rfl, rfl⟩, .inl rfl, by omega, hw, fun v hm => by rw [hG9.len v hm]; exact Nat.le_refl _, fun v hm i => Nat.lt_of_le_of_lt (fn_le (hG9.bd v hm) i) hBR, fun c hm => Nat.lt_of_le_of_lt (hc c hm) (Nat.lt_of_lt_of_le (by decide : 1 < 2 ^ 1) (Nat.pow_le_pow_right (by decide) (by decide))), hF _ _ ?_⟩
          simp -implicitDefEqProofs only [oneK_1, tosK_1, newL, partK, so]
          refine ⟨(by decide : 1 ≤ sizeLine), ?_⟩
          refine callO [.int 2] rfl fun F X hF => ⟨ds2, 2, rfl, rfl, hb2, by decide, by decide, fun r ds3 r0 r1 hb3 => hF _ _ ?_⟩
          obtain ⟨k, rfl⟩ := Int.eq_ofNat_of_zero_le r0
          have hk : k ≤ 1 := by omega
          have ecut : cutL [tupD (takenL gs cs w)] none (some (k : Int)) = tupsD ([takenL gs cs w].take k) := by
            rw [cut_to _ (by show k ≤ 1; exact hk)]
            unfold tupsD
            rw [List.map_take]
            rfl
          simp -implicitDefEqProofs only [oneK_1, partK, so, nrK_d, nrK_lst1, slD, ecut, add_l]
          have eapp : tupsD gs ++ tupsD ([takenL gs cs w].take k) = tupsD (gs ++ [takenL gs cs w].take k) := by
            unfold tupsD
            rw [List.map_append]
          have hal : (gs ++ [takenL gs cs w].take k).length ≤ 7 := by
            rw [List.length_append, List.length_take]
            simp only [List.length_cons, List.length_nil]
            omega
          rw [eapp]
          refine ⟨?_, ?_⟩
          · rw [← List.length_append, eapp, tups_len, sizeLine_eq]
            omega
          refine callO [.lst (tupsD (gs ++ [takenL gs cs w].take k))] rfl fun F X hF => ⟨ds3, _, rfl, rfl, hb3, by omega, fun ws ds4 hm hwl hb4 => hF _ _ ?_⟩
          refine ⟨_, rfl, h ws ds4 (by omega) (((hG9.more hgl6 hc).perm hm).mono (by omega)) hb4⟩
end Z

set_option Elab.async false
set_option linter.all false
set_option maxRecDepth 100000
set_option maxHeartbeats 4000000
namespace Z
open PySem PySem.Spec PyProof.Rows L2
/-- .. or two owned lists of the same -/
def sameOZ (n : Nat) : ZSp := fun us O Q _ => (∃ x : D, us = [.d x, .d x] ∧ O = [] ∧ Pl n x ∧ Q (.d (.bl true)) []) ∨ ∃ ds : List D, us = [.o 0, .o 1] ∧ O = [.lst ds, .brw ds] ∧ Pl n (.lst ds) ∧ Q (.d (.bl true)) O
theorem k_law_sameO (n : Nat) (S : ZSp) (hS : ∀ m, n = m + 1 → S = sameZ m) : Keeps [("_law_same", S)] y__law_same N__law_same.length (sameOZ n) := by
  rintro us O Q E (⟨x, rfl, rfl, hx, h⟩ | ⟨ds, rfl, rfl, hx, h⟩)
  · exact k_law_same n S hS _ _ _ _ ⟨x, rfl, rfl, hx, h⟩
  show vcS _ y__law_same E _ [some (.o 0), some (.o 1), none, none] _
  obtain ⟨t1, t2, t3, t4, t5, t6, t7, t8, t9, t10, t11, t12, t13, t14⟩ := isi_tab
  have e3 : (ds.map fun _ => true).all id = true := by simp
  have e2 : (ds.map fun _ => D.bl true) = (ds.map fun _ => true).map .bl := by
    rw [List.map_map]
    rfl
  have ty0 : tyU [.lst ds, .brw ds] (.o 0) = some "list" := rfl
  have ty1 : tyU [.lst ds, .brw ds] (.o 1) = some "list" := rfl
  have n0 : nrm [.lst ds, .brw ds] (.o 0) = some (.lst ds) := rfl
  have n1 : nrm [.lst ds, .brw ds] (.o 1) = some (.lst ds) := rfl
  have b0 : ∀ k, brK [.lst ds, .brw ds] (.o 0) k = k (.lst ds) [.brw ds, .brw ds] := fun _ => rfl
  have b1 : ∀ k, brK [.brw ds, .brw ds] (.o 1) k = k (.lst ds) [.brw ds, .brw ds] := fun _ => rfl
  have ub : unb [.lst ds, .brw ds] [.brw ds, .brw ds] = [.lst ds, .brw ds] := rfl
  have seq : ∀ (m : Nat), n = m + 1 → ds.length ≤ 1000 → (∀ d ∈ ds, Pl m d) → ∀ F : List D → List DO → Prop, F (ds.map fun _ => .bl true) [.brw ds, .brw ds] →
      compR (.tp (.cons (.nm 2) (.cons (.nm 3) .nil))) yesV (fun ρ O Q => vc [("_law_same", S)] (.call 0 (.cons (.var 2) (.cons (.var 3) .nil))) (fun _ _ => False) ρ O Q) [some (.o 0), some (.o 1), none, none] 2 (ds.map fun d => D.tup [d, d]) [] [.brw ds, .brw ds] F := fun m hm hl hd F hF => by
    refine compR_map (fun _ => D.bl true) (Nat.le_refl 2) (ds.map fun d => D.tup [d, d]) (fun d hd' G hG => ?_) (by
      rw [List.map_map]
      exact hF)
    obtain ⟨e, he, rfl⟩ := List.mem_map.mp hd'
    simp only [bindT, bindTs, vc, gt, st, oneK_1, List.getElem?_cons_zero]
    refine callD0 [e, e] fun F X hF => ?_
    rw [hS m hm]
    exact ⟨e, rfl, rfl, hd e he, hF _ hG⟩
  cases hx with
  | @lst m ds hl hd =>
    simp -implicitDefEqProofs only [y__law_same]
    rw [vs_seq, vs_ite]
    simp -implicitDefEqProofs only [vc, gt, st, oneK_1, boolK_1, ty1, t1, ex_some]
    refine ⟨fun _ => ?_, fun z => by cases z⟩
    rw [vs_seq, vs_ite]
    simp -implicitDefEqProofs only [vc, gt, st, oneK_1, boolK_1, ty0, ty1, t6, t7, ex_some, nrK_d]
    refine ne_b ⟨(fun z => by cases z), fun _ => ne_b ⟨(fun z => by cases z), fun _ => ?_⟩⟩
    rw [vs_nil]
    dsimp only
    rw [vs_seq, vs_ret]
    simp -implicitDefEqProofs only [vc, gt, st, oneK_1, boolK_1, nrsK_o n0, nrsK_o n1, len_l, nrK_d, eq_i, b0, b1, zip_self, wipeR, wipeR.rm]
    rw [decide_eq_true trivial]
    refine ⟨fun _ => ⟨_, rfl, by rw [List.length_map]; exact Nat.le_trans hl (by decide), seq m rfl hl hd _ ?_⟩, fun z => by cases z⟩
    simp -implicitDefEqProofs only [newL, ub, oneK_1, nrsK_1]
    rw [e2]
    refine all_l ?_
    rw [e3]
    exact h
end Z

set_option Elab.async false
set_option linter.all false
set_option maxRecDepth 100000
set_option maxHeartbeats 4000000
namespace Z
open PySem PySem.Spec PyProof.Rows L2
theorem fn_inj : ∀ {a b : List Int}, a.length = b.length → (∀ j, j < a.length → fn a j = fn b j) → a = b
  | [], [], _, _ => rfl
  | x :: a, y :: b, h, e => by
    have e0 : x = y := e 0 (by simp)
    rw [e0, fn_inj (a := a) (b := b) (by simpa using h) fun j hj => e (j + 1) (by simpa using hj)]
  | [], _ :: _, h, _ => by simp at h
  | _ :: _, [], h, _ => by simp at h
theorem fn_take {b : List Int} {w j : Nat} (h : j < w) : fn (b.take w) j = fn b j := by
  show (b.take w).getD j 0 = b.getD j 0
  rw [List.getD_eq_getElem?_getD, List.getD_eq_getElem?_getD, List.getElem?_take, if_pos h]
theorem cut_take {w : Nat} : ∀ {as bs : List (List Int)}, (∀ a ∈ as, w ≤ a.length) → (∀ b ∈ bs, w ≤ b.length) → (fns as).map (cut w) = (fns bs).map (cut w) → as.map (List.take w) = bs.map (List.take w)
  | [], [], _, _, _ => rfl
  | a :: as, b :: bs, h1, h2, e => by
    have e' : cut w (fn a) :: (fns as).map (cut w) = cut w (fn b) :: (fns bs).map (cut w) := e
    rw [List.cons.injEq] at e'
    have ha := h1 a List.mem_cons_self
    have hb := h2 b List.mem_cons_self
    rw [List.map_cons, List.map_cons, cut_take (fun c hc => h1 c (List.mem_cons_of_mem _ hc)) (fun c hc => h2 c (List.mem_cons_of_mem _ hc)) e'.2]
    congr 1
    refine fn_inj (by rw [List.length_take, List.length_take]; omega) fun j hj => ?_
    rw [List.length_take] at hj
    have hjw : j < w := by omega
    rw [fn_take hjw, fn_take hjw]
    have := congrFun e'.1 j
    rw [cut_at hjw, cut_at hjw] at this
    exact this
  | [], b :: bs, _, _, e => by cases e
  | a :: as, [], _, _, e => by cases e
theorem hb_same {w n1 n2 : Nat} {us1 us2 b1 b2 : List (List Int)} (h1 : HB w n1 us1 b1) (h2 : HB w n2 us2 b2) (w1 : w ≤ n1) (w2 : w ≤ n2) (e1 : ∀ v ∈ fns us1, LatE w (fns us2) v) (e2 : ∀ v ∈ fns us2, LatE w (fns us1) v) : b1.map (List.take w) = b2.map (List.take w) :=
  cut_take (fun a ha => by rw [h1.len a ha]; exact w1) (fun a ha => by rw [h2.len a ha]; exact w2) (h1.over.same h1.red h2.over h2.red e1 e2)
theorem take_all {w : Nat} {bs : List (List Int)} (h : ∀ b ∈ bs, b.length = w) : bs.map (List.take w) = bs := by
  conv => rhs; rw [← List.map_id bs]
  exact List.map_congr_left fun b hb => List.take_of_length_le (by rw [h b hb]; exact Nat.le_refl _)
theorem exts_late {w : Nat} {vs : List (List Int)} (hl : ∀ v ∈ vs, v.length = w) : (∀ v ∈ fns (exts vs.length vs 0), LatE w (fns vs) v) ∧ ∀ v ∈ fns vs, LatE w (fns (exts vs.length vs 0)) v := by
  constructor
  · intro v hv
    obtain ⟨e, he, rfl⟩ := List.mem_map.mp hv
    obtain ⟨p, u, hp, rfl⟩ := exts_mem he
    have hm := List.mem_of_getElem? hp
    have := hl u hm
    exact ⟨fn u, .mem (mem_fns hm), fun j hj => fn_app1 (by omega)⟩
  · intro v hv
    obtain ⟨u, hu, rfl⟩ := List.mem_map.mp hv
    obtain ⟨p, hp, rfl⟩ := List.mem_iff_getElem.mp hu
    have h1 := exts_get (m := vs.length) (i := 0) (List.getElem?_eq_getElem hp)
    have := hl _ hu
    exact ⟨fn (vs[p] ++ unitL vs.length (0 + p)), .mem (mem_fns (List.mem_of_getElem? h1)), fun j hj => (fn_app1 (by omega)).symm⟩
theorem late_self {w : Nat} {A : List Fn} : ∀ v ∈ A, LatE w A v := fun v hv => (Lat.mem hv).e
theorem LatE.through {w : Nat} {A B C : List Fn} (h1 : ∀ v ∈ A, LatE w B v) (h2 : ∀ v ∈ B, LatE w C v) : ∀ v ∈ A, LatE w C v := fun v hv => (h1 v hv).sub h2
theorem Oth.late {w B : Nat} {vs fs : List (List Int)} (h : Oth w vs fs B) : (∀ v ∈ fns fs, LatE w (fns vs) v) ∧ ∀ v ∈ fns vs, LatE w (fns fs) v := by
  constructor
  · intro v hv
    obtain ⟨u, hu, rfl⟩ := List.mem_map.mp hv
    exact (h.to u hu).e
  · intro v hv
    obtain ⟨u, hu, rfl⟩ := List.mem_map.mp hv
    exact (h.back u hu).e
/-- what is told twice -/
structure Same (w : Nat) (vs bs : List (List Int)) : Prop where
  her : ∀ b, HB w w vs b → b = bs
  tab : ∀ b, HB w (w + vs.length) (exts vs.length vs 0) b → b.map (List.take w) = bs
theorem same_of {w : Nat} {vs us bs : List (List Int)} (hB : HB w w vs bs) (hl : ∀ v ∈ vs, v.length = w) (hl2 : ∀ v ∈ us, v.length = w) (e1 : ∀ v ∈ fns us, LatE w (fns vs) v) (e2 : ∀ v ∈ fns vs, LatE w (fns us) v) : Same w us bs := by
  have ht := take_all hB.len
  refine ⟨fun b hb => ?_, fun b hb => ?_⟩
  · have := hb_same hb hB (Nat.le_refl _) (Nat.le_refl _) e1 e2
    rw [take_all hb.len, ht] at this
    exact this
  · have := hb_same hb hB (by omega) (Nat.le_refl _) (LatE.through (exts_late hl2).1 e1) (LatE.through e2 (exts_late hl2).2)
    rw [ht] at this
    exact this
/-- the counts as the law asks -/
theorem counts_of {w : Nat} {vs bs b : List (List Int)} (hl : ∀ v ∈ vs, v.length = w) (hS : Same w vs bs) (hb : HB w (w + vs.length) (exts vs.length vs 0) b) : (b.map (List.drop w)).length ≤ 20 ∧ (∀ c ∈ b.map (List.drop w), c.length = vs.length) ∧ (∀ c ∈ b.map (List.drop w), ∀ x ∈ c, x.natAbs < 2 ^ 23000000) ∧ bs = (b.map (List.drop w)).map fun c => takenL vs c w := by
  refine ⟨by rw [List.length_map]; have := hb.few; omega, fun c hc => ?_, fun c hc x hx => ?_, ?_⟩
  · obtain ⟨a, ha, rfl⟩ := List.mem_map.mp hc
    rw [List.length_drop, hb.len a ha]; omega
  · obtain ⟨a, ha, rfl⟩ := List.mem_map.mp hc
    obtain ⟨i, hi, rfl⟩ := fn_mem hx
    rw [fn_drop]
    exact hb.big a ha _
  · rw [← hS.tab b hb, List.map_map]
    exact List.map_congr_left fun a ha => (tab_counts hl hb ha).symm
/-! ### places -/
theorem go_app {O O' : List DO} {x : DO} {k : Nat} (h : go O k = some x) : go (O ++ O') k = some x := by
  rw [go_eq] at h ⊢
  rw [List.getElem?_append_left (List.getElem?_eq_some_iff.mp h).1]
  exact h
theorem go_app2 {O O' : List DO} {x : DO} {k : Nat} (h : go O' k = some x) : go (O ++ O') (O.length + k) = some x := by
  rw [go_eq] at h ⊢
  rw [List.getElem?_append_right (by omega), Nat.add_sub_cancel_left]
  exact h
theorem nrm_o {O : List DO} {k : Nat} {ds : List D} (h : go O k = some (.lst ds)) : nrm O (.o k) = some (.lst ds) := by simp only [nrm, h]
theorem mul_t {a : List D} {k : Int} {Q : D → Prop} : binD .Mult (.tup a) (.int k) Q = ((1 ≤ k ∧ k ≤ 1000 ∧ a ≠ [] ∧ a.length ≤ 1000) ∧ Q (.tup (List.replicate k.toNat a).flatten)) := rfl
theorem rep_row (w : Nat) (x : Int) : (List.replicate w [D.int x]).flatten = (List.replicate w x).map .int := by
  induction w with
  | zero => rfl
  | succ n ih => rw [List.replicate_succ, List.flatten_cons, ih, List.replicate_succ]; rfl
theorem shU_t2 {f : Nat → Nat} {a b : Nat} : shU f (.t [.o a, .o b]) = .t [.o (f a), .o (f b)] := by
  rw [shU, shUs, shUs, shUs, shU, shU]
end Z

set_option Elab.async false
set_option linter.all false
set_option maxRecDepth 100000
set_option maxHeartbeats 4000000
namespace Z
open PySem PySem.Spec PyProof.Rows L2
abbrev GL : List (Str × ZSp) := [("_law_same", sameOZ 3), ("hermite_table", tabZ false), ("hermite", brdZ), ("_law_counts_so", cntZ), ("_law_other_rows", othZ), ("hermite_table", tabZ true), ("_law_numbers", numsZ), ("_law_is_basis", isbZ), ("hermite", brZ), ("_law_draw", drawZ), ("_law_pick", pickZ), ("_law_vector", vecZ), ("_law_rows", rowsZ), ("_law_bag", bagZ)]
def lawTail : YS := (.seq (.set 5 (.blt .list (.cons (.var 4) .nil))) (.seq (.set 6 (.call 8 (.cons (.var 5) (.cons (.var 3) .nil)))) (.seq (.ite (.or (.not (.call 7 (.cons (.var 6) (.cons (.var 3) .nil)))) (.one (.not (.blt .all (.cons (.comp false [11] (.nm 11) (.seq (.var 4)) .yes (.cmp .IsNot (.call 6 (.cons (.var 6) (.cons (.var 11) .nil))) .non)) .nil))))) (.seq (.ret (.bl false)) .nil) .nil) (.seq (.set 7 (.blt .tuple (.cons (.var 6) .nil))) (.seq (.set 8 (.call 5 (.cons (.var 5) (.cons (.var 3) .nil)))) (.seq (.ite (.or (.not (.isi (.var 8) ["tuple"])) (.or (.cmp .NotEq (.lnt (.var 8)) (.int 2)) (.or (.not (.call 0 (.cons (.ix (.var 8) (.int 0)) (.cons (.var 6) .nil)))) (.one (.not (.call 0 (.cons (.var 5) (.cons (.var 4) .nil)))))))) (.seq (.ret (.bl false)) .nil) .nil) (.seq (.ite (.not (.call 3 (.cons (.var 6) (.cons (.ix (.var 8) (.int 1)) (.cons (.var 4) (.cons (.var 3) .nil)))))) (.seq (.ret (.bl false)) .nil) .nil) (.seq (.ex (.app (.var 6) (.bin .Mult (.tup (.cons (.int 1) .nil)) (.var 3)))) (.seq (.set 9 (.call 4 (.cons (.var 1) (.cons (.var 4) (.cons (.var 3) .nil))))) (.seq (.ite (.or (.not (.call 0 (.cons (.call 2 (.cons (.var 9) (.cons (.var 3) .nil))) (.cons (.blt .list (.cons (.var 7) .nil)) .nil)))) (.one (.not (.call 0 (.cons (.call 2 (.cons (.var 5) (.cons (.var 3) .nil))) (.cons (.blt .list (.cons (.var 7) .nil)) .nil)))))) (.seq (.ret (.bl false)) .nil) .nil) (.seq (.ex (.app (.ix (.var 8) (.int 0)) (.bin .Mult (.tup (.cons (.int 2) .nil)) (.var 3)))) (.seq (.set 10 (.call 1 (.cons (.blt .tuple (.cons (.var 9) .nil)) (.cons (.var 3) .nil)))) (.seq (.ite (.or (.not (.call 0 (.cons (.ix (.var 10) (.int 0)) (.cons (.blt .list (.cons (.var 7) .nil)) .nil)))) (.one (.not (.call 3 (.cons (.blt .list (.cons (.var 7) .nil)) (.cons (.ix (.var 10) (.int 1)) (.cons (.var 9) (.cons (.var 3) .nil)))))))) (.seq (.ret (.bl false)) .nil) .nil) .nil)))))))))))))
theorem callOO {P : ZSp} {O : List DO} {Q : U → List DO → Prop} {E : ZX} {k j : Nat} {l m : List D} (e : go O k = some (.lst l)) (e2 : go O j = some (.lst m)) (hkj : k ≠ j) (h : ∀ F X, (∀ d, Q (.d d) O → F (.d d) [.lst l, .brw m]) → P [.o 0, .o 1] [.lst l, .brw m] F X) : callZ P [.o k, .o j] O Q E :=
  callOB [] e e2 hkj fun F X hF => h F X fun d q => hF d l (by rw [so_same e]; exact q)
theorem isnot_t {a : List D} {Q : Bool → Prop} : cmpD .IsNot (.tup a) .non Q = Q true := rfl
theorem Same.vs {w : Nat} {vs bs : List (List Int)} (hB : HB w w vs bs) (hl : ∀ v ∈ vs, v.length = w) : Same w vs bs := same_of hB hl hl late_self late_self
theorem pl_told {w : Nat} {vs bs : List (List Int)} (hw : w ≤ 50) (hB : HB w w vs bs) : Pl 3 (.lst (tupsD bs)) := (pl_tups (by have := hB.few; omega) fun b hb => by rw [hB.len b hb]; omega).mono (by decide)
theorem law_tail {E : ZX} {Dn : ZD} {ns : List Int} {O : List DO} {ds : List D} {vs : List (List Int)} {w : Nat} {x2 x5 x6 x7 x8 x9 x10 : Option U} (hg : go O 0 = some (.lst ds)) (hb : BagOk ds) (hw1 : 1 ≤ w) (hw8 : w ≤ 8) (hvl : vs.length ≤ 6) (hv : ∀ v ∈ vs, v.length = w ∧ ∀ x ∈ v, x.natAbs ≤ BR)
    (hD : ∀ (O' : List DO) (ds' : List D) (bs : List (List Int)) (x6 x8 x9 x10 : Option U), go O' 0 = some (.lst ds') → BagOk ds' → VsOk w w vs → HB w w vs bs → Dn.nx [some (.d (.scr ns)), some (.o 0), x2, some (.d (.int w)), some (.d (.lst (tupsD vs))), some (.d (.lst (tupsD vs))), x6, some (.d (.tup (tupsD bs))), x8, x9, x10, none] O') :
    vcS GL lawTail E Dn [some (.d (.scr ns)), some (.o 0), x2, some (.d (.int w)), some (.d (.lst (tupsD vs))), x5, x6, x7, x8, x9, x10, none] O := by
  have hBR : BR < 2 ^ 131 := by decide
  have hBR2 : 54 * BR < 2 ^ 131 := by decide
  have hlen : ∀ v ∈ vs, v.length = w := fun v hm => (hv v hm).1
  have hV : VsOk w w vs := ⟨hlen, Nat.le_refl _, by omega, by omega, fun v hm j => Nat.lt_of_le_of_lt (fn_le (hv v hm).2 j) hBR⟩
  have hT : TabOk w vs := ⟨hV, by omega⟩
  have hsz : (tupsD vs).length ≤ sizeLine := by rw [tups_len, sizeLine_eq]; omega
  unfold lawTail
  rw [vs_seq, vs_set]
  simp -implicitDefEqProofs only [vc, gt, st, oneK_1, nrsK_1, list_l]
  rw [vs_seq, vs_set]
  simp -implicitDefEqProofs only [GL, vc, gt, st, oneK_1, List.getElem?_cons_zero, List.getElem?_cons_succ]
  refine callD [.lst (tupsD vs), .int w] ⟨vs, w, w, _, rfl, rfl, .inl rfl, hV, fun bs k O' hgk hB => ?_⟩
  have hS := Same.vs hB hlen
  have hpl := pl_told (by omega) hB
  dsimp only
  rw [shU_o]
  have hg1 : go (O ++ O') 0 = some (.lst ds) := go_app hg
  have hk1 : go (O ++ O') (O.length + k) = some (.lst (tupsD bs)) := go_app2 hgk
  have hk0 : O.length + k ≠ 0 := by have := go_len hg; omega
  have hren : ren [] O.length k = O.length + k := rfl
  rw [hren]
  generalize O.length + k = k6 at hk1 hk0 ⊢
  generalize O ++ O' = O1 at hg1 hk1 ⊢
  clear hg hgk hren
  rw [vs_seq, vs_ite]
  simp -implicitDefEqProofs only [GL, vc, gt, st, oneK_1, List.getElem?_cons_zero, List.getElem?_cons_succ]
  refine callO [.int w] hk1 fun F X hF => ⟨bs, w, rfl, rfl, hB.len, by omega, by have := hB.few; omega, hB.over.ech, hB.red, hF _ _ ?_⟩
  rw [so_same hk1]
  simp -implicitDefEqProofs only [boolK_1, Bool.not_true, brK_d, wipeR, wipeR.rm]
  refine ⟨(fun z => by cases z), fun _ => ⟨_, rfl, hsz, ?_⟩⟩
  refine compR_map (fun _ => .bl true) (Nat.le_refl _) _ (fun d hd F hF => ?_) ?_
  · obtain ⟨v, hm, rfl⟩ := List.mem_map.mp hd
    simp -implicitDefEqProofs only [bindT, gt, st, oneK_1]
    refine callO [tupD v] hk1 fun F' X hF' => ⟨vs, bs, v, w, rfl, rfl, hV, hB, hm, fun r => hF' _ _ ?_⟩
    rw [so_same hk1]
    simp -implicitDefEqProofs only [oneK_1, nrK_d, isnot_t]
    exact hF
  simp -implicitDefEqProofs only [newL, unb_self, oneK_1, nrsK_1]
  have e2 : (tupsD vs).map (fun _ => D.bl true) = (vs.map fun _ => true).map .bl := by
    unfold tupsD
    rw [List.map_map, List.map_map]
    rfl
  rw [e2]
  refine all_l ?_
  rw [trues]
  simp -implicitDefEqProofs only [boolK_1, Bool.not_true]
  refine ⟨(fun z => by cases z), fun _ => ?_⟩
  rw [vs_nil]
  dsimp only
  rw [vs_seq, vs_set]
  simp -implicitDefEqProofs only [vc, gt, st, oneK_1, nrsK_o (nrm_o hk1), tuple_l]
  rw [vs_seq, vs_set]
  simp -implicitDefEqProofs only [GL, vc, gt, st, oneK_1, List.getElem?_cons_zero, List.getElem?_cons_succ]
  refine callD [.lst (tupsD vs), .int w] ⟨vs, w, _, rfl, rfl, .inl rfl, hT, fun b2 hB2 => ⟨fun _ => ?_, fun z => by cases z⟩⟩
  dsimp only
  rw [shU_t2, hS.tab b2 hB2]
  obtain ⟨c1, c2, c3, c4⟩ := counts_of hlen hS hB2
  have hka := go_len hk1
  have hO0 : 0 < O1.length := go_len hg1
  have hg2 : go (O1 ++ [.lst (tupsD bs), .lst (tupsD (b2.map (List.drop w)))]) 0 = some (.lst ds) := go_app hg1
  have hk2 : go (O1 ++ [.lst (tupsD bs), .lst (tupsD (b2.map (List.drop w)))]) k6 = some (.lst (tupsD bs)) := go_app hk1
  have ha2 : go (O1 ++ [.lst (tupsD bs), .lst (tupsD (b2.map (List.drop w)))]) O1.length = some (.lst (tupsD bs)) := go_app2 (k := 0) rfl
  have hc2 : go (O1 ++ [.lst (tupsD bs), .lst (tupsD (b2.map (List.drop w)))]) (O1.length + 1) = some (.lst (tupsD (b2.map (List.drop w)))) := go_app2 (k := 1) rfl
  have hr0 : ren [] O1.length 0 = O1.length := rfl
  have hr1 : ren [] O1.length 1 = O1.length + 1 := rfl
  have hak : O1.length ≠ k6 := by omega
  have ha0 : O1.length ≠ 0 := by omega
  have hkc : k6 ≠ O1.length + 1 := by omega
  rw [hr0, hr1]
  clear hg1 hk1 hka hO0 hr0 hr1
  generalize O1 ++ [.lst (tupsD bs), .lst (tupsD (b2.map (List.drop w)))] = O2 at hg2 hk2 ha2 hc2 ⊢
  generalize O1.length + 1 = pc at hc2 hkc ⊢
  generalize O1.length = pa at ha2 hak ha0 ⊢
  rw [vs_seq, vs_ite]
  simp -implicitDefEqProofs only [GL, vc, gt, st, oneK_1, boolK_1, tyU, isi_tt, ex_some, nrK_d, ne_i, at_0, List.length_cons, List.length_nil, Bool.not_true, List.getElem?_cons_zero, List.getElem?_cons_succ]
  refine ⟨(fun z => by cases z), fun _ => wayN (fun z => absurd (by decide) z) fun _ => ?_⟩
  refine callOO ha2 hk2 hak fun F X hF => .inr ⟨tupsD bs, rfl, rfl, hpl, hF _ ?_⟩
  simp -implicitDefEqProofs only [boolK_1, Bool.not_true]
  refine ⟨(fun z => by cases z), fun _ => ?_⟩
  have hplv : Pl 3 (.lst (tupsD vs)) := (pl_tups (by omega) fun v hm => by rw [hlen v hm]; omega).mono (by decide)
  refine callD0 [.lst (tupsD vs), .lst (tupsD vs)] fun F X hF => .inl ⟨_, rfl, rfl, hplv, hF _ ?_⟩
  simp -implicitDefEqProofs only [boolK_1, Bool.not_true]
  refine ⟨(fun z => by cases z), fun _ => ?_⟩
  rw [vs_nil]
  dsimp only
  rw [vs_seq, vs_ite]
  simp -implicitDefEqProofs only [GL, vc, gt, st, oneK_1, boolK_1, nrK_d, at_1, ex_some, List.getElem?_cons_zero, List.getElem?_cons_succ]
  refine callOB [.lst (tupsD vs), .int w] hk2 hc2 hkc fun F X hF => ⟨bs, b2.map (List.drop w), vs, w, .inr ⟨rfl, rfl⟩, by omega, by omega, hlen, hV.bd, c1, c2, c3, c4, hF _ _ ?_⟩
  rw [so_same hk2]
  simp -implicitDefEqProofs only [boolK_1, Bool.not_true]
  refine ⟨(fun z => by cases z), fun _ => ?_⟩
  rw [vs_nil]
  dsimp only
  rw [vs_seq, vs_ex]
  simp -implicitDefEqProofs only [GL, vc, gt, st, oneK_1, tosK_1, nrK_d, mul_t, toK_d, hk2]
  have hbs : (tupsD bs).length < sizeLine := by rw [tups_len, sizeLine_eq]; have := hB.few; omega
  refine ⟨(by decide : 1 ≤ sizeLine), ⟨by omega, by omega, by simp, by simp⟩, hbs, ?_⟩
  have hg3 := go_so (y := .lst (tupsD bs ++ [.tup (List.replicate ((w : Int)).toNat [D.int 1]).flatten])) hg2 (Ne.symm hk0)
  have ha3 := go_so (y := .lst (tupsD bs ++ [.tup (List.replicate ((w : Int)).toNat [D.int 1]).flatten])) ha2 hak
  generalize so O2 k6 (.lst (tupsD bs ++ [.tup (List.replicate ((w : Int)).toNat [D.int 1]).flatten])) = O3 at hg3 ha3 ⊢
  clear hg2 hk2 ha2 hc2
  rw [vs_seq, vs_set]
  simp -implicitDefEqProofs only [GL, vc, gt, st, oneK_1, List.getElem?_cons_zero, List.getElem?_cons_succ]
  refine callO [.lst (tupsD vs), .int w] hg3 fun F X hF => ⟨ds, vs, w, rfl, rfl, hb, hvl, by omega, hv, fun fs ds' hfl hO hb' => hF _ _ ?_⟩
  have hg4 := go_so_self (y := .lst ds') hg3
  have ha4 := go_so (y := .lst ds') ha3 ha0
  generalize so O3 0 (.lst ds') = O4 at hg4 ha4 ⊢
  clear hg3 ha3
  have hVf : VsOk w w fs := ⟨hO.len, Nat.le_refl _, by omega, by omega, fun v hm j => Nat.lt_of_le_of_lt (fn_le (hO.bd v hm) j) hBR2⟩
  have hTf : TabOk w fs := ⟨hVf, by omega⟩
  have hSf : Same w fs bs := same_of hB hlen hO.len hO.late.1 hO.late.2
  rw [vs_seq, vs_ite]
  simp -implicitDefEqProofs only [GL, vc, gt, st, oneK_1, boolK_1, nrsK_1, list_t, List.getElem?_cons_zero, List.getElem?_cons_succ]
  refine callD0 [.lst (tupsD fs), .int w] fun F X hF => ⟨fs, w, w, _, rfl, rfl, .inl rfl, hVf, fun b3 hB3 => hF _ ?_⟩
  rw [hSf.her b3 hB3]
  refine callD0 [.lst (tupsD bs), .lst (tupsD bs)] fun F X hF => .inl ⟨_, rfl, rfl, hpl, hF _ ?_⟩
  simp -implicitDefEqProofs only [boolK_1, Bool.not_true]
  refine ⟨(fun z => by cases z), fun _ => ?_⟩
  refine callD0 [.lst (tupsD vs), .int w] fun F X hF => ⟨vs, w, w, _, rfl, rfl, .inl rfl, hV, fun b3 hB3 => hF _ ?_⟩
  rw [hS.her b3 hB3]
  refine callD0 [.lst (tupsD bs), .lst (tupsD bs)] fun F X hF => .inl ⟨_, rfl, rfl, hpl, hF _ ?_⟩
  simp -implicitDefEqProofs only [boolK_1, Bool.not_true]
  refine ⟨(fun z => by cases z), fun _ => ?_⟩
  rw [vs_nil]
  dsimp only
  rw [vs_seq, vs_ex]
  simp -implicitDefEqProofs only [GL, vc, gt, st, oneK_1, tosK_1, nrK_d, mul_t, toK_d, at_0, ex_some, ha4]
  refine ⟨(by decide : 1 ≤ sizeLine), ⟨by omega, by omega, by simp, by simp⟩, hbs, ?_⟩
  have hg5 := go_so (y := .lst (tupsD bs ++ [.tup (List.replicate ((w : Int)).toNat [D.int 2]).flatten])) hg4 (Ne.symm ha0)
  generalize so O4 pa (.lst (tupsD bs ++ [.tup (List.replicate ((w : Int)).toNat [D.int 2]).flatten])) = O5 at hg5 ⊢
  clear hg4 ha4
  rw [vs_seq, vs_set]
  simp -implicitDefEqProofs only [GL, vc, gt, st, oneK_1, nrsK_1, tuple_l, List.getElem?_cons_zero, List.getElem?_cons_succ]
  refine callD0 [.tup (tupsD fs), .int w] fun F X hF => ⟨fs, w, _, rfl, rfl, .inr rfl, hTf, fun b5 hB5 => ⟨(fun z => by cases z), fun _ => hF _ ?_⟩⟩
  rw [hSf.tab b5 hB5]
  obtain ⟨d1, d2, d3, d4⟩ := counts_of hO.len hSf hB5
  rw [vs_seq, vs_ite]
  simp -implicitDefEqProofs only [GL, vc, gt, st, oneK_1, boolK_1, nrK_d, ix_t, at_0, at_1, ex_some, nrsK_1, list_t, List.getElem?_cons_zero, List.getElem?_cons_succ]
  refine callD0 [.lst (tupsD bs), .lst (tupsD bs)] fun F X hF => .inl ⟨_, rfl, rfl, hpl, hF _ ?_⟩
  simp -implicitDefEqProofs only [boolK_1, Bool.not_true]
  refine ⟨(fun z => by cases z), fun _ => ?_⟩
  refine callD0 [.lst (tupsD bs), .lst (tupsD (b5.map (List.drop w))), .lst (tupsD fs), .int w] fun F X hF => ⟨bs, b5.map (List.drop w), fs, w, .inl ⟨rfl, rfl⟩, by omega, by omega, hO.len, hVf.bd, d1, d2, d3, d4, hF _ ?_⟩
  simp -implicitDefEqProofs only [boolK_1, Bool.not_true]
  refine ⟨(fun z => by cases z), fun _ => ?_⟩
  rw [vs_nil]
  dsimp only
  rw [vs_nil]
  exact hD _ _ _ _ _ _ _ hg5 hb' hV hB
end Z

set_option Elab.async false
set_option linter.all false
set_option maxRecDepth 100000
set_option maxHeartbeats 4000000
namespace Z
open PySem PySem.Spec PyProof.Rows L2
theorem hb_none {w n : Nat} {b : List (List Int)} (h : HB w n [] b) : b = [] := by
  cases b with
  | nil => rfl
  | cons r b =>
    have h1 : Lat [] (fn r) := h.over.to (fn r) List.mem_cons_self
    exact absurd (h1.nil _) (pv_ne (h.over.ech.lt (fn r) List.mem_cons_self))
theorem vs_none {w : Nat} (hw : w ≤ 50) : VsOk w w [] := ⟨(fun v hv => by cases hv), Nat.le_refl _, by omega, by decide, (fun v hv => by cases hv)⟩
theorem pick_w {x : D} (hx : x ∈ [D.int 1, .int 2, .int 2, .int 3, .int 3, .int 4, .int 5, .int 8]) : ∃ w : Nat, x = .int w ∧ 1 ≤ w ∧ w ≤ 8 := by
  simp only [List.mem_cons, List.not_mem_nil, or_false] at hx
  rcases hx with rfl | rfl | rfl | rfl | rfl | rfl | rfl | rfl
  · exact ⟨1, rfl, by decide, by decide⟩
  · exact ⟨2, rfl, by decide, by decide⟩
  · exact ⟨2, rfl, by decide, by decide⟩
  · exact ⟨3, rfl, by decide, by decide⟩
  · exact ⟨3, rfl, by decide, by decide⟩
  · exact ⟨4, rfl, by decide, by decide⟩
  · exact ⟨5, rfl, by decide, by decide⟩
  · exact ⟨8, rfl, by decide, by decide⟩
theorem k_law : Keeps GL y_law N_law.length (lawZ 63) := by
  rintro us O Q E ⟨ns, rfl, rfl, hns, h⟩
  show vcS _ y_law E _ [some (.d (.scr ns)), none, none, none, none, none, none, none, none, none, none, none] _
  simp -implicitDefEqProofs only [y_law]
  rw [vs_seq, vs_set]
  simp -implicitDefEqProofs only [GL, vc, gt, st, oneK_1, List.getElem?_cons_zero, List.getElem?_cons_succ]
  refine callD [.scr ns] ⟨ns, rfl, rfl, fun ds hb => ?_⟩
  show vcS GL _ _ _ [some (.d (.scr ns)), some (.o 0), none, none, none, none, none, none, none, none, none, none] [.lst ds]
  rw [vs_seq, vs_for]
  simp -implicitDefEqProofs only [vc, gt, st, oneK_1, nrK_d]
  refine ⟨⟨by decide, by decide⟩, _, rfl, ?_⟩
  refine forR_inv (fun i ρ O => ∃ (ds : List D) (x2 x3 x4 x5 x6 x7 x8 x9 x10 : Option U), go O 0 = some (.lst ds) ∧ BagOk ds ∧ ρ = [some (.d (.scr ns)), some (.o 0), x2, x3, x4, x5, x6, x7, x8, x9, x10, none] ∧
    (i ≠ 0 → ∃ (w : Nat) (vs bs : List (List Int)), x3 = some (.d (.int w)) ∧ x5 = some (.d (.lst (tupsD vs))) ∧ x7 = some (.d (.tup (tupsD bs))) ∧ w ≤ 8 ∧ VsOk w w vs ∧ HB w w vs bs)) _ _ _ 0 ⟨ds, none, none, none, none, none, none, none, none, none, rfl, hb, rfl, fun z => absurd rfl z⟩ ?_ ?_
  · rintro j d ρ O e ⟨ds, x2, x3, x4, x5, x6, x7, x8, x9, x10, hg, hb, rfl, -⟩ N hN
    have next : ∀ (O' : List DO) (ds' : List D) (w : Nat) (vs bs : List (List Int)) (x2 x6 x8 x9 x10 : Option U), go O' 0 = some (.lst ds') → BagOk ds' → w ≤ 8 → VsOk w w vs → HB w w vs bs → N [some (.d (.scr ns)), some (.o 0), x2, some (.d (.int w)), some (.d (.lst (tupsD vs))), some (.d (.lst (tupsD vs))), x6, some (.d (.tup (tupsD bs))), x8, x9, x10, none] O' := fun O' ds' w vs bs x2 x6 x8 x9 x10 h1 h2 h3 h4 h5 =>
      hN _ _ ⟨ds', _, _, _, _, _, _, _, _, _, h1, h2, rfl, fun _ => ⟨w, vs, bs, rfl, rfl, rfl, h3, h4, h5⟩⟩
    clear hN e
    simp -implicitDefEqProofs only [bindT, st]
    rw [vs_seq, vs_set]
    simp -implicitDefEqProofs only [GL, vc, gt, st, oneK_1, tosK_8, newL, List.getElem?_cons_zero, List.getElem?_cons_succ]
    refine ⟨(by decide : 8 ≤ sizeLine), ?_⟩
    refine callO [.lst [.int 1, .int 2, .int 2, .int 3, .int 3, .int 4, .int 5, .int 8]] hg fun F X hF => ⟨ds, _, .inl ⟨rfl, rfl⟩, hb, (by decide : 1 ≤ 8), (by decide : 8 < 2 ^ 60), fun x ds1 hx hb1 => hF _ _ ?_⟩
    obtain ⟨w, rfl, hw1, hw8⟩ := pick_w hx
    have hg1 := go_so_self (y := .lst ds1) hg
    generalize so O 0 (.lst ds1) = O1 at hg1 ⊢
    rw [vs_seq, vs_set]
    simp -implicitDefEqProofs only [GL, vc, gt, st, oneK_1, List.getElem?_cons_zero, List.getElem?_cons_succ]
    refine callO [.int w] hg1 fun F X hF => ⟨ds1, w, rfl, rfl, hb1, by omega, fun vs ds2 hvl hv hb2 => hF _ _ ?_⟩
    have hg2 := go_so_self (y := .lst ds2) hg1
    generalize so O1 0 (.lst ds2) = O2 at hg2 ⊢
    have hv' : ∀ v ∈ vs, v.length = w ∧ ∀ x ∈ v, x.natAbs ≤ BR := hv
    have hBB : BB ≤ BR := by decide
    rw [vs_seq, vs_ite]
    simp -implicitDefEqProofs only [GL, vc, gt, st, oneK_1, List.getElem?_cons_zero, List.getElem?_cons_succ]
    refine callO [.int 5] hg2 fun F X hF => ⟨ds2, 5, rfl, rfl, hb2, by decide, by decide, fun r ds3 r0 r1 hb3 => hF _ _ ?_⟩
    have hg3 := go_so_self (y := .lst ds3) hg2
    generalize so O2 0 (.lst ds3) = O3 at hg3 ⊢
    simp -implicitDefEqProofs only [oneK_1, nrK_d, eq_i, boolK_1]
    refine way (fun _ => ?_) fun _ => ?_
    · rw [vs_seq, vs_set]
      simp -implicitDefEqProofs only [GL, vc, gt, st, oneK_1, tosK_1, nrK_d, mul_t, List.getElem?_cons_zero, List.getElem?_cons_succ]
      refine ⟨(by decide : 1 ≤ sizeLine), ⟨by omega, by omega, by simp, by simp⟩, ?_⟩
      refine callO [.int w, .int 99] hg3 fun F X hF => ⟨ds3, w, 99, rfl, rfl, hb3, by omega, by decide, by decide, fun v ds4 hvl2 hvb hb4 => hF _ _ ?_⟩
      have hg4 := go_so_self (y := .lst ds4) hg3
      generalize so O3 0 (.lst ds4) = O4 at hg4 ⊢
      have ez : D.tup (List.replicate ((w : Int)).toNat [D.int 0]).flatten = tupD (List.replicate w 0) := by
        rw [show ((w : Int)).toNat = w by omega, rep_row]
        rfl
      simp -implicitDefEqProofs only [oneK_1, tosK_2, newL, ez]
      refine ⟨(by decide : 2 ≤ sizeLine), ?_⟩
      refine callO [.lst [tupD (List.replicate w 0), tupD v]] hg4 fun F X hF => ⟨ds4, _, .inl ⟨rfl, rfl⟩, hb4, (by decide : 1 ≤ 2), (by decide : 2 < 2 ^ 60), fun x ds5 hx hb5 => hF _ _ ?_⟩
      have hg5 := go_so_self (y := .lst ds5) hg4
      generalize so O4 0 (.lst ds5) = O5 at hg5 ⊢
      obtain ⟨u, rfl, hu1, hu2⟩ : ∃ u : List Int, x = tupD u ∧ u.length = w ∧ ∀ y ∈ u, y.natAbs ≤ BR := by
        simp only [List.mem_cons, List.not_mem_nil, or_false] at hx
        rcases hx with rfl | rfl
        · exact ⟨_, rfl, List.length_replicate, fun y hy => by rw [List.eq_of_mem_replicate hy]; exact Nat.zero_le _⟩
        · exact ⟨_, rfl, hvl2, fun y hy => Nat.le_trans (hvb y hy) hBB⟩
      simp -implicitDefEqProofs only [oneK_1, tosK_1, newL, nrK_d, add_l, tups_snoc]
      refine ⟨(by decide : 1 ≤ sizeLine), by rw [tups_len, sizeLine_eq]; simp only [List.length_cons, List.length_nil]; omega, ?_⟩
      rw [vs_nil]
      dsimp only
      refine law_tail hg5 hb5 hw1 hw8 (by rw [List.length_append]; simp only [List.length_cons, List.length_nil]; omega) (fun v hm => ?_) fun O' ds' bs x6 x8 x9 x10 h1 h2 h3 h4 => ?_
      · rcases List.mem_append.mp hm with m | m
        · exact hv' v m
        · rw [List.mem_singleton.mp m]; exact ⟨hu1, hu2⟩
      · exact next _ _ _ _ _ _ _ _ _ _ h1 h2 hw8 h3 h4
    · rw [vs_nil]
      dsimp only
      refine law_tail hg3 hb3 hw1 hw8 (by omega) hv' fun O' ds' bs x6 x8 x9 x10 h1 h2 h3 h4 => ?_
      exact next _ _ _ _ _ _ _ _ _ _ h1 h2 hw8 h3 h4
  · rintro ρ O ⟨ds, x2, x3, x4, x5, x6, x7, x8, x9, x10, hg, hb, rfl, hi⟩
    obtain ⟨w, vs, bs, rfl, rfl, rfl, hw8, hV, hB⟩ := hi (by decide)
    dsimp only
    have hS := Same.vs hB hV.len
    have hpl := pl_told (by omega) hB
    have hpl2 : Pl 2 (.lst (tupsD bs)) := pl_tups (by have := hB.few; omega) fun b hb => by rw [hB.len b hb]; omega
    have hnil : ∀ n, Pl (n + 1) (.lst []) := fun n => .lst (by show 0 ≤ 1000; decide) fun d hd => by cases hd
    rw [vs_seq, vs_ret]
    simp -implicitDefEqProofs only [GL, vc, gt, st, oneK_1, tosK_0, newL, nrsK_1, tuple_l, list_t, List.getElem?_cons_zero, List.getElem?_cons_succ, List.length_nil]
    refine ⟨(by decide : 0 ≤ sizeLine), ?_⟩
    refine callD0 [.lst [], .int w] fun F X hF => ⟨[], w, w, _, rfl, rfl, .inl rfl, vs_none (by omega), fun b1 h1 => hF _ ?_⟩
    rw [hb_none h1]
    refine ⟨(by decide : 0 ≤ sizeLine), ?_⟩
    refine callD0 [.tup [], .int w] fun F X hF => ⟨[], w, w, _, rfl, rfl, .inr rfl, vs_none (by omega), fun b2 h2 => hF _ ?_⟩
    rw [hb_none h2]
    refine callD0 [.tup (tupsD vs), .int w] fun F X hF => ⟨vs, w, w, _, rfl, rfl, .inr rfl, hV, fun b3 h3 => hF _ ?_⟩
    rw [hS.her b3 h3]
    simp -implicitDefEqProofs only [oneK_1, tosK_3, tosK_0, newL, List.length_cons, List.length_nil]
    have p3 : Pl 3 (.lst [.lst [], .lst [], .lst (tupsD bs)]) := .lst (by show 3 ≤ 1000; decide) fun d hd => by
      simp only [List.mem_cons, List.not_mem_nil, or_false] at hd
      rcases hd with rfl | rfl | rfl
      · exact (hnil 1)
      · exact (hnil 1)
      · exact hpl2
    have p4 : Pl 3 (.tup [.lst [], .lst []]) := .tup (by show 2 ≤ 1000; decide) fun d hd => by
      simp only [List.mem_cons, List.not_mem_nil, or_false] at hd
      rcases hd with rfl | rfl
      · exact (hnil 1)
      · exact (hnil 1)
    refine ⟨(by decide : 3 ≤ sizeLine), (by decide : 0 ≤ sizeLine), (by decide : 0 ≤ sizeLine), (by decide : 3 ≤ sizeLine), ?_⟩
    refine callD0 [.lst [.lst [], .lst [], .lst (tupsD bs)], .lst [.lst [], .lst [], .lst (tupsD bs)]] fun F X hF => .inl ⟨_, rfl, rfl, p3, hF _ ?_⟩
    simp -implicitDefEqProofs only [boolK_1]
    refine ⟨fun _ => ⟨(by decide : 0 ≤ sizeLine), ?_⟩, fun z => by cases z⟩
    refine callD0 [.lst [], .int w] fun F X hF => ⟨[], w, _, rfl, rfl, .inl rfl, ⟨vs_none (by omega), by omega⟩, fun b4 h4 => ⟨(fun z => by cases z), fun _ => hF _ ?_⟩⟩
    rw [hb_none h4]
    refine ⟨(by decide : 0 ≤ sizeLine), (by decide : 0 ≤ sizeLine), ?_⟩
    rw [tosK_2]
    refine ⟨(by decide : 2 ≤ sizeLine), ?_⟩
    exact callD0 [.tup [.lst [], .lst []], .tup [.lst [], .lst []]] fun F X hF => .inl ⟨_, rfl, rfl, p4, hF _ (h _)⟩
end Z

set_option Elab.async false
set_option linter.all false
set_option maxRecDepth 100000
set_option maxHeartbeats 0
namespace Z
open PySem PySem.Spec PyProof.Rows L2
def hd1 : He.DefD := ⟨("unit", none), "unit", "unit", defArgs (top 1), defBody (top 1), defScope (top 1), [], []⟩
def hd2 : He.DefD := ⟨("vector_times", none), "vector_times", "vector_times", defArgs (top 2), defBody (top 2), defScope (top 2), [], []⟩
def hd4 : He.DefD := ⟨("pivot_place", none), "pivot_place", "pivot_place", defArgs (top 4), defBody (top 4), defScope (top 4), [], []⟩
def hd5 : He.DefD := ⟨("less_times", none), "less_times", "less_times", defArgs (top 5), defBody (top 5), defScope (top 5), [], []⟩
def hd6 : He.DefD := ⟨("remainder_by", none), "remainder_by", "remainder_by", defArgs (top 6), defBody (top 6), defScope (top 6), [], []⟩
def hd7 : He.DefD := ⟨("euclid_rows", none), "euclid_rows", "euclid_rows", defArgs (top 7), defBody (top 7), defScope (top 7), [], []⟩
def hd8 : He.DefD := ⟨("basis_with_row", none), "basis_with_row", "basis_with_row", defArgs (top 8), defBody (top 8), defScope (top 8), [], []⟩
def hd9 : He.DefD := ⟨("reduced_basis", none), "reduced_basis", "reduced_basis", defArgs (top 9), defBody (top 9), defScope (top 9), [], []⟩
def hd10 : He.DefD := ⟨("basis_rows", none), "basis_rows", "basis_rows", defArgs (top 10), defBody (top 10), defScope (top 10), [], []⟩
def hd11 : He.DefD := ⟨("hermite", none), "hermite", "hermite", defArgs (top 11), defBody (top 11), defScope (top 11), [], []⟩
def hd12 : He.DefD := ⟨("hermite_table", none), "hermite_table", "hermite_table", defArgs (top 12), defBody (top 12), defScope (top 12), [], []⟩
def hd14 : He.DefD := ⟨("_law_bag", none), "_law_bag", "_law_bag", defArgs (top 14), defBody (top 14), defScope (top 14), [], []⟩
def hd15 : He.DefD := ⟨("_law_draw", none), "_law_draw", "_law_draw", defArgs (top 15), defBody (top 15), defScope (top 15), [], []⟩
def hd16 : He.DefD := ⟨("_law_pick", none), "_law_pick", "_law_pick", defArgs (top 16), defBody (top 16), defScope (top 16), [], []⟩
def hd17 : He.DefD := ⟨("_law_mixed", none), "_law_mixed", "_law_mixed", defArgs (top 17), defBody (top 17), defScope (top 17), [], []⟩
def hd18 : He.DefD := ⟨("_law_huge", none), "_law_huge", "_law_huge", defArgs (top 18), defBody (top 18), defScope (top 18), [], []⟩
def hd19 : He.DefD := ⟨("_law_number", none), "_law_number", "_law_number", defArgs (top 19), defBody (top 19), defScope (top 19), [], []⟩
def hd20 : He.DefD := ⟨("_law_vector", none), "_law_vector", "_law_vector", defArgs (top 20), defBody (top 20), defScope (top 20), [], []⟩
def hd21 : He.DefD := ⟨("_law_small", none), "_law_small", "_law_small", defArgs (top 21), defBody (top 21), defScope (top 21), [], []⟩
def hd22 : He.DefD := ⟨("_law_int", none), "_law_int", "_law_int", defArgs (top 22), defBody (top 22), defScope (top 22), [], []⟩
def hd23 : He.DefD := ⟨("_law_is_vector", none), "_law_is_vector", "_law_is_vector", defArgs (top 23), defBody (top 23), defScope (top 23), [], []⟩
def hd24 : He.DefD := ⟨("_law_same", none), "_law_same", "_law_same", defArgs (top 24), defBody (top 24), defScope (top 24), [], []⟩
def hd25 : He.DefD := ⟨("_law_less", none), "_law_less", "_law_less", defArgs (top 25), defBody (top 25), defScope (top 25), [], []⟩
def hd26 : He.DefD := ⟨("_law_pivot", none), "_law_pivot", "_law_pivot", defArgs (top 26), defBody (top 26), defScope (top 26), [], []⟩
def hd27 : He.DefD := ⟨("_law_numbers", none), "_law_numbers", "_law_numbers", defArgs (top 27), defBody (top 27), defScope (top 27), [], []⟩
def hd28 : He.DefD := ⟨("_law_taken", none), "_law_taken", "_law_taken", defArgs (top 28), defBody (top 28), defScope (top 28), [], []⟩
def hd29 : He.DefD := ⟨("_law_rows", none), "_law_rows", "_law_rows", defArgs (top 29), defBody (top 29), defScope (top 29), [], []⟩
def hd30 : He.DefD := ⟨("_law_other_rows", none), "_law_other_rows", "_law_other_rows", defArgs (top 30), defBody (top 30), defScope (top 30), [], []⟩
def hd31 : He.DefD := ⟨("_law_is_basis", none), "_law_is_basis", "_law_is_basis", defArgs (top 31), defBody (top 31), defScope (top 31), [], []⟩
def hd32 : He.DefD := ⟨("_law_counts_so", none), "_law_counts_so", "_law_counts_so", defArgs (top 32), defBody (top 32), defScope (top 32), [], []⟩
def hd33 : He.DefD := ⟨("law", none), "law", "law", defArgs (top 33), defBody (top 33), defScope (top 33), [], []⟩
def lfn : List He.DefD := [hd1, hd2, hd4, hd5, hd6, hd7, hd8, hd9, hd10, hd11, hd12, hd14, hd15, hd16, hd17, hd18, hd19, hd20, hd21, hd22, hd23, hd24, hd25, hd26, hd27, hd28, hd29, hd30, hd31, hd32, hd33]
def lfa : List He.Fa := [.glo "unit", .glo "vector_times", .glo "pivot_place", .glo "less_times", .glo "remainder_by", .glo "euclid_rows", .glo "basis_with_row", .glo "reduced_basis", .glo "basis_rows", .glo "hermite", .glo "hermite_table", .glo "_law_bag", .glo "_law_draw", .glo "_law_pick", .glo "_law_mixed", .glo "_law_huge", .glo "_law_number", .glo "_law_vector", .glo "_law_small", .glo "_law_int", .glo "_law_is_vector", .glo "_law_same", .glo "_law_less", .glo "_law_pivot", .glo "_law_numbers", .glo "_law_taken", .glo "_law_rows", .glo "_law_other_rows", .glo "_law_is_basis", .glo "_law_counts_so", .glo "law", .free "len", .free "abs", .free "int", .free "list", .free "tuple", .free "sum", .free "all", .free "any", .free "min", .free "max", .free "isinstance", .free "range", .free "enumerate", .free "zip", .free "reversed", .free "bool", .free "str", .free "dict", .free "sorted"]
def hex (K : PySem.W.Frag) : Bool := true
def hnames : List PySem.Str := (["unit", "vector_times", "pivot_place", "less_times", "remainder_by", "euclid_rows", "basis_with_row", "reduced_basis", "basis_rows", "hermite", "hermite_table", "_law_bag", "_law_draw", "_law_pick", "_law_mixed", "_law_huge", "_law_number", "_law_vector", "_law_small", "_law_int", "_law_is_vector", "_law_same", "_law_less", "_law_pivot", "_law_numbers", "_law_taken", "_law_rows", "_law_other_rows", "_law_is_basis", "_law_counts_so"] : List PySem.Str)
abbrev HR : PySem.W.OpenRow := PySem.W.OpenLaw.row PySem.Challenge.rw_endlessnets_k06_whole_staircases
abbrev hhk : PySem.W.Hook := He.hookX 4 lfa lfn [] [] hex
def hob (s : PySem.W.SharedT) : He.AlX := He.obsX 4 lfa lfn [] [] hex (HandSHeadRun.getT s)
theorem hob_eq (s : PySem.W.SharedT) : hob s = hhk.obs s.abs := He.obsX_eq (HandSHeadRun.getT_eq s)
theorem hrun (w : World) : HandSHeadRun.RunEq HR (PySem.W.view HR.prog [33]) hhk hob 8000 hnames w := by
  intro os
  kernel_rfl
/-- the promises of the defs that are called -/
inductive FnTs (P : Program) (w : World) (K : PySem.W.Frag) (mg : Str → Option Value) (base : Heap) (G : Gx) (k : Nat) : List (Str × ZSp) → Prop
  | nil : FnTs P w K mg base G k []
  | cons {x : Str} {S : ZSp} {r : List (Str × ZSp)} : FnT P w K mg base G k x S → FnTs P w K mg base G k r → FnTs P w K mg base G k ((x, S) :: r)
section
variable {P : Program} {w : World} {K : PySem.W.Frag} {mg : Str → Option Value} {base : Heap} {G : Gx} {k : Nat}
theorem FnTs.get : ∀ {r : List (Str × ZSp)}, FnTs P w K mg base G k r → ∀ (i : Nat) (y : Str) (Q : ZSp), r[i]? = some (y, Q) → FnT P w K mg base G k y Q
  | _, .nil, i, y, Q, h => by simp at h
  | _, .cons a s, 0, y, Q, h => by
    simp at h
    obtain ⟨rfl, rfl⟩ := h
    exact a
  | _, .cons a s, i + 1, y, Q, h => FnTs.get s i y Q (by simpa using h)
theorem fnT_false {x qual : Str} {params : Arguments} {body : List Stmt} {scope : Scope} {kws : List (Str × V)} {dvs : List V} {f : Addr} {fd : FuncData} {ps : List Str} (F : FunD K x qual params body scope dvs kws f fd) (hm : mg x = some (.ref f)) (hb : Binds K fd ps []) : FnT P w K mg base G k x fun _ _ _ _ => False :=
  ⟨f, fd, ps, hm, F.kp, ⟨fun vs H Q E ⟨_, _, _, _, _, _, _, _, h, _⟩ => h.elim, fun _ _ _ _ _ _ _ _ _ _ _ _ _ ⟨_, _, _, _, _, _, _, _, h, _⟩ => h.elim⟩, hb⟩
theorem binds_full {x qual : Str} {params : Arguments} {body : List Stmt} {scope : Scope} {kws : List (Str × V)} {dvs : List V} {f : Addr} {fd : FuncData} {ps : List Str} (F : FunD K x qual params body scope dvs kws f fd) {n j : Nat} (hd : dvs ≠ []) (hn : n + (dvs.length - j) = ps.length) (hj : dvs.drop j = [])
    (h : ∀ (T : Addr) (kV doc pm : Value) (an : Option Addr) (cdv ct : Value) (us its : List Value), us.length = n → its.length = dvs.length → ∃ k, bindArgs (PySem.W.fnOf x qual params body scope (.ref T) kV doc pm an cdv ct) ⟨us, []⟩ = seqItems? (.ref T) >>= k ∧ k (some its.toArray) = pure (ps.zip (us ++ its.drop j))) : Binds K fd ps [] := by
  obtain ⟨ds, hv, hb⟩ := F.binds1 n j hd hn h
  rw [hj] at hv
  cases hv
  exact hb
end
theorem law_at (P : Program) (hP : P = (PySem.Challenge.rw_endlessnets_k06_whole_staircases).prog) {w : World} {K : PySem.W.Frag} {h : Heap} {mg : Str → Option Value} {fa : Addr} (X : K.In h) (G : h.Ns mainGlobals mg) (hfa : mg ("law" : Str) = some (.ref fa)) (c : He.SaysD lfa lfn K) :
    ∃ fd : FuncData, (∀ (s : Shared) (v : Value), BindsTo s fd ⟨[v], []⟩ [("_law_script", v)]) ∧ ∀ base : Heap, K.In base → base.Ns mainGlobals mg → FnOk P w K mg base (L2.CX P w) 7 fa fd ["_law_script"] (lowSp ⟨K, []⟩ (lawZ 63)) := by
  obtain ⟨fd1, F10⟩ := c.def_ 0 (d := hd1) rfl
  have F1 : FunD K "unit" "unit" (defArgs (top 1)) (defBody (top 1)) (defScope (top 1)) [] [] (He.ga K "unit") fd1 := F10
  have m1 : mg "unit" = some (.ref (He.ga K "unit")) := He.glo_ok X G (c.fact 0 (f := .glo "unit") rfl)
  obtain ⟨fd2, F20⟩ := c.def_ 1 (d := hd2) rfl
  have F2 : FunD K "vector_times" "vector_times" (defArgs (top 2)) (defBody (top 2)) (defScope (top 2)) [] [] (He.ga K "vector_times") fd2 := F20
  have m2 : mg "vector_times" = some (.ref (He.ga K "vector_times")) := He.glo_ok X G (c.fact 1 (f := .glo "vector_times") rfl)
  obtain ⟨fd4, F40⟩ := c.def_ 2 (d := hd4) rfl
  have F4 : FunD K "pivot_place" "pivot_place" (defArgs (top 4)) (defBody (top 4)) (defScope (top 4)) [] [] (He.ga K "pivot_place") fd4 := F40
  have m4 : mg "pivot_place" = some (.ref (He.ga K "pivot_place")) := He.glo_ok X G (c.fact 2 (f := .glo "pivot_place") rfl)
  obtain ⟨fd5, F50⟩ := c.def_ 3 (d := hd5) rfl
  have F5 : FunD K "less_times" "less_times" (defArgs (top 5)) (defBody (top 5)) (defScope (top 5)) [] [] (He.ga K "less_times") fd5 := F50
  have m5 : mg "less_times" = some (.ref (He.ga K "less_times")) := He.glo_ok X G (c.fact 3 (f := .glo "less_times") rfl)
  obtain ⟨fd6, F60⟩ := c.def_ 4 (d := hd6) rfl
  have F6 : FunD K "remainder_by" "remainder_by" (defArgs (top 6)) (defBody (top 6)) (defScope (top 6)) [] [] (He.ga K "remainder_by") fd6 := F60
  have m6 : mg "remainder_by" = some (.ref (He.ga K "remainder_by")) := He.glo_ok X G (c.fact 4 (f := .glo "remainder_by") rfl)
  obtain ⟨fd7, F70⟩ := c.def_ 5 (d := hd7) rfl
  have F7 : FunD K "euclid_rows" "euclid_rows" (defArgs (top 7)) (defBody (top 7)) (defScope (top 7)) [] [] (He.ga K "euclid_rows") fd7 := F70
  have m7 : mg "euclid_rows" = some (.ref (He.ga K "euclid_rows")) := He.glo_ok X G (c.fact 5 (f := .glo "euclid_rows") rfl)
  obtain ⟨fd8, F80⟩ := c.def_ 6 (d := hd8) rfl
  have F8 : FunD K "basis_with_row" "basis_with_row" (defArgs (top 8)) (defBody (top 8)) (defScope (top 8)) [] [] (He.ga K "basis_with_row") fd8 := F80
  have m8 : mg "basis_with_row" = some (.ref (He.ga K "basis_with_row")) := He.glo_ok X G (c.fact 6 (f := .glo "basis_with_row") rfl)
  obtain ⟨fd9, F90⟩ := c.def_ 7 (d := hd9) rfl
  have F9 : FunD K "reduced_basis" "reduced_basis" (defArgs (top 9)) (defBody (top 9)) (defScope (top 9)) [] [] (He.ga K "reduced_basis") fd9 := F90
  have m9 : mg "reduced_basis" = some (.ref (He.ga K "reduced_basis")) := He.glo_ok X G (c.fact 7 (f := .glo "reduced_basis") rfl)
  obtain ⟨fd10, F100⟩ := c.def_ 8 (d := hd10) rfl
  have F10 : FunD K "basis_rows" "basis_rows" (defArgs (top 10)) (defBody (top 10)) (defScope (top 10)) [] [] (He.ga K "basis_rows") fd10 := F100
  have m10 : mg "basis_rows" = some (.ref (He.ga K "basis_rows")) := He.glo_ok X G (c.fact 8 (f := .glo "basis_rows") rfl)
  obtain ⟨fd11, F110⟩ := c.def_ 9 (d := hd11) rfl
  have F11 : FunD K "hermite" "hermite" (defArgs (top 11)) (defBody (top 11)) (defScope (top 11)) [] [] (He.ga K "hermite") fd11 := F110
  have m11 : mg "hermite" = some (.ref (He.ga K "hermite")) := He.glo_ok X G (c.fact 9 (f := .glo "hermite") rfl)
  obtain ⟨fd12, F120⟩ := c.def_ 10 (d := hd12) rfl
  have F12 : FunD K "hermite_table" "hermite_table" (defArgs (top 12)) (defBody (top 12)) (defScope (top 12)) [] [] (He.ga K "hermite_table") fd12 := F120
  have m12 : mg "hermite_table" = some (.ref (He.ga K "hermite_table")) := He.glo_ok X G (c.fact 10 (f := .glo "hermite_table") rfl)
  obtain ⟨fd14, F140⟩ := c.def_ 11 (d := hd14) rfl
  have F14 : FunD K "_law_bag" "_law_bag" (defArgs (top 14)) (defBody (top 14)) (defScope (top 14)) [] [] (He.ga K "_law_bag") fd14 := F140
  have m14 : mg "_law_bag" = some (.ref (He.ga K "_law_bag")) := He.glo_ok X G (c.fact 11 (f := .glo "_law_bag") rfl)
  obtain ⟨fd15, F150⟩ := c.def_ 12 (d := hd15) rfl
  have F15 : FunD K "_law_draw" "_law_draw" (defArgs (top 15)) (defBody (top 15)) (defScope (top 15)) [] [] (He.ga K "_law_draw") fd15 := F150
  have m15 : mg "_law_draw" = some (.ref (He.ga K "_law_draw")) := He.glo_ok X G (c.fact 12 (f := .glo "_law_draw") rfl)
  obtain ⟨fd16, F160⟩ := c.def_ 13 (d := hd16) rfl
  have F16 : FunD K "_law_pick" "_law_pick" (defArgs (top 16)) (defBody (top 16)) (defScope (top 16)) [] [] (He.ga K "_law_pick") fd16 := F160
  have m16 : mg "_law_pick" = some (.ref (He.ga K "_law_pick")) := He.glo_ok X G (c.fact 13 (f := .glo "_law_pick") rfl)
  obtain ⟨fd17, F170⟩ := c.def_ 14 (d := hd17) rfl
  have F17 : FunD K "_law_mixed" "_law_mixed" (defArgs (top 17)) (defBody (top 17)) (defScope (top 17)) [] [] (He.ga K "_law_mixed") fd17 := F170
  have m17 : mg "_law_mixed" = some (.ref (He.ga K "_law_mixed")) := He.glo_ok X G (c.fact 14 (f := .glo "_law_mixed") rfl)
  obtain ⟨fd18, F180⟩ := c.def_ 15 (d := hd18) rfl
  have F18 : FunD K "_law_huge" "_law_huge" (defArgs (top 18)) (defBody (top 18)) (defScope (top 18)) [] [] (He.ga K "_law_huge") fd18 := F180
  have m18 : mg "_law_huge" = some (.ref (He.ga K "_law_huge")) := He.glo_ok X G (c.fact 15 (f := .glo "_law_huge") rfl)
  obtain ⟨fd19, F190⟩ := c.def_ 16 (d := hd19) rfl
  have F19 : FunD K "_law_number" "_law_number" (defArgs (top 19)) (defBody (top 19)) (defScope (top 19)) [] [] (He.ga K "_law_number") fd19 := F190
  have m19 : mg "_law_number" = some (.ref (He.ga K "_law_number")) := He.glo_ok X G (c.fact 16 (f := .glo "_law_number") rfl)
  obtain ⟨fd20, F200⟩ := c.def_ 17 (d := hd20) rfl
  have F20 : FunD K "_law_vector" "_law_vector" (defArgs (top 20)) (defBody (top 20)) (defScope (top 20)) [] [] (He.ga K "_law_vector") fd20 := F200
  have m20 : mg "_law_vector" = some (.ref (He.ga K "_law_vector")) := He.glo_ok X G (c.fact 17 (f := .glo "_law_vector") rfl)
  obtain ⟨fd21, F210⟩ := c.def_ 18 (d := hd21) rfl
  have F21 : FunD K "_law_small" "_law_small" (defArgs (top 21)) (defBody (top 21)) (defScope (top 21)) [] [] (He.ga K "_law_small") fd21 := F210
  have m21 : mg "_law_small" = some (.ref (He.ga K "_law_small")) := He.glo_ok X G (c.fact 18 (f := .glo "_law_small") rfl)
  obtain ⟨fd22, F220⟩ := c.def_ 19 (d := hd22) rfl
  have F22 : FunD K "_law_int" "_law_int" (defArgs (top 22)) (defBody (top 22)) (defScope (top 22)) [] [] (He.ga K "_law_int") fd22 := F220
  have m22 : mg "_law_int" = some (.ref (He.ga K "_law_int")) := He.glo_ok X G (c.fact 19 (f := .glo "_law_int") rfl)
  obtain ⟨fd23, F230⟩ := c.def_ 20 (d := hd23) rfl
  have F23 : FunD K "_law_is_vector" "_law_is_vector" (defArgs (top 23)) (defBody (top 23)) (defScope (top 23)) [] [] (He.ga K "_law_is_vector") fd23 := F230
  have m23 : mg "_law_is_vector" = some (.ref (He.ga K "_law_is_vector")) := He.glo_ok X G (c.fact 20 (f := .glo "_law_is_vector") rfl)
  obtain ⟨fd24, F240⟩ := c.def_ 21 (d := hd24) rfl
  have F24 : FunD K "_law_same" "_law_same" (defArgs (top 24)) (defBody (top 24)) (defScope (top 24)) [] [] (He.ga K "_law_same") fd24 := F240
  have m24 : mg "_law_same" = some (.ref (He.ga K "_law_same")) := He.glo_ok X G (c.fact 21 (f := .glo "_law_same") rfl)
  obtain ⟨fd25, F250⟩ := c.def_ 22 (d := hd25) rfl
  have F25 : FunD K "_law_less" "_law_less" (defArgs (top 25)) (defBody (top 25)) (defScope (top 25)) [] [] (He.ga K "_law_less") fd25 := F250
  have m25 : mg "_law_less" = some (.ref (He.ga K "_law_less")) := He.glo_ok X G (c.fact 22 (f := .glo "_law_less") rfl)
  obtain ⟨fd26, F260⟩ := c.def_ 23 (d := hd26) rfl
  have F26 : FunD K "_law_pivot" "_law_pivot" (defArgs (top 26)) (defBody (top 26)) (defScope (top 26)) [] [] (He.ga K "_law_pivot") fd26 := F260
  have m26 : mg "_law_pivot" = some (.ref (He.ga K "_law_pivot")) := He.glo_ok X G (c.fact 23 (f := .glo "_law_pivot") rfl)
  obtain ⟨fd27, F270⟩ := c.def_ 24 (d := hd27) rfl
  have F27 : FunD K "_law_numbers" "_law_numbers" (defArgs (top 27)) (defBody (top 27)) (defScope (top 27)) [] [] (He.ga K "_law_numbers") fd27 := F270
  have m27 : mg "_law_numbers" = some (.ref (He.ga K "_law_numbers")) := He.glo_ok X G (c.fact 24 (f := .glo "_law_numbers") rfl)
  obtain ⟨fd28, F280⟩ := c.def_ 25 (d := hd28) rfl
  have F28 : FunD K "_law_taken" "_law_taken" (defArgs (top 28)) (defBody (top 28)) (defScope (top 28)) [] [] (He.ga K "_law_taken") fd28 := F280
  have m28 : mg "_law_taken" = some (.ref (He.ga K "_law_taken")) := He.glo_ok X G (c.fact 25 (f := .glo "_law_taken") rfl)
  obtain ⟨fd29, F290⟩ := c.def_ 26 (d := hd29) rfl
  have F29 : FunD K "_law_rows" "_law_rows" (defArgs (top 29)) (defBody (top 29)) (defScope (top 29)) [] [] (He.ga K "_law_rows") fd29 := F290
  have m29 : mg "_law_rows" = some (.ref (He.ga K "_law_rows")) := He.glo_ok X G (c.fact 26 (f := .glo "_law_rows") rfl)
  obtain ⟨fd30, F300⟩ := c.def_ 27 (d := hd30) rfl
  have F30 : FunD K "_law_other_rows" "_law_other_rows" (defArgs (top 30)) (defBody (top 30)) (defScope (top 30)) [] [] (He.ga K "_law_other_rows") fd30 := F300
  have m30 : mg "_law_other_rows" = some (.ref (He.ga K "_law_other_rows")) := He.glo_ok X G (c.fact 27 (f := .glo "_law_other_rows") rfl)
  obtain ⟨fd31, F310⟩ := c.def_ 28 (d := hd31) rfl
  have F31 : FunD K "_law_is_basis" "_law_is_basis" (defArgs (top 31)) (defBody (top 31)) (defScope (top 31)) [] [] (He.ga K "_law_is_basis") fd31 := F310
  have m31 : mg "_law_is_basis" = some (.ref (He.ga K "_law_is_basis")) := He.glo_ok X G (c.fact 28 (f := .glo "_law_is_basis") rfl)
  obtain ⟨fd32, F320⟩ := c.def_ 29 (d := hd32) rfl
  have F32 : FunD K "_law_counts_so" "_law_counts_so" (defArgs (top 32)) (defBody (top 32)) (defScope (top 32)) [] [] (He.ga K "_law_counts_so") fd32 := F320
  have m32 : mg "_law_counts_so" = some (.ref (He.ga K "_law_counts_so")) := He.glo_ok X G (c.fact 29 (f := .glo "_law_counts_so") rfl)
  obtain ⟨fd33, F330⟩ := c.def_ 30 (d := hd33) rfl
  have F33 : FunD K "law" "law" (defArgs (top 33)) (defBody (top 33)) (defScope (top 33)) [] [] (He.ga K "law") fd33 := F330
  have m33 : mg "law" = some (.ref (He.ga K "law")) := He.glo_ok X G (c.fact 30 (f := .glo "law") rfl)
  have hfree : ∀ y ∈ bnames, mg y = none := by
    intro y hy
    simp only [bnames, List.mem_cons, List.not_mem_nil, or_false] at hy
    rcases hy with rfl | rfl | rfl | rfl | rfl | rfl | rfl | rfl | rfl | rfl | rfl | rfl | rfl | rfl | rfl | rfl | rfl | rfl | rfl
    · exact He.free_ok X G (c.fact 31 (f := .free "len") rfl)
    · exact He.free_ok X G (c.fact 32 (f := .free "abs") rfl)
    · exact He.free_ok X G (c.fact 33 (f := .free "int") rfl)
    · exact He.free_ok X G (c.fact 34 (f := .free "list") rfl)
    · exact He.free_ok X G (c.fact 35 (f := .free "tuple") rfl)
    · exact He.free_ok X G (c.fact 36 (f := .free "sum") rfl)
    · exact He.free_ok X G (c.fact 37 (f := .free "all") rfl)
    · exact He.free_ok X G (c.fact 38 (f := .free "any") rfl)
    · exact He.free_ok X G (c.fact 39 (f := .free "min") rfl)
    · exact He.free_ok X G (c.fact 40 (f := .free "max") rfl)
    · exact He.free_ok X G (c.fact 41 (f := .free "isinstance") rfl)
    · exact He.free_ok X G (c.fact 42 (f := .free "range") rfl)
    · exact He.free_ok X G (c.fact 43 (f := .free "enumerate") rfl)
    · exact He.free_ok X G (c.fact 44 (f := .free "zip") rfl)
    · exact He.free_ok X G (c.fact 45 (f := .free "reversed") rfl)
    · exact He.free_ok X G (c.fact 46 (f := .free "bool") rfl)
    · exact He.free_ok X G (c.fact 47 (f := .free "str") rfl)
    · exact He.free_ok X G (c.fact 48 (f := .free "dict") rfl)
    · exact He.free_ok X G (c.fact 49 (f := .free "sorted") rfl)
  have e := hfa.symm.trans m33
  cases e
  have bl := FunD.bindsA (ps := ["_law_script"]) F33 fun _ _ _ _ _ _ us hl => match us, hl with | [_], _ => rfl
  refine ⟨fd33, fun s v => bl s [v] rfl, fun base _ _ => ?_⟩
  have h_unit : FnT P w K mg base ⟨K, []⟩ 1 "unit" (unitZ) := fnT_of (Γ := []) (z := y_unit) (S := unitZ) F1 rfl m1 (F1.bindsN fun _ _ _ _ _ _ us hl => match us, hl with | [_, _], _ => rfl) sc_unit ck_unit hfree (FnTs.get .nil) (fun us O Q E h => by obtain ⟨_, _, rfl, _⟩ := h <;> rfl) k_unit
  have h_vector_times : FnT P w K mg base ⟨K, []⟩ 1 "vector_times" (timesZ) := fnT_of (Γ := []) (z := y_vector_times) (S := timesZ) F2 rfl m2 (F2.bindsN fun _ _ _ _ _ _ us hl => match us, hl with | [_, _], _ => rfl) sc_vector_times ck_vector_times hfree (FnTs.get .nil) (fun us O Q E h => by obtain ⟨_, rfl, _⟩ := h <;> rfl) k_vector_times
  have h_pivot_place : FnT P w K mg base ⟨K, []⟩ 1 "pivot_place" (pvZ) := fnT_of (Γ := []) (z := y_pivot_place) (S := pvZ) F4 rfl m4 (F4.bindsN fun _ _ _ _ _ _ us hl => match us, hl with | [_, _], _ => rfl) sc_pivot_place ck_pivot_place hfree (FnTs.get .nil) (fun us O Q E h => by obtain ⟨_, _, rfl, _⟩ := h <;> rfl) k_pivot_place
  have h_less_times : FnT P w K mg base ⟨K, []⟩ 1 "less_times" (lessZ) := fnT_of (Γ := []) (z := y_less_times) (S := lessZ) F5 rfl m5 (F5.bindsN fun _ _ _ _ _ _ us hl => match us, hl with | [_, _, _], _ => rfl) sc_less_times ck_less_times hfree (FnTs.get .nil) (fun us O Q E h => by obtain ⟨_, _, _, rfl, _⟩ := h <;> rfl) k_less_times
  have h__law_bag : FnT P w K mg base ⟨K, []⟩ 1 "_law_bag" (bagZ) := fnT_of (Γ := []) (z := y__law_bag) (S := bagZ) F14 rfl m14 (F14.bindsN fun _ _ _ _ _ _ us hl => match us, hl with | [_], _ => rfl) sc__law_bag ck__law_bag hfree (FnTs.get .nil) (fun us O Q E h => by obtain ⟨_, rfl, _⟩ := h <;> rfl) k_law_bag
  have h__law_draw : FnT P w K mg base ⟨K, []⟩ 1 "_law_draw" (drawZ) := fnT_of (Γ := []) (z := y__law_draw) (S := drawZ) F15 rfl m15 (F15.bindsN fun _ _ _ _ _ _ us hl => match us, hl with | [_, _], _ => rfl) sc__law_draw ck__law_draw hfree (FnTs.get .nil) (fun us O Q E h => by obtain ⟨_, _, rfl, _⟩ := h <;> rfl) k_law_draw
  have h__law_int : FnT P w K mg base ⟨K, []⟩ 1 "_law_int" (intZ) := fnT_of (Γ := []) (z := y__law_int) (S := intZ) F22 rfl m22 (F22.bindsN fun _ _ _ _ _ _ us hl => match us, hl with | [_], _ => rfl) sc__law_int ck__law_int hfree (FnTs.get .nil) (fun us O Q E h => by obtain ⟨_, rfl, _⟩ := h <;> rfl) k_law_int
  have h__law_less : FnT P w K mg base ⟨K, []⟩ 1 "_law_less" (llessZ) := fnT_of (Γ := []) (z := y__law_less) (S := llessZ) F25 rfl m25 (F25.bindsN fun _ _ _ _ _ _ us hl => match us, hl with | [_, _, _], _ => rfl) sc__law_less ck__law_less hfree (FnTs.get .nil) (fun us O Q E h => by obtain ⟨_, _, _, _, rfl, _⟩ := h <;> rfl) k_law_less
  have h__law_pivot : FnT P w K mg base ⟨K, []⟩ 1 "_law_pivot" (lpvZ) := fnT_of (Γ := []) (z := y__law_pivot) (S := lpvZ) F26 rfl m26 (F26.bindsN fun _ _ _ _ _ _ us hl => match us, hl with | [_], _ => rfl) sc__law_pivot ck__law_pivot hfree (FnTs.get .nil) (fun us O Q E h => by obtain ⟨_, _, rfl, _⟩ := h <;> rfl) k_law_pivot
  have h__law_taken : FnT P w K mg base ⟨K, []⟩ 1 "_law_taken" (takenZ) := fnT_of (Γ := []) (z := y__law_taken) (S := takenZ) F28 rfl m28 (F28.bindsN fun _ _ _ _ _ _ us hl => match us, hl with | [_, _, _], _ => rfl) sc__law_taken ck__law_taken hfree (FnTs.get .nil) (fun us O Q E h => by obtain ⟨_, _, _, _, _, rfl, _⟩ := h <;> rfl) k_law_taken
  have h_remainder_by : FnT P w K mg base ⟨K, []⟩ 2 "remainder_by" (remZ) := fnT_of (Γ := [("less_times", lessZ), ("pivot_place", pvZ)]) (z := y_remainder_by) (S := remZ) F6 rfl m6 (F6.bindsN fun _ _ _ _ _ _ us hl => match us, hl with | [_, _, _], _ => rfl) sc_remainder_by ck_remainder_by hfree (FnTs.get (.cons (h_less_times.mono (by decide)) (.cons (h_pivot_place.mono (by decide)) .nil))) (fun us O Q E h => by obtain ⟨_, _, _, _, _, _, _, _, rfl, _⟩ := h <;> rfl) k_remainder_by
  have h_euclid_rows : FnT P w K mg base ⟨K, []⟩ 2 "euclid_rows" (eucZ) := fnT_of (Γ := [("less_times", lessZ)]) (z := y_euclid_rows) (S := eucZ) F7 rfl m7 (F7.bindsN fun _ _ _ _ _ _ us hl => match us, hl with | [_, _, _], _ => rfl) sc_euclid_rows ck_euclid_rows hfree (FnTs.get (.cons (h_less_times.mono (by decide)) .nil)) (fun us O Q E h => by obtain ⟨_, _, _, _, _, _, _, rfl, _⟩ := h <;> rfl) k_euclid_rows
  have h__law_pick : FnT P w K mg base ⟨K, []⟩ 2 "_law_pick" (pickZ) := fnT_of (Γ := [("_law_draw", drawZ)]) (z := y__law_pick) (S := pickZ) F16 rfl m16 (F16.bindsN fun _ _ _ _ _ _ us hl => match us, hl with | [_, _], _ => rfl) sc__law_pick ck__law_pick hfree (FnTs.get (.cons (h__law_draw.mono (by decide)) .nil)) (fun us O Q E h => by obtain ⟨_, _, ⟨rfl, _⟩ | ⟨rfl, _⟩, _⟩ := h <;> rfl) k_law_pick
  have h__law_mixed : FnT P w K mg base ⟨K, []⟩ 2 "_law_mixed" (mixedZ) := fnTD_of (Γ := [("_law_draw", drawZ)]) (z := y__law_mixed) (S := mixedZ) F17 rfl m17 (F17.bindsN fun _ _ _ _ _ _ us hl => match us, hl with | [_, _], _ => rfl) sc__law_mixed ck__law_mixed hfree (FnTs.get (.cons (h__law_draw.mono (by decide)) .nil)) (fun us O Q E h => by obtain ⟨_, _, rfl, _⟩ := h <;> rfl) k_law_mixed
  have h__law_small : FnT P w K mg base ⟨K, []⟩ 2 "_law_small" (vecZ) := fnT_of (Γ := [("_law_draw", drawZ)]) (z := y__law_small) (S := vecZ) F21 rfl m21 (F21.bindsN fun _ _ _ _ _ _ us hl => match us, hl with | [_, _, _], _ => rfl) sc__law_small ck__law_small hfree (FnTs.get (.cons (h__law_draw.mono (by decide)) .nil)) (fun us O Q E h => by obtain ⟨_, _, _, rfl, _⟩ := h <;> rfl) k_law_small
  have h__law_is_vector : FnT P w K mg base ⟨K, []⟩ 2 "_law_is_vector" (isvZ) := fnT_of (Γ := [("_law_int", intZ)]) (z := y__law_is_vector) (S := isvZ) F23 rfl m23 (F23.bindsN fun _ _ _ _ _ _ us hl => match us, hl with | [_, _], _ => rfl) sc__law_is_vector ck__law_is_vector hfree (FnTs.get (.cons (h__law_int.mono (by decide)) .nil)) (fun us O Q E h => by obtain ⟨_, rfl, _⟩ := h <;> rfl) k_law_is_vector
  have h__law_numbers : FnT P w K mg base ⟨K, []⟩ 2 "_law_numbers" (numsZ) := fnTD_of (Γ := [("_law_less", llessZ), ("_law_pivot", lpvZ)]) (z := y__law_numbers) (S := numsZ) F27 rfl m27 (F27.bindsN fun _ _ _ _ _ _ us hl => match us, hl with | [_, _], _ => rfl) sc__law_numbers ck__law_numbers hfree (FnTs.get (.cons (h__law_less.mono (by decide)) (.cons (h__law_pivot.mono (by decide)) .nil))) (fun us O Q E h => by obtain ⟨_, _, _, _, rfl, _⟩ := h <;> rfl) k_law_numbers
  have h_basis_with_row : FnT P w K mg base ⟨K, []⟩ 3 "basis_with_row" (bwrZ) := fnTD_of (Γ := [("pivot_place", pvZ), ("euclid_rows", eucZ)]) (z := y_basis_with_row) (S := bwrZ) F8 rfl m8 (F8.bindsN fun _ _ _ _ _ _ us hl => match us, hl with | [_, _, _], _ => rfl) sc_basis_with_row ck_basis_with_row hfree (FnTs.get (.cons (h_pivot_place.mono (by decide)) (.cons (h_euclid_rows.mono (by decide)) .nil))) (fun us O Q E h => by obtain ⟨_, _, _, _, _, _, _, rfl, _⟩ := h <;> rfl) k_basis_with_row
  have h_reduced_basis : FnT P w K mg base ⟨K, []⟩ 3 "reduced_basis" (redbZ) := fnT_of (Γ := [("remainder_by", remZ), ("pivot_place", pvZ), ("vector_times", timesZ)]) (z := y_reduced_basis) (S := redbZ) F9 rfl m9 (F9.bindsN fun _ _ _ _ _ _ us hl => match us, hl with | [_, _], _ => rfl) sc_reduced_basis ck_reduced_basis hfree (FnTs.get (.cons (h_remainder_by.mono (by decide)) (.cons (h_pivot_place.mono (by decide)) (.cons (h_vector_times.mono (by decide)) .nil)))) (fun us O Q E h => by obtain ⟨_, _, _, _, _, rfl, _⟩ := h <;> rfl) k_reduced_basis
  have h__law_huge : FnT P w K mg base ⟨K, []⟩ 3 "_law_huge" (hugeZ) := fnT_of (Γ := [("_law_pick", pickZ), ("_law_draw", drawZ)]) (z := y__law_huge) (S := hugeZ) F18 rfl m18 (F18.bindsN fun _ _ _ _ _ _ us hl => match us, hl with | [_], _ => rfl) sc__law_huge ck__law_huge hfree (FnTs.get (.cons (h__law_pick.mono (by decide)) (.cons (h__law_draw.mono (by decide)) .nil))) (fun us O Q E h => by obtain ⟨_, rfl, _⟩ := h <;> rfl) k_law_huge
  have h__law_other_rows : FnT P w K mg base ⟨K, []⟩ 3 "_law_other_rows" (othZ) := fnTD_of (Γ := [("_law_mixed", mixedZ), ("_law_taken", takenZ), ("_law_draw", drawZ), ("_law_less", llessZ)]) (z := y__law_other_rows) (S := othZ) F30 rfl m30 (F30.bindsN fun _ _ _ _ _ _ us hl => match us, hl with | [_, _, _], _ => rfl) sc__law_other_rows ck__law_other_rows hfree (FnTs.get (.cons (h__law_mixed.mono (by decide)) (.cons (h__law_taken.mono (by decide)) (.cons (h__law_draw.mono (by decide)) (.cons (h__law_less.mono (by decide)) .nil))))) (fun us O Q E h => by obtain ⟨_, _, _, rfl, _⟩ := h <;> rfl) k_law_other_rows
  have h__law_is_basis : FnT P w K mg base ⟨K, []⟩ 3 "_law_is_basis" (isbZ) := fnT_of (Γ := [("_law_pivot", lpvZ), ("_law_is_vector", isvZ)]) (z := y__law_is_basis) (S := isbZ) F31 rfl m31 (F31.bindsN fun _ _ _ _ _ _ us hl => match us, hl with | [_, _], _ => rfl) sc__law_is_basis ck__law_is_basis hfree (FnTs.get (.cons (h__law_pivot.mono (by decide)) (.cons (h__law_is_vector.mono (by decide)) .nil))) (fun us O Q E h => by obtain ⟨_, _, rfl, _⟩ := h <;> rfl) k_law_is_basis
  have h__law_counts_so : FnT P w K mg base ⟨K, []⟩ 3 "_law_counts_so" (cntZ) := fnT_of (Γ := [("_law_taken", takenZ), ("_law_is_vector", isvZ)]) (z := y__law_counts_so) (S := cntZ) F32 rfl m32 (F32.bindsN fun _ _ _ _ _ _ us hl => match us, hl with | [_, _, _, _], _ => rfl) sc__law_counts_so ck__law_counts_so hfree (FnTs.get (.cons (h__law_taken.mono (by decide)) (.cons (h__law_is_vector.mono (by decide)) .nil))) (fun us O Q E h => by obtain ⟨_, _, _, _, ⟨rfl, _⟩ | ⟨rfl, _⟩, _⟩ := h <;> rfl) k_law_counts_so
  have h_basis_rows : FnT P w K mg base ⟨K, []⟩ 4 "basis_rows" (brZ) := fnT_of (Γ := [("pivot_place", pvZ), ("reduced_basis", redbZ), ("basis_with_row", bwrZ), ("remainder_by", remZ)]) (z := y_basis_rows) (S := brZ) F10 rfl m10 (F10.bindsN fun _ _ _ _ _ _ us hl => match us, hl with | [_, _], _ => rfl) sc_basis_rows ck_basis_rows hfree (FnTs.get (.cons (h_pivot_place.mono (by decide)) (.cons (h_reduced_basis.mono (by decide)) (.cons (h_basis_with_row.mono (by decide)) (.cons (h_remainder_by.mono (by decide)) .nil))))) (fun us O Q E h => by obtain ⟨_, _, _, _, rfl, _⟩ := h <;> rfl) k_basis_rows
  have h_basis_rows__d : FnT P w K mg base ⟨K, []⟩ 4 "basis_rows" (brdZ) := fnTD_of (Γ := [("pivot_place", pvZ), ("reduced_basis", redbZ), ("basis_with_row", bwrZ), ("remainder_by", remZ)]) (z := y_basis_rows__d) (S := brdZ) F10 rfl m10 (F10.bindsN fun _ _ _ _ _ _ us hl => match us, hl with | [_, _], _ => rfl) sc_basis_rows__d ck_basis_rows__d hfree (FnTs.get (.cons (h_pivot_place.mono (by decide)) (.cons (h_reduced_basis.mono (by decide)) (.cons (h_basis_with_row.mono (by decide)) (.cons (h_remainder_by.mono (by decide)) .nil))))) (fun us O Q E h => by obtain ⟨_, _, _, _, rfl, _⟩ := h <;> rfl) k_basis_rows__d
  have h__law_number : FnT P w K mg base ⟨K, []⟩ 4 "_law_number" (numZ) := fnT_of (Γ := [("_law_draw", drawZ), ("_law_huge", hugeZ), ("_law_pick", pickZ)]) (z := y__law_number) (S := numZ) F19 rfl m19 (F19.bindsN fun _ _ _ _ _ _ us hl => match us, hl with | [_, _], _ => rfl) sc__law_number ck__law_number hfree (FnTs.get (.cons (h__law_draw.mono (by decide)) (.cons (h__law_huge.mono (by decide)) (.cons (h__law_pick.mono (by decide)) .nil)))) (fun us O Q E h => by obtain ⟨_, _, rfl, _⟩ := h <;> rfl) k_law_number
  have s0 : FnT P w K mg base ⟨K, []⟩ 0 "_law_same" fun _ _ _ _ => False := fnT_false (ps := ps__law_same) F24 m24 (F24.bindsN fun _ _ _ _ _ _ us hl => match us, hl with | [_, _], _ => rfl)
  have s1 : FnT P w K mg base ⟨K, []⟩ 1 "_law_same" ((sameZ 0)) := fnT_of (Γ := [("_law_same", (fun _ _ _ _ => False))]) (z := y__law_same) (S := (sameZ 0)) F24 rfl m24 (F24.bindsN fun _ _ _ _ _ _ us hl => match us, hl with | [_, _], _ => rfl) sc__law_same ck__law_same hfree (FnTs.get (.cons s0 .nil)) (fun us O Q E h => by obtain ⟨_, rfl, _⟩ := h <;> rfl) (k_law_same 0 (fun _ _ _ _ => False) (fun m hm => absurd hm (by omega)))
  have s2 : FnT P w K mg base ⟨K, []⟩ 2 "_law_same" ((sameZ 1)) := fnT_of (Γ := [("_law_same", (sameZ 0))]) (z := y__law_same) (S := (sameZ 1)) F24 rfl m24 (F24.bindsN fun _ _ _ _ _ _ us hl => match us, hl with | [_, _], _ => rfl) sc__law_same ck__law_same hfree (FnTs.get (.cons s1 .nil)) (fun us O Q E h => by obtain ⟨_, rfl, _⟩ := h <;> rfl) (k_law_same 1 (sameZ 0) (fun m hm => by obtain rfl : m = 0 := (by omega); rfl))
  have s3 : FnT P w K mg base ⟨K, []⟩ 3 "_law_same" ((sameZ 2)) := fnT_of (Γ := [("_law_same", (sameZ 1))]) (z := y__law_same) (S := (sameZ 2)) F24 rfl m24 (F24.bindsN fun _ _ _ _ _ _ us hl => match us, hl with | [_, _], _ => rfl) sc__law_same ck__law_same hfree (FnTs.get (.cons s2 .nil)) (fun us O Q E h => by obtain ⟨_, rfl, _⟩ := h <;> rfl) (k_law_same 2 (sameZ 1) (fun m hm => by obtain rfl : m = 1 := (by omega); rfl))
  have s4 : FnT P w K mg base ⟨K, []⟩ 4 "_law_same" ((sameOZ 3)) := fnT_of (Γ := [("_law_same", (sameZ 2))]) (z := y__law_same) (S := (sameOZ 3)) F24 rfl m24 (F24.bindsN fun _ _ _ _ _ _ us hl => match us, hl with | [_, _], _ => rfl) sc__law_same ck__law_same hfree (FnTs.get (.cons s3 .nil)) (fun us O Q E h => by obtain ⟨_, rfl, _⟩ | ⟨_, rfl, _⟩ := h <;> rfl) (k_law_sameO 3 (sameZ 2) (fun m hm => by obtain rfl : m = 2 := (by omega); rfl))
  have h__law_same := s4
  have h_hermite : FnT P w K mg base ⟨K, []⟩ 5 "hermite" (brZ) := fnT_of (Γ := [("basis_rows", brZ)]) (z := y_hermite) (S := brZ) F11 rfl m11 (F11.bindsN fun _ _ _ _ _ _ us hl => match us, hl with | [_, _], _ => rfl) sc_hermite ck_hermite hfree (FnTs.get (.cons (h_basis_rows.mono (by decide)) .nil)) (fun us O Q E h => by obtain ⟨_, _, _, _, rfl, _⟩ := h <;> rfl) k_hermite
  have h_hermite__d : FnT P w K mg base ⟨K, []⟩ 5 "hermite" (brdZ) := fnT_of (Γ := [("basis_rows", brdZ)]) (z := y_hermite__d) (S := brdZ) F11 rfl m11 (F11.bindsN fun _ _ _ _ _ _ us hl => match us, hl with | [_, _], _ => rfl) sc_hermite__d ck_hermite__d hfree (FnTs.get (.cons (h_basis_rows__d.mono (by decide)) .nil)) (fun us O Q E h => by obtain ⟨_, _, _, _, rfl, _⟩ := h <;> rfl) k_hermite__d
  have h_hermite_table : FnT P w K mg base ⟨K, []⟩ 5 "hermite_table" (tabZ true) := fnT_of (Γ := [("basis_rows", brdZ), ("unit", unitZ)]) (z := y_hermite_table) (S := tabZ true) F12 rfl m12 (F12.bindsN fun _ _ _ _ _ _ us hl => match us, hl with | [_, _], _ => rfl) sc_hermite_table ck_hermite_table hfree (FnTs.get (.cons (h_basis_rows__d.mono (by decide)) (.cons (h_unit.mono (by decide)) .nil))) (fun us O Q E h => by obtain ⟨_, _, _, rfl, _⟩ := h <;> rfl) k_hermite_table
  have h_hermite_table__d : FnT P w K mg base ⟨K, []⟩ 5 "hermite_table" (tabZ false) := fnT_of (Γ := [("basis_rows", brdZ), ("unit", unitZ)]) (z := y_hermite_table__d) (S := tabZ false) F12 rfl m12 (F12.bindsN fun _ _ _ _ _ _ us hl => match us, hl with | [_, _], _ => rfl) sc_hermite_table__d ck_hermite_table__d hfree (FnTs.get (.cons (h_basis_rows__d.mono (by decide)) (.cons (h_unit.mono (by decide)) .nil))) (fun us O Q E h => by obtain ⟨_, _, _, rfl, _⟩ := h <;> rfl) k_hermite_table__d
  have h__law_vector : FnT P w K mg base ⟨K, []⟩ 5 "_law_vector" (vecZ) := fnT_of (Γ := [("_law_number", numZ)]) (z := y__law_vector) (S := vecZ) F20 rfl m20 (F20.bindsN fun _ _ _ _ _ _ us hl => match us, hl with | [_, _, _], _ => rfl) sc__law_vector ck__law_vector hfree (FnTs.get (.cons (h__law_number.mono (by decide)) .nil)) (fun us O Q E h => by obtain ⟨_, _, _, rfl, _⟩ := h <;> rfl) k_law_vector
  have h__law_rows : FnT P w K mg base ⟨K, []⟩ 6 "_law_rows" (rowsZ) := fnTD_of (Γ := [("_law_pick", pickZ), ("_law_draw", drawZ), ("_law_taken", takenZ), ("_law_vector", vecZ), ("_law_small", vecZ)]) (z := y__law_rows) (S := rowsZ) F29 rfl m29 (F29.bindsN fun _ _ _ _ _ _ us hl => match us, hl with | [_, _], _ => rfl) sc__law_rows ck__law_rows hfree (FnTs.get (.cons (h__law_pick.mono (by decide)) (.cons (h__law_draw.mono (by decide)) (.cons (h__law_taken.mono (by decide)) (.cons (h__law_vector.mono (by decide)) (.cons (h__law_small.mono (by decide)) .nil)))))) (fun us O Q E h => by obtain ⟨_, _, rfl, _⟩ := h <;> rfl) k_law_rows
  exact fnOk_of (Γ := [("_law_same", sameOZ 3), ("hermite_table", tabZ false), ("hermite", brdZ), ("_law_counts_so", cntZ), ("_law_other_rows", othZ), ("hermite_table", tabZ true), ("_law_numbers", numsZ), ("_law_is_basis", isbZ), ("hermite", brZ), ("_law_draw", drawZ), ("_law_pick", pickZ), ("_law_vector", vecZ), ("_law_rows", rowsZ), ("_law_bag", bagZ)]) (z := y_law) (S := lawZ 63) F33 rfl sc_law ck_law hfree (FnTs.get (.cons (h__law_same.mono (by decide)) (.cons (h_hermite_table__d.mono (by decide)) (.cons (h_hermite__d.mono (by decide)) (.cons (h__law_counts_so.mono (by decide)) (.cons (h__law_other_rows.mono (by decide)) (.cons (h_hermite_table.mono (by decide)) (.cons (h__law_numbers.mono (by decide)) (.cons (h__law_is_basis.mono (by decide)) (.cons (h_hermite.mono (by decide)) (.cons (h__law_draw.mono (by decide)) (.cons (h__law_pick.mono (by decide)) (.cons (h__law_vector.mono (by decide)) (.cons (h__law_rows.mono (by decide)) (.cons (h__law_bag.mono (by decide)) .nil))))))))))))))) (fun us O Q E h => by obtain ⟨_, rfl, _⟩ := h <;> rfl) k_law
end Z
open PySem PySem.W PySem.Calls PyProof.Rows
theorem PySem.Challenge.cw_endlessnets_k06_whole_staircases_holds : PySem.Challenge.rw_endlessnets_k06_whole_staircases.Holds := by
  w_on; o_law
  refine HandSHeadRun.head_any (r := OpenLaw.row PySem.Challenge.rw_endlessnets_k06_whole_staircases) (q := view (OpenLaw.row PySem.Challenge.rw_endlessnets_k06_whole_staircases).prog [33]) (H := Z.hhk) (ob := Z.hob) (M := 8000) (loose := Z.hnames) (d := HandSHeadRun.topDef (OpenLaw.row PySem.Challenge.rw_endlessnets_k06_whole_staircases).prog 33) (kwd := []) Z.hob_eq
    (by kernel_rfl) (fun s => by kernel_rfl) Z.hrun (by kernel_rfl) (by kernel_rfl) (by kernel_rfl) (by rfl) (by first | assumption | decide +kernel) (by decide +kernel) ⟨rfl, rfl, rfl, rfl, rfl, by decide +kernel⟩ ?hw ?hc
  case hw => w_witness2
  case hc =>
    refine LamX.walk_ofTsE (l := PySem.Challenge.rw_endlessnets_k06_whole_staircases) (n := 63) (k := 7) (x := "_law_script") (CX := fun w => L2.CX (PySem.Challenge.rw_endlessnets_k06_whole_staircases).prog w) rfl (by decide) (by kernel_rfl) ⟨rfl, by decide, by decide⟩ ?F (fun w H s e s' ⟨_, _, _, _, _, _, _, _, _, _, _, _, z⟩ => z)
    intro w mg fa h Y G hmg0
    obtain ⟨K, KX, c⟩ := Y
    have hmg : mg ("law" : PySem.Str) = some (.ref fa) := by
      have e : (HandSHeadRun.topDef (OpenLaw.row PySem.Challenge.rw_endlessnets_k06_whole_staircases).prog 33).name = ("law" : PySem.Str) := by kernel_rfl
      rw [← e]
      exact hmg0
    obtain ⟨fd, hb, hF⟩ := Z.law_at _ rfl (w := w) KX G hmg c.t.d
    exact ⟨K, KX, fd, [], _, (fun p hp => by cases hp), (fun p hp => by cases hp), (fun p hp => by cases hp), hb, fun H a ns hl _ _ hS => Z.lawZ_low rfl hl hS, fun base h1 h2 _ => hF base h1 h2⟩

