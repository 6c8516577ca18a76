import PyProof.Rows.All
import Wide.All
import OpenK.AllK
import Wide.FinOn
import PyProof.EqAt
import PyProof.EqKinds
import PyProof.TupleCall
import HandS.Base
import HandS.Call
import HandS.List
import HandS.Comp
import HandS.Iter
import HandS.Walk
import HandS.Exc
import HandS.Words
import HandS.WordsExc
import HandS.Wide
import HandS.Lambda
import HandS.HeadHook1
import HandS.ExcInit
import HandS.ExcField
import HandS.StrMore
import KE.KExcIs
import KE.KTryMore
import HandS.HotCalls
import HandS.TryMany
import HandS.Defaults
import HandS.TupAny
import HandS.IsInst
import HandS.Text
import HandS.TupMul
import PyProof.SumWalkG
import PyProof.SumAny
import HandS.More
import HandS.Star
import KE.GoesMore
import HandS.Zip0
import KE.GoesZip
import KE.GoesEnum
import HandS.Zip
import HandS.NoneIn
import HandS.FStr
import HandS.Style
import HandS.Codes
import HandS.HeadEnd
import HandS.HeadHook4
import Wide.Txt
import HandS.MakeKw
import HandS.Head0
import HandS.Head1
import PySem.Challenge.RW_endlessnets_k01_words_judged
import HandS.Head2
import HandS.HeadHook2
import HandS.HeadHook3
import HandS.HeadWalk
import KE.KStateDown
import HandS.Ends
set_option Elab.async false
set_option linter.all false
set_option maxRecDepth 100000
set_option maxHeartbeats 4000000
namespace Z
open PySem PySem.Spec PyProof.Rows L2

/-! ### deep data -/
inductive D where
  | non | bl (b : Bool) | int (i : Int) | str (x : Str)
  | tup (ds : List D) | lst (ds : List D)
  | dct (ks : List Key) (ds : List D)
  | obj (C : Str) (ns : List Str) (ds : List D)
  /-- an error, not raised -/
  | exc (C : Str) (ns : List Str) (ds : List D)
  | scr (ns : List Int)
/-- what an owned place holds -/
inductive DO where
  | lst (ds : List D)
  | frz (ds : List D)
  | brw (ds : List D)
  | ob (C : Str × List Str) (fs : List (Str × D))
inductive U where
  | d (x : D)
  | o (k : Nat)
  | t (us : List U)
  | l (us : List U)

/-- what a class of ours must have, what its instances' attributes may be called -/
def btys : List String := ["bool", "int", "str", "list", "tuple", "dict"]
/-- what operators ask of a class: its order among others, what isinstance answers -/
def opcB (K : PySem.W.Frag) (C : Addr) : Bool := PySem.W.selfFirst K C && PySem.W.notFirst K C (.ref C) && ("NoneType" :: btys).all (fun t => PySem.W.notFirst K C (.type t) && decide (PySem.W.kitOne K (.type t) (.ref C) = some false) && decide (PySem.W.subIn K (.ref C) (.type t) = some false)) && btys.all (fun t => decide (PySem.W.kitOne K (.ref C) (.type t) = some false)) && decide (PySem.W.kitOne K (.ref C) (.ref C) = some true) &&
  decide (PySem.W.findIn K (.ref C) "__ne__" = some (some (.builtin "object.__ne__"))) && decide (PySem.W.findIn K (.ref C) "__class__" = some (some (.builtin "object.__class__"))) && decide (PySem.W.specialIn K (.builtin "object.__class__") "__get__" = some (some (.builtin "getset_descriptor.__get__"))) &&
  decide (PySem.W.takesIn K (.builtin "object.__class__") = some true) && decide (PySem.W.mroIn K C (.type "object") = some true)
def OkC (K : PySem.W.Frag) (c : Str) (ns : List Str) : Prop := Cls K (He.ga K c) ∧ (∀ f ∈ ns, NoAttr K (He.ga K c) f) ∧ opcB K (He.ga K c) = true
/-- what an error class of ours must have, that its instances may be values -/
def excB (K : PySem.W.Frag) (C : Addr) : Bool := xfB K C && (PySem.W.clsIn K C).isSome && decide (PySem.W.findIn K (.ref C) "__class__" = some (some (.builtin "object.__class__"))) && decide (PySem.W.specialIn K (.builtin "object.__class__") "__get__" = some (some (.builtin "getset_descriptor.__get__"))) &&
  decide (PySem.W.takesIn K (.builtin "object.__class__") = some true) && decide (PySem.W.mroIn K C (.type "object") = some true) && btys.all (fun t => decide (PySem.W.kitOne K (.ref C) (.type t) = some false))
def OkX (K : PySem.W.Frag) (c : Str) (ns : List Str) : Prop := excB K (He.ga K c) = true ∧ ∀ f ∈ ns, PySem.W.findIn K (.ref (He.ga K c)) f = some none
mutual
inductive At (K : PySem.W.Frag) (M : Addr → Prop) (H : Hp) : V → D → Prop
  | non : At K M H .non .non
  | bl (b : Bool) : At K M H (.bl b) (.bl b)
  | int (i : Int) : At K M H (.int i) (.int i)
  | str (x : Str) : At K M H (.str x) (.str x)
  | tup {a : Addr} {vs : List V} {ds : List D} : H a = some (.tup vs) → ¬ M a → Ats K M H vs ds → At K M H (.ref a) (.tup ds)
  | tupK {a : Addr} {vs : List V} {ds : List D} : (∀ H', SqT K H' a vs) → Ats K M H vs ds → At K M H (.ref a) (.tup ds)
  | lst {a : Addr} {vs : List V} {ds : List D} : H a = some (.lst vs) → ¬ M a → Ats K M H vs ds → At K M H (.ref a) (.lst ds)
  | dct {a : Addr} {o : Obj} {kvs : List (Key × V)} {ks : List Key} {ds : List D} : H a = some (.frz o (.dK kvs)) → ¬ M a → kvs.map (·.1) = ks → Ats K M H (kvs.map (·.2)) ds → At K M H (.ref a) (.dct ks ds)
  | obj {a dx : Addr} {c : Str} {fs : List (Str × V)} {ns : List Str} {ds : List D} : H a = some (.ins (He.ga K c) dx fs) → ¬ M a → OkC K c ns → fs.map (·.1) = ns → Ats K M H (fs.map (·.2)) ds → At K M H (.ref a) (.obj c ns ds)
  | exc {a dx : Addr} {c : Str} {fs : List (Str × V)} {ns : List Str} {ds : List D} : H a = some (exo a (He.ga K c) (some dx)) → H dx = some (exd dx fs) → ¬ M a → ¬ M dx → OkX K c ns → fs.map (·.1) = ns → Ats K M H (fs.map (·.2)) ds → At K M H (.ref a) (.exc c ns ds)
  | scr {a : Addr} {ns : List Int} : Rd H a (.lst (ns.map V.int)) → ¬ M a → At K M H (.ref a) (.scr ns)
  | scrK {a : Addr} {ns : List Int} : (∀ H', SqL K H' a (ns.map V.int)) → At K M H (.ref a) (.scr ns)
inductive Ats (K : PySem.W.Frag) (M : Addr → Prop) (H : Hp) : List V → List D → Prop
  | nil : Ats K M H [] []
  | cons {v : V} {d : D} {vs : List V} {ds : List D} : At K M H v d → Ats K M H vs ds → Ats K M H (v :: vs) (d :: ds)
end
theorem exd_tbl {a : Addr} {fs : List (Str × V)} {ps : Array Value} : exd a fs ≠ .tbl ps := fun z => by
  have z' : HO.ext _ = HO.tbl ps := z
  cases z'
section
variable {K : PySem.W.Frag} {M M' : Addr → Prop} {H H' : Hp}
mutual
theorem At.imp (h : ∀ a o, ¬ M a → H a = some o → (∀ ps, o ≠ .tbl ps) → H' a = some o ∧ ¬ M' a) : ∀ {v : V} {d : D}, At K M H v d → At K M' H' v d
  | _, _, .non => .non
  | _, _, .bl b => .bl b
  | _, _, .int i => .int i
  | _, _, .str x => .str x
  | _, _, .tup e m r => let ⟨e', m'⟩ := h _ _ m e (fun _ z => by cases z); .tup e' m' (Ats.imp h r)
  | _, _, .tupK e r => .tupK e (Ats.imp h r)
  | _, _, .lst e m r => let ⟨e', m'⟩ := h _ _ m e (fun _ z => by cases z); .lst e' m' (Ats.imp h r)
  | _, _, .dct e m k r => let ⟨e', m'⟩ := h _ _ m e (fun _ z => by cases z); .dct e' m' k (Ats.imp h r)
  | _, _, .obj e m c k r => let ⟨e', m'⟩ := h _ _ m e (fun _ z => by cases z); .obj e' m' c k (Ats.imp h r)
  | _, _, .exc e e2 m m2 c k r => let ⟨e', m'⟩ := h _ _ m e (fun _ z => exo_tbl z); let ⟨e2', m2'⟩ := h _ _ m2 e2 (fun _ z => exd_tbl z); .exc e' e2' m' m2' c k (Ats.imp h r)
  | _, _, .scr (.inl e) m => let ⟨e', m'⟩ := h _ _ m e (fun _ z => by cases z); .scr (.inl e') m'
  | _, _, .scr (.inr ⟨o, e⟩) m => let ⟨e', m'⟩ := h _ _ m e (fun _ z => by cases z); .scr (.inr ⟨o, e'⟩) m'
  | _, _, .scrK e => .scrK e
theorem Ats.imp (h : ∀ a o, ¬ M a → H a = some o → (∀ ps, o ≠ .tbl ps) → H' a = some o ∧ ¬ M' a) : ∀ {vs : List V} {ds : List D}, Ats K M H vs ds → Ats K M' H' vs ds
  | _, _, .nil => .nil
  | _, _, .cons a r => .cons (At.imp h a) (Ats.imp h r)
end
theorem Ats.length : ∀ {vs : List V} {ds : List D}, Ats K M H vs ds → vs.length = ds.length
  | _, _, .nil => rfl
  | _, _, .cons _ r => congrArg (· + 1) (Ats.length r)
theorem Ats.get : ∀ {vs : List V} {ds : List D} {i : Nat} {v : V}, Ats K M H vs ds → vs[i]? = some v → ∃ d, ds[i]? = some d ∧ At K M H v d
  | _, _, _, _, .nil, e => by simp at e
  | _, _, 0, _, .cons a _, e => by simp at e; subst e; exact ⟨_, rfl, a⟩
  | _, _, i + 1, v, .cons _ r, e => by
    obtain ⟨d, h1, h2⟩ := Ats.get (i := i) (v := v) r (by simpa using e)
    exact ⟨d, by simpa using h1, h2⟩
theorem Ats.get' : ∀ {vs : List V} {ds : List D} {i : Nat} {d : D}, Ats K M H vs ds → ds[i]? = some d → ∃ v, vs[i]? = some v ∧ At K M H v d
  | _, _, _, _, .nil, e => by simp at e
  | _, _, 0, _, .cons a _, e => by simp at e; subst e; exact ⟨_, rfl, a⟩
  | _, _, i + 1, v, .cons _ r, e => by
    obtain ⟨d, h1, h2⟩ := Ats.get' (i := i) (d := v) r (by simpa using e)
    exact ⟨d, by simpa using h1, h2⟩
theorem Ats.append : ∀ {vs ws : List V} {ds es : List D}, Ats K M H vs ds → Ats K M H ws es → Ats K M H (vs ++ ws) (ds ++ es)
  | _, _, _, _, .nil, s => s
  | _, _, _, _, .cons a r, s => .cons a (Ats.append r s)
theorem Ats.take : ∀ {vs : List V} {ds : List D} (n : Nat), Ats K M H vs ds → Ats K M H (vs.take n) (ds.take n)
  | _, _, 0, _ => .nil
  | _, _, _ + 1, .nil => .nil
  | _, _, n + 1, .cons a r => .cons a (Ats.take n r)
theorem Ats.drop : ∀ {vs : List V} {ds : List D} (n : Nat), Ats K M H vs ds → Ats K M H (vs.drop n) (ds.drop n)
  | _, _, 0, r => r
  | _, _, _ + 1, .nil => .nil
  | _, _, n + 1, .cons _ r => Ats.drop n r
theorem Ats.set {v : V} {d : D} (a : At K M H v d) : ∀ {vs : List V} {ds : List D} (i : Nat), Ats K M H vs ds → Ats K M H (vs.set i v) (ds.set i d)
  | _, _, _, .nil => .nil
  | _, _, 0, .cons _ r => .cons a r
  | _, _, i + 1, .cons b r => .cons b (Ats.set a i r)
theorem Ats.reverse : ∀ {vs : List V} {ds : List D}, Ats K M H vs ds → Ats K M H vs.reverse ds.reverse
  | _, _, .nil => .nil
  | _, _, .cons a r => by
    rw [List.reverse_cons, List.reverse_cons]
    exact (Ats.reverse r).append (.cons a .nil)
theorem Ats.ints : ∀ (ns : List Int), Ats K M H (ns.map V.int) (ns.map D.int)
  | [] => .nil
  | n :: ns => .cons (.int n) (Ats.ints ns)
end

/-! ### owned places: α their addresses, O what they hold; B: what callers own -/
def live : DO → Bool
  | .lst _ => true
  | .frz _ => false
  | .brw _ => true
  | .ob _ _ => true
def hot : DO → Bool
  | .lst _ => true
  | .ob _ _ => true
  | _ => false
theorem hot_live {o : DO} (h : hot o = true) : live o = true := by cases o <;> first | rfl | cases h
/-- the places that may be written here -/
def Ho (α : List Addr) (O : List DO) (a : Addr) : Prop := ∃ (k : Nat) (o : DO), α[k]? = some a ∧ O[k]? = some o ∧ hot o = true
def Ow (α : List Addr) (O : List DO) (a : Addr) : Prop := ∃ (k : Nat) (o : DO), α[k]? = some a ∧ O[k]? = some o ∧ live o = true
def Mu (B : Addr → Prop) (α : List Addr) (O : List DO) (a : Addr) : Prop := B a ∨ Ow α O a
def OAt (K : PySem.W.Frag) (M : Addr → Prop) (H : Hp) (a : Addr) : DO → Prop
  | .lst ds => ∃ vs, H a = some (.lst vs) ∧ Ats K M H vs ds
  | .frz ds => At K M H (.ref a) (.lst ds)
  | .brw ds => ∃ vs, H a = some (.lst vs) ∧ Ats K M H vs ds
  | .ob c fs => ∃ dx gs, H a = some (.ins (He.ga K c.1) dx gs) ∧ (OkC K c.1 c.2 ∧ (∀ f ∈ fs.map (·.1), f ∈ c.2) ∧ fs.length ≤ c.2.length) ∧ gs.map (·.1) = fs.map (·.1) ∧ Ats K M H (gs.map (·.2)) (fs.map (·.2))
theorem Ho.ow {α : List Addr} {O : List DO} {a : Addr} (h : Ho α O a) : Ow α O a := let ⟨k, o, e1, e2, l⟩ := h; ⟨k, o, e1, e2, hot_live l⟩
mutual
inductive AtU (K : PySem.W.Frag) (B : Addr → Prop) (α : List Addr) (O : List DO) (H : Hp) : V → U → Prop
  | d {v : V} {x : D} : At K (Mu B α O) H v x → AtU K B α O H v (.d x)
  | o {k : Nat} {a : Addr} : α[k]? = some a → AtU K B α O H (.ref a) (.o k)
  | t {a : Addr} {vs : List V} {us : List U} : H a = some (.tup vs) → ¬ Mu B α O a → AtUs K B α O H vs us → AtU K B α O H (.ref a) (.t us)
  | l {a : Addr} {vs : List V} {us : List U} : H a = some (.lst vs) → ¬ Mu B α O a → AtUs K B α O H vs us → AtU K B α O H (.ref a) (.l us)
inductive AtUs (K : PySem.W.Frag) (B : Addr → Prop) (α : List Addr) (O : List DO) (H : Hp) : List V → List U → Prop
  | nil : AtUs K B α O H [] []
  | cons {v : V} {u : U} {vs : List V} {us : List U} : AtU K B α O H v u → AtUs K B α O H vs us → AtUs K B α O H (v :: vs) (u :: us)
end
structure Gx where
  K : PySem.W.Frag
  T : List (Addr × Str)
structure Own (G : Gx) (B : Addr → Prop) (α : List Addr) (O : List DO) (H : Hp) : Prop where
  len : α.length = O.length
  nd : α.Nodup
  at_ : ∀ (k : Nat) (a : Addr) (o : DO), α[k]? = some a → O[k]? = some o → OAt G.K (Mu B α O) H a o
  bt : ∀ a, B a → ∃ o, H a = some o
  nb : ∀ a, Ow α O a → ¬ B a
  tabs : LamX.Tabs G.T H
structure Stp (α : List Addr) (O : List DO) (H : Hp) (α' : List Addr) (O' : List DO) (H' : Hp) : Prop where
  pre : ∃ more, α' = α ++ more
  keep : ∀ b o, H b = some o → ¬ Ho α O b → (∀ ps, o ≠ .tbl ps) → H' b = some o
  there : ∀ b, H' b = none → H b = none
  new : ∀ b, Ow α' O' b → Ow α O b ∨ H b = none
  hnew : ∀ b, Ho α' O' b → Ho α O b ∨ H b = none
  fresh : ∀ b, b ∈ α' → b ∈ α ∨ H b = none
section
variable {K : PySem.W.Frag} {G : Gx} {T : List (Addr × Str)} {B : Addr → Prop} {α α' α2 : List Addr} {O O' O2 : List DO} {H H' H2 : Hp}
theorem Stp.refl : Stp α O H α O H := ⟨⟨[], by simp⟩, fun _ _ e _ _ => e, fun _ e => e, fun _ m => .inl m, fun _ m => .inl m, fun _ m => .inl m⟩
theorem Stp.trans (s : Stp α O H α' O' H') (t : Stp α' O' H' α2 O2 H2) : Stp α O H α2 O2 H2 := by
  obtain ⟨m1, e1⟩ := s.pre
  obtain ⟨m2, e2⟩ := t.pre
  refine ⟨⟨m1 ++ m2, by rw [e2, e1, List.append_assoc]⟩, fun b o e m n => ?_, fun b e => s.there b (t.there b e), fun b m => ?_, fun b m => ?_, fun b m => ?_⟩
  · refine t.keep b o (s.keep b o e m n) (fun z => ?_) n
    rcases s.hnew b z with z | z
    · exact m z
    · rw [e] at z; cases z
  · rcases t.new b m with z | z
    · exact s.new b z
    · exact .inr (s.there b z)
  · rcases t.hnew b m with z | z
    · exact s.hnew b z
    · exact .inr (s.there b z)
  · rcases t.fresh b m with z | z
    · exact s.fresh b z
    · exact .inr (s.there b z)
theorem Stp.imp (s : Stp α O H α' O' H') : ∀ a o, ¬ Mu B α O a → H a = some o → (∀ ps, o ≠ .tbl ps) → H' a = some o ∧ ¬ Mu B α' O' a := fun b o m e n =>
  ⟨s.keep b o e (fun z => m (.inr z.ow)) n, fun z => by
    rcases z with z | z
    · exact m (.inl z)
    rcases s.new b z with z | z
    · exact m (.inr z)
    · rw [e] at z; cases z⟩
theorem Stp.at_ (s : Stp α O H α' O' H') {v : V} {d : D} (a : At K (Mu B α O) H v d) : At K (Mu B α' O') H' v d := a.imp s.imp
theorem Stp.ats (s : Stp α O H α' O' H') {vs : List V} {ds : List D} (a : Ats K (Mu B α O) H vs ds) : Ats K (Mu B α' O') H' vs ds := a.imp s.imp
theorem Stp.idx (s : Stp α O H α' O' H') {k : Nat} {a : Addr} (e : α[k]? = some a) : α'[k]? = some a := by
  obtain ⟨m, h⟩ := s.pre
  rw [h, List.getElem?_append_left (List.getElem?_eq_some_iff.mp e).1]
  exact e
mutual
theorem Stp.atU (s : Stp α O H α' O' H') : ∀ {v : V} {u : U}, AtU K B α O H v u → AtU K B α' O' H' v u
  | _, _, .d a => .d (s.at_ a)
  | _, _, .o e => .o (s.idx e)
  | _, _, .t e m r => let ⟨e', m'⟩ := s.imp (B := B) _ _ m e (fun _ z => by cases z); .t e' m' (Stp.atUs s r)
  | _, _, .l e m r => let ⟨e', m'⟩ := s.imp (B := B) _ _ m e (fun _ z => by cases z); .l e' m' (Stp.atUs s r)
theorem Stp.atUs (s : Stp α O H α' O' H') : ∀ {vs : List V} {us : List U}, AtUs K B α O H vs us → AtUs K B α' O' H' vs us
  | _, _, .nil => .nil
  | _, _, .cons a r => .cons (Stp.atU s a) (Stp.atUs s r)
end
theorem AtUs.length : ∀ {vs : List V} {us : List U}, AtUs K B α O H vs us → vs.length = us.length
  | _, _, .nil => rfl
  | _, _, .cons _ r => congrArg (· + 1) (AtUs.length r)
theorem Ow.some (w : Own G B α O H) {a : Addr} (m : Ow α O a) : ∃ o, H a = some o := by
  obtain ⟨k, o, e1, e2, l⟩ := m
  have h := w.at_ k a o e1 e2
  cases o with
  | lst ds =>
    obtain ⟨vs, e, _⟩ := h
    exact ⟨_, e⟩
  | brw ds =>
    obtain ⟨vs, e, _⟩ := h
    exact ⟨_, e⟩
  | ob c fs =>
    obtain ⟨dx, gs, e, _⟩ := h
    exact ⟨_, e⟩
  | frz d => cases l
theorem Own.mu_ne (w : Own G B α O H) {p : Addr} (hp : H p = none) : ¬ Mu B α O p := fun m => by
  obtain ⟨o, e⟩ := m.elim (w.bt p) (fun m => m.some w)
  rw [hp] at e; cases e
theorem tabs_keep (t : LamX.Tabs T H) (k : ∀ b o, H b = some o → (∃ ps, o = .tbl ps) ∨ (∃ φ, o = .ext φ) → H' b = some o) : LamX.Tabs T H' := fun p hp => by
  obtain ⟨ps, h1, h2, h3⟩ := t p hp
  refine ⟨ps, k _ _ h1 (.inl ⟨_, rfl⟩), h2, fun pos cv hc => ?_⟩
  obtain ⟨c, e1, e2⟩ := h3 pos cv hc
  exact ⟨c, e1, k _ _ e2 (.inr ⟨_, rfl⟩)⟩
/-- a new object that nobody owns -/
theorem stp_new {p : Addr} {o : HO} (hp : H p = none) : Stp α O H α O (upd H p o) :=
  ⟨⟨[], by simp⟩, fun b u e _ _ => by rw [upd_ne (ne_of_none e hp)]; exact e, fun b e => by
    by_cases hb : b = p
    · rw [hb, upd_same] at e; cases e
    · rw [upd_ne hb] at e; exact e, fun b m => .inl m, fun b m => .inl m, fun b m => .inl m⟩
theorem OAt.stp (s : Stp α O H α' O' H') {a : Addr} {o : DO} (h : OAt K (Mu B α O) H a o) (hm : live o = true → H' a = H a) : OAt K (Mu B α' O') H' a o := by
  cases o with
  | lst ds =>
    obtain ⟨vs, e, r⟩ := h
    exact ⟨vs, (hm rfl).trans e, s.ats r⟩
  | brw ds =>
    obtain ⟨vs, e, r⟩ := h
    exact ⟨vs, (hm rfl).trans e, s.ats r⟩
  | ob c fs =>
    obtain ⟨dx, gs, e, h1, h2, r⟩ := h
    exact ⟨dx, gs, (hm rfl).trans e, h1, h2, s.ats r⟩
  | frz d => exact s.at_ h
theorem bt_new (h : ∀ a, B a → ∃ o, H a = some o) {p : Addr} {o : HO} : ∀ a, B a → ∃ u, upd H p o a = some u := fun a m => by
  by_cases e : a = p
  · exact ⟨o, by rw [e, upd_same]⟩
  · obtain ⟨u, q⟩ := h a m
    exact ⟨u, by rw [upd_ne e]; exact q⟩
theorem own_new (w : Own G B α O H) {p : Addr} {o : HO} (hp : H p = none) : Own G B α O (upd H p o) := by
  refine ⟨w.len, w.nd, fun k a u e1 e2 => (w.at_ k a u e1 e2).stp (stp_new hp) fun l => ?_, bt_new w.bt, w.nb, tabs_keep w.tabs fun b u e _ => by rw [upd_ne (ne_of_none e hp)]; exact e⟩
  obtain ⟨q, e⟩ := Ow.some w ⟨k, u, e1, e2, l⟩
  exact upd_ne (ne_of_none e hp)
theorem At.tupNew (w : Own G B α O H) {p : Addr} {vs : List V} {ds : List D} (hp : H p = none) (r : Ats G.K (Mu B α O) H vs ds) : At G.K (Mu B α O) (upd H p (.tup vs)) (.ref p) (.tup ds) :=
  .tup upd_same (w.mu_ne hp) ((stp_new hp).ats r)
theorem At.lstNew (w : Own G B α O H) {p : Addr} {vs : List V} {ds : List D} (hp : H p = none) (r : Ats G.K (Mu B α O) H vs ds) : At G.K (Mu B α O) (upd H p (.lst vs)) (.ref p) (.lst ds) :=
  .lst upd_same (w.mu_ne hp) ((stp_new hp).ats r)
/-- an owned list is written -/
theorem ow_set' {k : Nat} {o o' : DO} (e : O[k]? = some o) (l : live o = true) {b : Addr} (m : Ow α (O.set k o') b) : Ow α O b := by
  obtain ⟨j, u, e1, e2, l2⟩ := m
  by_cases hj : j = k
  · subst hj
    exact ⟨j, o, e1, e, l⟩
  · rw [List.getElem?_set_ne (Ne.symm hj)] at e2
    exact ⟨j, u, e1, e2, l2⟩
theorem ho_set' {k : Nat} {o o' : DO} (e : O[k]? = some o) (l : hot o' = true → hot o = true) {b : Addr} (m : Ho α (O.set k o') b) : Ho α O b := by
  obtain ⟨j, u, e1, e2, l2⟩ := m
  by_cases hj : j = k
  · subst hj
    rw [List.getElem?_set_self (List.getElem?_eq_some_iff.mp e).1] at e2
    cases e2
    exact ⟨j, o, e1, e, l l2⟩
  · rw [List.getElem?_set_ne (Ne.symm hj)] at e2
    exact ⟨j, u, e1, e2, l2⟩
theorem stp_set {k : Nat} {a : Addr} {o : DO} {ds' : List D} {vs : List V} (e1 : α[k]? = some a) (e2 : O[k]? = some o) (l : hot o = true) : Stp α O H α (O.set k (.lst ds')) (upd H a (.lst vs)) := by
  have mu : Ho α O a := ⟨k, _, e1, e2, l⟩
  refine ⟨⟨[], by simp⟩, fun b u e m _ => ?_, fun b e => ?_, fun b m => .inl (ow_set' e2 (hot_live l) m), fun b m => .inl (ho_set' e2 (fun _ => l) m), fun b m => .inl m⟩
  · rw [upd_ne (fun z : b = a => m (by rw [z]; exact mu))]; exact e
  · by_cases hb : b = a
    · rw [hb, upd_same] at e; cases e
    · rw [upd_ne hb] at e; exact e
theorem nodup_at {l : List Addr} (nd : l.Nodup) {i j : Nat} {a : Addr} (h1 : l[i]? = some a) (h2 : l[j]? = some a) : i = j := by
  obtain ⟨b1, e1⟩ := List.getElem?_eq_some_iff.mp h1
  obtain ⟨b2, e2⟩ := List.getElem?_eq_some_iff.mp h2
  exact (List.getElem_inj nd).mp (e1.trans e2.symm)
theorem own_set (w : Own G B α O H) {k : Nat} {a : Addr} {ds ds' : List D} {vs : List V} (e1 : α[k]? = some a) (e2 : O[k]? = some (.lst ds)) (r : Ats G.K (Mu B α O) H vs ds') : Own G B α (O.set k (.lst ds')) (upd H a (.lst vs)) := by
  obtain ⟨vs0, h0, _⟩ := w.at_ k a _ e1 e2
  have s : Stp α O H α (O.set k (.lst ds')) (upd H a (.lst vs)) := stp_set e1 e2 rfl
  refine ⟨by rw [List.length_set]; exact w.len, w.nd, fun j b u f1 f2 => ?_, bt_new w.bt, fun b m => w.nb b (ow_set' e2 rfl m), tabs_keep w.tabs fun b u e z => ?_⟩
  · by_cases hj : j = k
    · subst hj
      rw [e1] at f1; cases f1
      rw [List.getElem?_set_self (List.getElem?_eq_some_iff.mp e2).1] at f2
      cases f2
      exact ⟨vs, upd_same, s.ats r⟩
    · rw [List.getElem?_set_ne (Ne.symm hj)] at f2
      refine (w.at_ j b u f1 f2).stp s fun l => upd_ne fun z => hj (nodup_at w.nd (z ▸ f1) e1)
  · refine (upd_ne fun q => ?_).trans e
    rw [q, h0] at e
    cases e
    rcases z with ⟨_, z⟩ | ⟨_, z⟩ <;> cases z
/-- an owned object is written -/
theorem stp_upd {k : Nat} {a : Addr} {o o' : DO} {ho : HO} (e1 : α[k]? = some a) (e2 : O[k]? = some o) (l : hot o = true) : Stp α O H α (O.set k o') (upd H a ho) := by
  have mu : Ho α O a := ⟨k, _, e1, e2, l⟩
  refine ⟨⟨[], by simp⟩, fun b u e m _ => ?_, fun b e => ?_, fun b m => .inl (ow_set' e2 (hot_live l) m), fun b m => .inl (ho_set' e2 (fun _ => l) m), fun b m => .inl m⟩
  · rw [upd_ne (fun z : b = a => m (by rw [z]; exact mu))]; exact e
  · by_cases hb : b = a
    · rw [hb, upd_same] at e; cases e
    · rw [upd_ne hb] at e; exact e
theorem own_setO (w : Own G B α O H) {k : Nat} {a dx : Addr} {c : Str × List Str} {fs fs' : List (Str × D)} {gs gs' : List (Str × V)} (e1 : α[k]? = some a) (e2 : O[k]? = some (.ob c fs)) (h0 : H a = some (.ins (He.ga G.K c.1) dx gs)) (hc : OkC G.K c.1 c.2 ∧ (∀ f ∈ fs'.map (·.1), f ∈ c.2) ∧ fs'.length ≤ c.2.length) (hn : gs'.map (·.1) = fs'.map (·.1)) (r : Ats G.K (Mu B α O) H (gs'.map (·.2)) (fs'.map (·.2))) : Own G B α (O.set k (.ob c fs')) (upd H a (.ins (He.ga G.K c.1) dx gs')) := by
  have s : Stp α O H α (O.set k (.ob c fs')) (upd H a (.ins (He.ga G.K c.1) dx gs')) := stp_upd e1 e2 rfl
  refine ⟨by rw [List.length_set]; exact w.len, w.nd, fun j b u f1 f2 => ?_, bt_new w.bt, fun b m => w.nb b (ow_set' e2 rfl m), tabs_keep w.tabs fun b u e z => ?_⟩
  · by_cases hj : j = k
    · subst hj
      rw [e1] at f1; cases f1
      rw [List.getElem?_set_self (List.getElem?_eq_some_iff.mp e2).1] at f2
      cases f2
      exact ⟨dx, gs', upd_same, hc, hn, s.ats r⟩
    · rw [List.getElem?_set_ne (Ne.symm hj)] at f2
      refine (w.at_ j b u f1 f2).stp s fun l => upd_ne fun z => hj (nodup_at w.nd (z ▸ f1) e1)
  · refine (upd_ne fun q => ?_).trans e
    rw [q, h0] at e
    cases e
    rcases z with ⟨_, z⟩ | ⟨_, z⟩ <;> cases z
/-- a new owned list -/
theorem get_snoc {β : Type} {l : List β} {x : β} {j : Nat} {b : β} (h : (l ++ [x])[j]? = some b) : (l[j]? = some b) ∨ (j = l.length ∧ b = x) := by
  by_cases hj : j < l.length
  · rw [List.getElem?_append_left hj] at h; exact .inl h
  · rw [List.getElem?_append_right (by omega)] at h
    obtain ⟨h1, h2⟩ := List.getElem?_eq_some_iff.mp h
    have : j - l.length = 0 := by simpa using h1
    refine .inr ⟨by omega, ?_⟩
    rw [← h2]
    simp [this]
theorem ow_snoc' (w : Own G B α O H) {p : Addr} {o : DO} {b : Addr} (m : Ow (α ++ [p]) (O ++ [o]) b) : Ow α O b ∨ b = p := by
  obtain ⟨j, u, e1, e2, l⟩ := m
  rcases get_snoc e1 with e1 | ⟨e1, eb⟩
  · rcases get_snoc e2 with e2 | ⟨e2, _⟩
    · exact .inl ⟨j, u, e1, e2, l⟩
    · exfalso
      have := (List.getElem?_eq_some_iff.mp e1).1
      rw [w.len] at this
      omega
  · exact .inr eb
theorem ho_snoc' (w : Own G B α O H) {p : Addr} {o : DO} {b : Addr} (m : Ho (α ++ [p]) (O ++ [o]) b) : Ho α O b ∨ b = p := by
  obtain ⟨j, u, e1, e2, l⟩ := m
  rcases get_snoc e1 with e1 | ⟨e1, eb⟩
  · rcases get_snoc e2 with e2 | ⟨e2, _⟩
    · exact .inl ⟨j, u, e1, e2, l⟩
    · exfalso
      have := (List.getElem?_eq_some_iff.mp e1).1
      rw [w.len] at this
      omega
  · exact .inr eb
theorem stp_own (w : Own G B α O H) {p : Addr} {ds : List D} {vs : List V} (hp : H p = none) : Stp α O H (α ++ [p]) (O ++ [.lst ds]) (upd H p (.lst vs)) :=
  ⟨⟨[p], rfl⟩, fun b u e _ _ => by rw [upd_ne (ne_of_none e hp)]; exact e, fun b e => by
    by_cases hb : b = p
    · rw [hb, upd_same] at e; cases e
    · rw [upd_ne hb] at e; exact e, fun b m => by
    rcases ow_snoc' w m with m | rfl
    · exact .inl m
    · exact .inr hp, fun b m => by
    rcases ho_snoc' w m with m | rfl
    · exact .inl m
    · exact .inr hp, fun b m => by
    rcases List.mem_append.mp m with m | m
    · exact .inl m
    · exact .inr (by rw [List.mem_singleton.mp m]; exact hp)⟩
theorem own_fresh (w : Own G B α O H) {p : Addr} (hp : H p = none) : p ∉ α := fun hm => by
  obtain ⟨k, hk, e⟩ := List.mem_iff_getElem.mp hm
  have ek : α[k]? = some p := by rw [List.getElem?_eq_getElem hk, e]
  have hk2 : k < O.length := by rw [← w.len]; exact hk
  have h := w.at_ k p O[k] ek (List.getElem?_eq_getElem hk2)
  cases q : O[k] with
  | lst es =>
    rw [q] at h
    obtain ⟨_, e2, _⟩ := h
    rw [hp] at e2; cases e2
  | brw es =>
    rw [q] at h
    obtain ⟨_, e2, _⟩ := h
    rw [hp] at e2; cases e2
  | ob c fs =>
    rw [q] at h
    obtain ⟨_, _, e2, _⟩ := h
    rw [hp] at e2; cases e2
  | frz d =>
    rw [q] at h
    have h2 : At G.K (Mu B α O) H (.ref p) (.lst d) := h
    cases h2 with
    | lst e _ _ => rw [hp] at e; cases e
theorem own_own (w : Own G B α O H) {p : Addr} {ds : List D} {vs : List V} (hp : H p = none) (r : Ats G.K (Mu B α O) H vs ds) : Own G B (α ++ [p]) (O ++ [.lst ds]) (upd H p (.lst vs)) := by
  have s := stp_own (ds := ds) (vs := vs) w hp
  have np := own_fresh w hp
  refine ⟨by simp [w.len], ?_, fun j b u f1 f2 => ?_, bt_new w.bt, fun b m => (ow_snoc' w m).elim (w.nb b) (fun z hb => w.mu_ne hp (.inl (z ▸ hb))), tabs_keep w.tabs fun b u e _ => by rw [upd_ne (ne_of_none e hp)]; exact e⟩
  · rw [List.nodup_append]
    refine ⟨w.nd, by simp, fun a ha b hb => ?_⟩
    rw [List.mem_singleton.mp hb]
    exact fun z => np (z ▸ ha)
  · rcases get_snoc f2 with f2 | ⟨f2, rfl⟩
    · rcases get_snoc f1 with f1 | ⟨f1, _⟩
      · refine (w.at_ j b u f1 f2).stp s fun l => ?_
        obtain ⟨q, e⟩ := Ow.some w ⟨j, u, f1, f2, l⟩
        exact upd_ne (ne_of_none e hp)
      · exfalso
        have := (List.getElem?_eq_some_iff.mp f2).1
        rw [← w.len] at this
        omega
    · rcases get_snoc f1 with f1 | ⟨_, rfl⟩
      · exfalso
        have := (List.getElem?_eq_some_iff.mp f1).1
        rw [w.len] at this
        omega
      · exact ⟨vs, upd_same, s.ats r⟩
theorem atU_own (w : Own G B α O H) {p : Addr} {O' : List DO} {H' : Hp} : AtU G.K B (α ++ [p]) O' H' (.ref p) (.o O.length) :=
  .o (by rw [← w.len]; simp)
/-- a new owned object -/
theorem stp_ownO (w : Own G B α O H) {p : Addr} {o : DO} {ho : HO} (hp : H p = none) : Stp α O H (α ++ [p]) (O ++ [o]) (upd H p ho) :=
  ⟨⟨[p], rfl⟩, fun b u e _ _ => by rw [upd_ne (ne_of_none e hp)]; exact e, fun b e => by
    by_cases hb : b = p
    · rw [hb, upd_same] at e; cases e
    · rw [upd_ne hb] at e; exact e, fun b m => by
    rcases ow_snoc' w m with m | rfl
    · exact .inl m
    · exact .inr hp, fun b m => by
    rcases ho_snoc' w m with m | rfl
    · exact .inl m
    · exact .inr hp, fun b m => by
    rcases List.mem_append.mp m with m | m
    · exact .inl m
    · exact .inr (by rw [List.mem_singleton.mp m]; exact hp)⟩
theorem own_ownO (w : Own G B α O H) {p dx : Addr} {c : Str × List Str} (hp : H p = none) (hc : OkC G.K c.1 c.2) : Own G B (α ++ [p]) (O ++ [.ob c []]) (upd H p (.ins (He.ga G.K c.1) dx [])) := by
  have s := stp_ownO (o := .ob c []) (ho := .ins (He.ga G.K c.1) dx []) w hp
  have np := own_fresh w hp
  refine ⟨by simp [w.len], ?_, fun j b u f1 f2 => ?_, bt_new w.bt, fun b m => (ow_snoc' w m).elim (w.nb b) (fun z hb => w.mu_ne hp (.inl (z ▸ hb))), tabs_keep w.tabs fun b u e _ => by rw [upd_ne (ne_of_none e hp)]; exact e⟩
  · rw [List.nodup_append]
    refine ⟨w.nd, by simp, fun a ha b hb => ?_⟩
    rw [List.mem_singleton.mp hb]
    exact fun z => np (z ▸ ha)
  · rcases get_snoc f2 with f2 | ⟨f2, rfl⟩
    · rcases get_snoc f1 with f1 | ⟨f1, _⟩
      · refine (w.at_ j b u f1 f2).stp s fun l => ?_
        obtain ⟨q, e⟩ := Ow.some w ⟨j, u, f1, f2, l⟩
        exact upd_ne (ne_of_none e hp)
      · exfalso
        have := (List.getElem?_eq_some_iff.mp f2).1
        rw [← w.len] at this
        omega
    · rcases get_snoc f1 with f1 | ⟨_, rfl⟩
      · exfalso
        have := (List.getElem?_eq_some_iff.mp f1).1
        rw [w.len] at this
        omega
      · exact ⟨dx, [], upd_same, ⟨hc, (fun f hf => by cases hf), Nat.zero_le _⟩, rfl, .nil⟩
/-- an owned list is owned no longer -/
theorem stp_frz {k : Nat} {o : DO} {d : List D} (e2 : O[k]? = some o) (l : live o = true) : Stp α O H α (O.set k (.frz d)) H :=
  ⟨⟨[], by simp⟩, fun b u e _ _ => e, fun b e => e, fun b m => .inl (ow_set' e2 l m), fun b m => .inl (ho_set' e2 (fun z => by cases z) m), fun b m => .inl m⟩
theorem own_frz (w : Own G B α O H) {k : Nat} {ds : List D} (e2 : O[k]? = some (.lst ds)) : Own G B α (O.set k (.frz ds)) H := by
  have s : Stp α O H α (O.set k (.frz ds)) H := stp_frz e2 rfl
  refine ⟨by rw [List.length_set]; exact w.len, w.nd, fun j b u f1 f2 => ?_, w.bt, fun b m => w.nb b (ow_set' e2 rfl m), w.tabs⟩
  by_cases hj : j = k
  · subst hj
    rw [List.getElem?_set_self (List.getElem?_eq_some_iff.mp e2).1] at f2
    cases f2
    obtain ⟨vs, h, r⟩ := w.at_ j b _ f1 e2
    refine .lst h (fun m => ?_) (s.ats r)
    rcases m with m | m
    · exact w.nb b ⟨j, _, f1, e2, rfl⟩ m
    obtain ⟨i, u, g1, g2, l⟩ := m
    have := nodup_at w.nd g1 f1
    subst this
    rw [List.getElem?_set_self (List.getElem?_eq_some_iff.mp e2).1] at g2
    cases g2
    cases l
  · rw [List.getElem?_set_ne (Ne.symm hj)] at f2
    exact (w.at_ j b u f1 f2).stp s fun _ => rfl
/-- the first places alone -/
theorem take_some {β : Type} {l : List β} {n j : Nat} {b : β} (h : (l.take n)[j]? = some b) : l[j]? = some b := by
  rw [List.getElem?_take] at h
  split at h
  · exact h
  · cases h
theorem ow_take {n : Nat} {b : Addr} (m : Ow (α.take n) (O.take n) b) : Ow α O b := by
  obtain ⟨j, u, e1, e2, l⟩ := m
  exact ⟨j, u, take_some e1, take_some e2, l⟩
theorem ho_take {n : Nat} {b : Addr} (m : Ho (α.take n) (O.take n) b) : Ho α O b := by
  obtain ⟨j, u, e1, e2, l⟩ := m
  exact ⟨j, u, take_some e1, take_some e2, l⟩
theorem At.less {M M' : Addr → Prop} (h : ∀ a, M' a → M a) {v : V} {d : D} (a : At K M H v d) : At K M' H v d := a.imp fun b o m e _ => ⟨e, fun z => m (h b z)⟩
theorem Ats.less {M M' : Addr → Prop} (h : ∀ a, M' a → M a) {vs : List V} {ds : List D} (a : Ats K M H vs ds) : Ats K M' H vs ds := a.imp fun b o m e _ => ⟨e, fun z => m (h b z)⟩
theorem OAt.less {M M' : Addr → Prop} (h : ∀ a, M' a → M a) {a : Addr} {o : DO} (q : OAt K M H a o) : OAt K M' H a o := by
  cases o with
  | lst ds =>
    obtain ⟨vs, e, r⟩ := q
    exact ⟨vs, e, r.less h⟩
  | brw ds =>
    obtain ⟨vs, e, r⟩ := q
    exact ⟨vs, e, r.less h⟩
  | ob c fs =>
    obtain ⟨dx, gs, e, h1, h2, r⟩ := q
    exact ⟨dx, gs, e, h1, h2, r.less h⟩
  | frz d => exact At.less h q
theorem mu_take {n : Nat} {b : Addr} (m : Mu B (α.take n) (O.take n) b) : Mu B α O b := m.elim .inl fun m => .inr (ow_take m)
theorem own_take (w : Own G B α O H) (n : Nat) : Own G B (α.take n) (O.take n) H :=
  ⟨by rw [List.length_take, List.length_take, w.len], w.nd.sublist (List.take_sublist _ _), fun k a o e1 e2 => (w.at_ k a o (take_some e1) (take_some e2)).less fun _ => mu_take, w.bt, fun b m => w.nb b (ow_take m), w.tabs⟩
theorem stp_take (s : Stp α O H α' O' H') (w : Own G B α O H) : Stp α O H α (O'.take α.length) H' ∧ α'.take α.length = α := by
  obtain ⟨m, e⟩ := s.pre
  have e2 : α'.take α.length = α := by rw [e, List.take_left' rfl]
  refine ⟨⟨⟨[], by simp⟩, s.keep, s.there, fun b h => s.new b (ow_take (n := α.length) ?_), fun b h => s.hnew b (ho_take (n := α.length) ?_), fun b m => .inl m⟩, e2⟩
  · rw [e2]
    exact h
  · rw [e2]
    exact h
end
end Z

set_option Elab.async false
set_option linter.all false
set_option maxRecDepth 100000
set_option maxHeartbeats 4000000
namespace Z
open PySem PySem.Spec PyProof.Rows L2

/-! ### a pair of classes as the test of an except clause: it always takes -/
theorem fly_more {B : Heap} {l : List Env} {a : Addr} {Y : Obj → Prop} {g h : Heap} (f : HandSPX.FlyingZ B l a Y g) (k : ∀ b o, g.get? b = some o → h.get? b = some o) : HandSPX.FlyingZ B l a Y h := by
  obtain ⟨x1, x2, x3, oe, vs, T, oT, ts, y1, y2, y3, y4, y5, y6, y7, y8, y9⟩ := f
  exact ⟨fun b o e => k b o (x1 b o e), x2, x3.of_keeps fun b o e _ => ⟨o, k b o e, rfl⟩, oe, vs, T, oT, ts, k _ _ y1, y2, y3, y4, y5, y6, k _ _ y7, y8, y9⟩
theorem fly_at {B : Heap} {l : List Env} {a : Addr} {Y : Obj → Prop} {g : Heap} (f : HandSPX.FlyingZ B l a Y g) : ∃ oe vs, g.get? a = some oe ∧ Y oe ∧ oe.data = .fields vs := by
  obtain ⟨_, _, _, oe, vs, _, _, _, y1, y2, y3, _⟩ := f
  exact ⟨oe, vs, y1, y2, y3⟩
/-- what 'except (x1, x2) as n: return ..' wishes of an exception -/
def wPair (K : PySem.W.Frag) (c1 c2 : Value) (len i : Nat) (ts : Addr → Value → Option Addr → TS) (D : Ends) : WX := fun cls d σ H =>
  PySem.W.exmAny K cls [c1, c2] = some true ∧ (σ.length = len → ∀ a, H a = none → ts a cls d { nx := fun _ _ => False, rt := D.rt } (σ.set i (some (.ref a))) H)
theorem ps_try_pair {X : Cx} {x1 x2 n : Str} {c1 c2 : Value} {i kk : Nat} {body suite : List Stmt} {b0 : Stmt} {q1 q2 q3 q4 q5 : Pos} {tb : WX → TS} {ts : Addr → Value → Option Addr → TS} (hs : X.stack = X.env :: X.outer) (hf : X.env.frame = some X.env.locals) (hN : X.N.Nodup) (hi : X.N[i]? = some n) (hn : X.env.kindOf n = some .local)
    (g1 : Gl X x1) (g2 : Gl X x2) (m1 : X.mg x1 = some c1) (m2 : X.mg x2 = some c2) (e1 : (x1 == ("__debug__" : Str)) = false) (e2 : (x2 == ("__debug__" : Str)) = false)
    (hb : ∀ (W : WX) (pn : List (Addr × Obj)) (xe : Value → Shared → Prop), Takes (X.tr pn xe) W → PSs (X.tr pn xe) body (tb W))
    (hsu : ∀ (a : Addr) (oe : Obj) (cls : Value) (d : Option Addr) (pn : List (Addr × Obj)), Zc cls d oe → (∃ vs, oe.data = .fields vs) → PSs (X.suite a ((a, oe) :: pn)) (b0 :: suite) (ts a cls d)) :
    PS X (.Try body [.ExceptHandler (some (.Tuple [.Name x1 q1, .Name x2 q2] kk q3)) (some n) (b0 :: suite) q4] [] [] q5) (fun D σ H => tb (wPair X.K c1 c2 X.N.length i ts D) D σ H) := by
  refine ⟨fun pins s σ H D I h => wpAny_Try_except ?_⟩
  have ok := I.ok
  have fr : X.A.frames = some (X.env :: X.outer) := by rw [ok.frames, hs]
  refine wpAny_mono ((hb (wPair X.K c1 c2 X.N.length i ts D) (X.pn ++ pins) _ ?_).run [] s σ H D (I.toTry _) h) (fun f t1 hq => ?_) fun e t1 he => he
  · intro u t xx
    obtain ⟨a, B, sI, pins', σ', H', cls, d, rfl, J', nb, up, sky, na, os, ag, hm, hw⟩ := xx
    have J : Inv X pins σ' H' sI := J'.ofTry ok
    have hw := hw J'.len
    show wpAny (model X.prog X.w) X.A (noteFrame (.ref a) X.env) _ _ _
    refine Sky.land Zc.steady fr hf (show Sky B (X.env :: X.outer) a (Zc cls d) X.env.locals t.heap by rw [← hs]; exact sky) fun h3 fl3 up3 => ?_
    have J3 : Inv X pins σ' H' { t with heap := h3 } := J.landed nb fl3.1 (up.trans up3) os ag
    have apart : ∀ {g : Heap} {o : Obj} {vs : Array Value}, g.FunFrames B (X.env :: X.outer) → g.get? a = some o → o.data = .fields vs → a ∉ frs (X.env :: X.outer) := fun {g o vs} ff e dd hm => by
      obtain ⟨_, o2, e2, nf⟩ := ff.mem hm
      rw [e] at e2
      cases e2
      exact nf _ dd
    obtain ⟨oe3, vs3, he3, hz3, hd3⟩ := fly_at fl3
    have nfr := apart fl3.2.2.1 he3 hd3
    have nL : a ≠ X.env.locals := fun z => nfr (List.mem_filterMap.mpr ⟨X.env, by simp, by rw [hf, z]⟩)
    have nF : a ∉ X.fs := fun hm => by
      obtain ⟨e, he, q⟩ := List.mem_filterMap.mp hm
      exact nfr (List.mem_filterMap.mpr ⟨e, by simp [he], q⟩)
    have S3 := J3.suite he3 hd3 na nL nF
    refine wpAny_handleBy_cons (codeAny_handlers_test (wpAny_Tuple_spliced ?_)) (by intro q; cases q)
    refine Calls.spliced_cons (ld_glob (X := X.suite a ((a, oe3) :: (X.pn ++ pins))) S3 g1 m1 (Calls.spliced_cons (ld_glob (X := X.suite a ((a, oe3) :: (X.pn ++ pins))) S3 g2 m2 (Calls.spliced_nil ⟨by show 2 ≤ sizeLine; decide, ?_⟩) e2)) e1)
    have kp : ∀ b o, h3.get? b = some o → (h3.push { cls := .type "tuple", data := .seq [c1, c2].toArray }).get? b = some o := fun b o e => Heap.get?_push_of_some _ e
    have fl5 := fly_more fl3 kp
    have LT : PySem.W.Looks (model X.prog X.w) (h3.push { cls := .type "tuple", data := .seq [c1, c2].toArray }) (typeOf (.ref a)) cls := fun A Q E s k q => wpAny_typeOf_ref (k _ _ (kp _ _ he3)) (by rw [hz3.1]; exact q)
    have LM := PySem.W.exm_tup2 (M := model X.prog X.w) (J3.kIn.keeps kp) LT (Heap.get?_push_size _ rfl) hm
    refine LM.here (codeAny_handlers_suite_as (HandSPX.lands_againZ fl5 fun h4 fl4 up4 => ?_))
    have J4 : Inv X pins σ' H' { t with heap := h4 } := J.landed nb fl4.1 (((up.trans up3).trans (Heap.UpToSlots.of_keeps kp)).trans up4) os ag
    obtain ⟨oe4, vs4, he4, hz4, hd4⟩ := fly_at fl4
    refine store_ok (X := X.suite a ((a, oe4) :: (X.pn ++ pins))) (v := .ref a) (J4.suite he4 hd4 na nL nF) hN hi (.inl hn) rfl (fun s5 S5 => ?_) (.inr hn)
    refine wpAny_mono ((hsu a oe4 cls d (X.pn ++ pins) hz4 ⟨_, hd4⟩).run [] s5 _ H' _ S5 (hw a na)) (fun f s6 hsp => ?_) (fun _ _ z => False.elim z)
    cases f with
    | next =>
      obtain ⟨_, _, _, z⟩ := hsp
      exact False.elim z
    | brk =>
      obtain ⟨_, _, _, z⟩ := hsp
      exact False.elim z
    | cont =>
      obtain ⟨_, _, _, z⟩ := hsp
      exact False.elim z
    | ret u =>
      obtain ⟨v6, σ6, H6, S6, r6, q6⟩ := hsp
      exact gone_ok (S6.unsuite ok) hN hi hn fun s7 J7 => ⟨_, _, _, J7, r6, q6⟩
  · cases f with
    | next =>
      obtain ⟨σ', H', J', q⟩ := hq
      exact wpAny_execs_nil ⟨σ', H', J'.ofTry ok, q⟩
    | brk =>
      obtain ⟨σ', H', J', q⟩ := hq
      exact ⟨σ', H', J'.ofTry ok, q⟩
    | cont =>
      obtain ⟨σ', H', J', q⟩ := hq
      exact ⟨σ', H', J'.ofTry ok, q⟩
    | ret u =>
      obtain ⟨v, σ', H', J', r, q⟩ := hq
      exact ⟨v, σ', H', J'.ofTry ok, r, q⟩

/-! ### an exception's field -/
theorem pe_xfP {X : Cx} {a C : Addr} {oe : Obj} {cls : Value} {d : Option Addr} {e : Expr} {te : TE} {pos : Pos} {n : Str} (T : XfC X.K C) (hno : PySem.W.findIn X.K (.ref C) n = some none) (hp : (a, oe) ∈ X.pn)
    (hz : Zc cls d oe) (hf : ∃ vs, oe.data = .fields vs) (he : PE X e te) (hb : attributeBase e n X.env (eval e X.env) = eval e X.env := by rfl) : PE X (.Attribute e n pos) (tXf a cls d C n te) := by
  refine ⟨fun pins s σ H Q I h => attr_of hb (thn (he.run pins s σ H _ I h) fun u t hh => ?_)⟩
  obtain ⟨x, H1, I1, rx, ex, rfl, dd, fs, v, rfl, ea, l, q⟩ := hh
  subst ex
  cases (show u = Value.ref a from rx)
  have ha := (I1.pin (a, oe) (List.mem_append_left _ hp)).1
  obtain ⟨vs, hd⟩ := hf
  obtain ⟨mA, hns, hr⟩ := (show ObjOk X.prog X.w H1 t.heap dd (.xd fs) from I1.hok dd _ ea)
  obtain ⟨od, ho, hl⟩ := lookIn_ns hns
  obtain ⟨w, hu, ru⟩ := RelO.some_of (v := v) (o := mA n) (l ▸ hr n)
  have nc : PySem.W.notCls oe = true := by unfold PySem.W.notCls; rw [hd]
  have J : PySem.W.InstAt t.heap a oe C (some od) := ⟨ha, hz.1, nc, by rw [hz.2]; exact ho⟩
  refine HandSPX.exc_get I1.kIn J T.ga T.gg T.exC (PySem.W.findObj_own T.hdC hno rfl ?_) (handed_of ru) ⟨v, H1, I1.tok _, ru, q⟩
  rw [hl, hu]
end Z

set_option Elab.async false
set_option linter.all false
set_option maxRecDepth 100000
set_option maxHeartbeats 4000000
namespace Z
open PySem PySem.Spec PyProof.Rows L2
/-! ### a lambda is laid: what becomes of the tracked heap -/
def LamH (P : Addr) (q : Str) (H H1 : Hp) : Prop := H1 = H ∨ ∃ ps ps' c, H P = some (.tbl ps) ∧ H c = none ∧ H1 = upd (upd H P (.tbl ps')) c (LamX.CodeO c q)
abbrev lamObj (X : Cx) (params : Arguments) (body : Expr) (scope : Scope) (pm : Value) (c : Addr) (ctv : Value) : Obj := PySem.W.kla_obj "<lambda>" (X.env.qual ++ "<lambda>") params body scope (cloFrom X.env.cells scope.names []) pm c ctv
theorem lam_lay {X : Cx} {pins : List (Addr × Obj)} {σ : L2.St} {H : Hp} {s : Shared} {T : List (Addr × Str)} {c P : Addr} {params : Arguments} {body : Expr} {scope : Scope} {pos : Pos} {E Q : Value → Shared → Prop} (I : Inv X pins σ H s) (TB : LamX.TabB X.base X.mg c P)
    (hcode : X.env.code = .ref c) (hm : (P, X.env.qual ++ "<lambda>") ∈ T) (hu : ∀ p ∈ T, p.1 = P → p.2 = X.env.qual ++ "<lambda>") (hT : LamX.Tabs T H) (hdef : defaultsOf params X.env = ([], [])) (hfree : ∀ y ∈ scope.names, y.2 = .free → ∃ c, X.env.cells.lookup y.1 = some c)
    (go : ∀ (f c' : Addr) (pm ctv : Value) (H1 : Hp) (t : Shared), Inv X pins σ H1 t → LamH P (X.env.qual ++ "<lambda>") H H1 → LamX.Tabs T H1 → t.heap.get? f = some (lamObj X params body scope pm c' ctv) → H1 f = none → s.heap.objs.size ≤ f →
      H1 c' = some (LamX.CodeO c' (X.env.qual ++ "<lambda>")) → Q (.ref f) t) : wpAny (model X.prog X.w) X.A (eval (.Lambda params body scope pos) X.env) Q E s := by
  obtain ⟨ps, hP, trip, among⟩ := hT _ hm
  have atP : s.heap.get? P = some { cls := .none, data := .fields ps } := I.hok P _ hP
  have bP := TB.bm.keeps I.bk
  refine PySem.W.kla_eval hdef ?_
  rcases hc : codeAmong pos ps.toList with _ | cv
  · refine PySem.W.kla_makeFunction (mg := X.mg) (c := c) (P := P) (ps := ps) (closure_ok hfree) I.ok.glob (I.mod.glob.keeps I.bk) hcode (TB.code.keeps I.bk) atP trip hc TB.gP bP ?_
    rintro c' ctv g tk kp hge hlt ⟨c2, oc, vs, t, e2, hoc, hd, hv⟩ htb
    cases e2
    have big : s.heap.objs.size ≤ g.objs.size := by omega
    have nC : H c' = none := I.hok.fresh hge
    obtain ⟨pm, hpm⟩ : ∃ pm, pm = (X.mg "__name__").getD .none := ⟨_, rfl⟩
    have J := LamX.inv_table (t' := tk) (more := #[rawInt pos.line, rawInt pos.col, .ref c']) (h' := g.push (lamObj X params body scope pm c' ctv)) (q := X.env.qual ++ "<lambda>") I hP (fun b o hb e => Heap.get?_push_of_some _ (kp b o hb e)) (Heap.get?_push_of_some _ htb) hge ⟨oc, vs, t, Heap.get?_push_of_some _ hoc, hd, hv⟩
    have stay : ∀ b o, H b = some o → (∀ qs, o ≠ .tbl qs) → upd (upd H P (.tbl (ps ++ #[rawInt pos.line, rawInt pos.col, .ref c']))) c' (LamX.CodeO c' (X.env.qual ++ "<lambda>")) b = some o := fun b o e no => by
      have h1 : b ≠ P := fun z => by
        rw [z, hP] at e
        exact no ps (Option.some.inj e).symm
      rw [upd_ne (ne_of_none e nC), upd_ne h1]
      exact e
    have eL : (ps ++ #[rawInt pos.line, rawInt pos.col, .ref c']).toList = ps.toList ++ [rawInt pos.line, rawInt pos.col, .ref c'] := by simp
    rw [hpm] at J
    refine go g.objs.size c' _ ctv _ _ J (.inr ⟨ps, _, c', hP, nC, rfl⟩) (fun p hp => ?_) (Heap.get?_push_size _ rfl) ?_ big upd_same
    · by_cases hb : p.1 = P
      · rw [hu p hp hb, hb]
        refine ⟨_, (upd_ne (ne_of_none hP nC)).trans upd_same, ?_, fun p' cv hcv => ?_⟩
        · rw [eL]
          exact PySem.TriplesOk_snoc _ _ _ _ trip
        · rw [eL] at hcv
          rcases LamX.among_app _ trip hcv with z | z
          · obtain ⟨c0, z1, z2⟩ := among p' cv z
            exact ⟨c0, z1, stay _ _ z2 LamX.codeO_ne⟩
          · exact ⟨c', z, upd_same⟩
      · obtain ⟨qs, a1, a2, a3⟩ := hT p hp
        refine ⟨qs, ?_, a2, fun p' cv hcv => ?_⟩
        · rw [upd_ne (ne_of_none a1 nC), upd_ne hb]
          exact a1
        · obtain ⟨c0, z1, z2⟩ := a3 p' cv hcv
          exact ⟨c0, z1, stay _ _ z2 LamX.codeO_ne⟩
    · have n1 : g.objs.size ≠ c' := Nat.ne_of_gt hlt
      have n2 : g.objs.size ≠ P := Nat.ne_of_gt (Nat.lt_of_lt_of_le (Heap.lt_size atP) big)
      rw [upd_ne n1, upd_ne n2]
      exact I.hok.fresh big
  · obtain ⟨c', e, hco⟩ := among pos cv hc
    subst e
    refine PySem.W.kla_makeFunctionHit (mg := X.mg) (c := c) (P := P) (ps := ps) (closure_ok hfree) I.ok.glob (I.mod.glob.keeps I.bk) hcode (TB.code.keeps I.bk) atP trip hc bP ?_
    intro ctv g tk kp big
    have J : Inv X pins σ H { s with heap := g.push (lamObj X params body scope ((X.mg "__name__").getD .none) c' ctv), toks := tk } := I.kept fun b o e => Heap.get?_push_of_some _ (kp b o e)
    exact go g.objs.size c' _ ctv H _ J (.inl rfl) hT (Heap.get?_push_size _ rfl) (I.hok.fresh big) big hco
/-! ### frames upon frames -/
theorem un_up {fs : List Addr} {L : Addr} {H H1 H2 : Hp} {h h1 h2 : Heap} (a : Un fs [] H H1 h h1) (b : Un (L :: fs) [] H1 H2 h1 h2) (nL : h.get? L = none) : Un fs [] H H2 h h2 where
  keep := fun c o q n hc hx => b.keep c o (a.keep c o q n hc hx) (a.free c o q n hx) (fun z => by
    rcases List.mem_cons.mp z with z | z
    · rw [z, nL] at q
      cases q
    · exact hc z) hx
  slot := fun c o q n hc hx => by
    obtain ⟨sl, e1⟩ := a.slot c o q n hc hx
    obtain ⟨sl2, e2⟩ := b.slot c _ e1 (a.free c o q n hx) (List.mem_cons_of_mem _ hc) hx
    exact ⟨sl2, e2⟩
  free := fun c o q n hx => by
    obtain ⟨o', e1⟩ := a.there c o q hx
    exact b.free c o' e1 (a.free c o q n hx) hx
  there := fun c o q hx => by
    obtain ⟨o', e1⟩ := a.there c o q hx
    exact b.there c o' e1 hx
  tups := fun c xs q => b.tups c xs (a.tups c xs q)
  frzs := fun c o xs q => b.frzs c o xs (a.frzs c o xs q)
  tbls := fun c ps q => by
    obtain ⟨m1, e1⟩ := a.tbls c ps q
    obtain ⟨m2, e2⟩ := b.tbls c _ e1
    exact ⟨m1 ++ m2, by rw [e2, Array.append_assoc]⟩
/-! ### the lambda is called, from wherever -/
theorem act_run {X : Cx} {pins : List (Addr × Obj)} {σ : L2.St} {H HZ : Hp} {s t : Shared} {f c' : Addr} {pm ctv : Value} {params : Arguments} {body : Expr} {scope : Scope} {k : Nat} {A : Around} {outer : List Env} {Q : VK} {E : XK} {tb : TE} (I : Inv X pins σ H s) (L : LamX.LamS X.env.scope scope)
    (hf : s.heap.get? f = some (lamObj X params body scope pm c' ctv)) (hfn : H f = none) (hfr : f ∉ frs X.stack) (hbind : bindArgs (PySem.W.kla_fn "<lambda>" (X.env.qual ++ "<lambda>") params body scope (cloFrom X.env.cells scope.names []) pm (.ref c') ctv) ⟨[], []⟩ = pure [])
    (hr : Room (k + 1) A) (e0 : Env0 X.prog X.w X.K X.mg X.base A outer t HZ) (un : Un (frs X.stack) [] H HZ s.heap t.heap) (hc : HZ c' = some (LamX.CodeO c' (X.env.qual ++ "<lambda>")))
    (hbody : Room k (A.deeper (LamX.lamEnv X scope t.heap.objs.size f c')) → PE (LamX.lamCx X A outer t HZ E scope f c') body tb) (ht : tb σ HZ Q) :
    codeAny (model X.prog X.w) A (.call (.ref f) ⟨[], []⟩) (CR (L2.CX X.prog X.w) outer X.prog X.w HZ t Q E) t := by
  have of1 := un.keep f _ hf hfn hfr (by simp)
  obtain ⟨⟨oc, vs, tk, hoc, hdc, hvc⟩, _, _⟩ := e0.hok c' _ hc
  have lim : t.heap.NoLimit := e0.mod.nolimit.keeps fun b o e => (e0.bs b o e).1
  refine PySem.W.kla_callFunE hr.depth of1 rfl L.co L.gen rfl ⟨c', oc, vs, tk, rfl, hoc, hdc, hvc⟩ ?_
  rw [hbind]
  refine wpAny_pure (wpAny_newFunctionEnv (fun y hy => (L.own y hy).2) (fun y hy => absurd hy (by simp)) (fun g hns hsb => ⟨lim.fresh _ hsb, ?_⟩) L.kind)
  have kp : ∀ b o, t.heap.get? b = some o → g.get? b = some o := fun b o e => hsb.extBut b o (Nat.ne_of_lt (Heap.lt_size e)) (Heap.get?_push_of_some _ e)
  have J : Inv (LamX.lamCx X A outer t HZ E scope f c') [] σ HZ { t with heap := g, toks := t.toks + ([] : List (Str × Value)).length } := LamX.lam_start2 I L e0 hr.hd un hns kp
  show codeAny _ _ (.expr body (LamX.lamEnv X scope t.heap.objs.size f c')) _ _
  refine PySem.W.kla_codeExpr (wpAny_mono ((hbody (hr.deeper _)).run [] _ _ HZ Q J ht) (fun v u hq => ?_) fun e u hq => hq)
  obtain ⟨w', H', J', rv, q⟩ := hq
  exact ⟨w', H', J'.os, J'.bare, J'.base, J'.hok, rv, q⟩
/-- what a codeAny gives to an expression -/
theorem of_run {X : Cx} {pins : List (Addr × Obj)} {σ : L2.St} {H : Hp} {s : Shared} {Q : VK} {E : XK} {f : Value} {us : List Value} (I : Inv X pins σ H s) (hx : Passes (L2.CX X.prog X.w) X E) (h : codeAny (model X.prog X.w) X.A (.call f ⟨us, []⟩) (CR (L2.CX X.prog X.w) X.stack X.prog X.w H s Q E) s) :
    wpAny (model X.prog X.w) X.A (call f us) (EP X pins σ Q) X.xe s := by
  refine wpAny_call (codeAny_mono h fun r t hq => ?_)
  cases r with
  | error e => exact hx pins σ H s e t I hq
  | ok fl =>
    cases fl with
    | ret u => exact I.after hq
    | next => exact False.elim hq
    | brk => exact False.elim hq
    | cont => exact False.elim hq
end Z

set_option Elab.async false
set_option linter.all false
set_option maxRecDepth 100000
set_option maxHeartbeats 4000000
namespace Z
open PySem PySem.Spec PyProof.Rows L2

/-! ### slots -/
def gt : List (Option U) → Nat → Option U
  | [], _ => none
  | x :: _, 0 => x
  | _ :: r, n + 1 => gt r n
def st : List (Option U) → Nat → U → List (Option U)
  | [], _, _ => []
  | _ :: r, 0, u => some u :: r
  | x :: r, n + 1, u => x :: st r n u
theorem gt_st : ∀ (ρ : List (Option U)) (i j : Nat) (u w : U), gt (st ρ i u) j = some w → (j = i ∧ w = u) ∨ (j ≠ i ∧ gt ρ j = some w)
  | [], _, _, _, _, h => by cases h
  | _ :: _, 0, 0, u, w, h => by
    have h2 : some u = some w := h
    cases h2
    exact .inl ⟨rfl, rfl⟩
  | _ :: _, 0, j + 1, u, w, h => .inr ⟨by omega, h⟩
  | _ :: _, i + 1, 0, u, w, h => .inr ⟨by omega, h⟩
  | _ :: r, i + 1, j + 1, u, w, h => by
    rcases gt_st r i j u w h with ⟨a, b⟩ | ⟨a, b⟩
    · exact .inl ⟨by omega, b⟩
    · exact .inr ⟨by omega, b⟩
def go : List DO → Nat → Option DO
  | [], _ => none
  | x :: _, 0 => some x
  | _ :: r, n + 1 => go r n
theorem go_eq : ∀ (O : List DO) (k : Nat), go O k = O[k]?
  | [], _ => by simp [go]
  | _ :: _, 0 => by simp [go]
  | _ :: r, n + 1 => by simp [go, go_eq r n]
def so : List DO → Nat → DO → List DO
  | [], _, _ => []
  | _ :: r, 0, u => u :: r
  | x :: r, n + 1, u => x :: so r n u
theorem so_eq : ∀ (O : List DO) (k : Nat) (u : DO), so O k u = O.set k u
  | [], _, _ => by simp [so]
  | _ :: _, 0, _ => by simp [so]
  | _ :: r, n + 1, u => by simp [so, so_eq r n u]
/-- .. as data that stays -/
def frzAt (O : List DO) (k : Nat) : Option D := match go O k with
  | some (.frz ds) => some (.lst ds)
  | _ => none
mutual
def toD (O : List DO) : U → Option D
  | .d x => some x
  | .o k => frzAt O k
  | .t us => match toDs O us with
    | some ds => some (.tup ds)
    | none => none
  | .l us => match toDs O us with
    | some ds => some (.lst ds)
    | none => none
def toDs (O : List DO) : List U → Option (List D)
  | [] => some []
  | u :: us => match toD O u with
    | some d => (match toDs O us with
      | some ds => some (d :: ds)
      | none => none)
    | none => none
end
/-- a value as data -/
def nrm (O : List DO) : U → Option D
  | .d x => some x
  | .o k => match go O k with
    | some (.lst ds) => some (.lst ds)
    | some (.frz ds) => some (.lst ds)
    | some (.brw ds) => some (.lst ds)
    | some (.ob _ _) => none
    | none => none
  | .t us => toD O (.t us)
  | .l us => toD O (.l us)
structure Exc where
  cls : Str
  fs : List (Str × D)
abbrev ZQ := List U → List DO → Prop
abbrev ZX := Exc → List DO → Prop
abbrev ZE := ZX → List (Option U) → List DO → ZQ → Prop

inductive Vw (K : PySem.W.Frag) (M : Addr → Prop) (H : Hp) : V → D → Prop
  | at_ {v : V} {d : D} : At K M H v d → Vw K M H v d
  | own {a : Addr} {vs : List V} {ds : List D} : H a = some (.lst vs) → Ats K M H vs ds → Vw K M H (.ref a) (.lst ds)
section
variable {K : PySem.W.Frag} {M : Addr → Prop} {H : Hp} {v : V}
theorem Vw.lst {ds : List D} (h : Vw K M H v (.lst ds)) : ∃ a vs, v = .ref a ∧ H a = some (.lst vs) ∧ Ats K M H vs ds := by
  cases h with
  | at_ h => cases h with
    | lst e m r => exact ⟨_, _, rfl, e, r⟩
  | own e r => exact ⟨_, _, rfl, e, r⟩
theorem Vw.tup {ds : List D} (h : Vw K M H v (.tup ds)) : ∃ a vs, v = .ref a ∧ SqT K H a vs ∧ Ats K M H vs ds := by
  cases h with
  | at_ h => cases h with
    | tup e m r => exact ⟨_, _, rfl, SqT.of e, r⟩
    | tupK e r => exact ⟨_, _, rfl, e H, r⟩
theorem Vw.int {i : Int} (h : Vw K M H v (.int i)) : v = .int i := by
  cases h with
  | at_ h => cases h; rfl
theorem Vw.bl {i : Bool} (h : Vw K M H v (.bl i)) : v = .bl i := by
  cases h with
  | at_ h => cases h; rfl
theorem Vw.str {i : Str} (h : Vw K M H v (.str i)) : v = .str i := by
  cases h with
  | at_ h => cases h; rfl
theorem Vw.non (h : Vw K M H v .non) : v = .non := by
  cases h with
  | at_ h => cases h; rfl
theorem Vw.scr {ns : List Int} (h : Vw K M H v (.scr ns)) : ∃ a, v = .ref a ∧ SqL K H a (ns.map V.int) := by
  cases h with
  | at_ h => cases h with
    | scr e m => exact ⟨_, rfl, .inl e⟩
    | scrK e => exact ⟨_, rfl, e H⟩
end
section
variable {G : Gx} {B : Addr → Prop} {α α' : List Addr} {O O' : List DO} {H H' : Hp}
theorem At.frz (w : Own G B α O H) {k : Nat} {a : Addr} {d : D} (e1 : α[k]? = some a) (e : frzAt O k = some d) : At G.K (Mu B α O) H (.ref a) d := by
  unfold frzAt at e
  rw [go_eq] at e
  cases q : O[k]? with
  | none => rw [q] at e; cases e
  | some o =>
    rw [q] at e
    have h := w.at_ k a o e1 q
    cases o with
    | lst ds => cases e
    | brw ds => cases e
    | ob _ _ => cases e
    | frz ds =>
      cases e
      exact h
mutual
theorem At.of (w : Own G B α O H) : ∀ {u : U} {v : V} {d : D}, AtU G.K B α O H v u → toD O u = some d → At G.K (Mu B α O) H v d
  | .d x, v, d, h, e => by
    rw [toD] at e
    cases e
    cases h with
    | d a => exact a
  | .o k, v, d, h, e => by
    rw [toD] at e
    cases h with
    | o e1 => exact At.frz w e1 e
  | .t us, v, d, h, e => by
    rw [toD] at e
    cases h with
    | t e1 m r =>
      cases q : toDs O us with
      | none => rw [q] at e; cases e
      | some ds =>
        rw [q] at e
        cases e
        exact .tup e1 m (Ats.of w r q)
  | .l us, v, d, h, e => by
    rw [toD] at e
    cases h with
    | l e1 m r =>
      cases q : toDs O us with
      | none => rw [q] at e; cases e
      | some ds =>
        rw [q] at e
        cases e
        exact .lst e1 m (Ats.of w r q)
theorem Ats.of (w : Own G B α O H) : ∀ {us : List U} {vs : List V} {ds : List D}, AtUs G.K B α O H vs us → toDs O us = some ds → Ats G.K (Mu B α O) H vs ds
  | [], _, _, h, e => by
    rw [toDs] at e
    cases e
    cases h
    exact .nil
  | u :: us, _, _, h, e => by
    rw [toDs] at e
    cases h with
    | cons a r =>
      cases q : toD O u with
      | none => rw [q] at e; cases e
      | some d =>
        rw [q] at e
        cases q2 : toDs O us with
        | none => rw [q2] at e; cases e
        | some ds =>
          rw [q2] at e
          cases e
          exact .cons (At.of w a q) (Ats.of w r q2)
end
theorem Vw.of (w : Own G B α O H) {v : V} {u : U} {d : D} (a : AtU G.K B α O H v u) (e : nrm O u = some d) : Vw G.K (Mu B α O) H v d := by
  cases u with
  | d x =>
    cases e
    cases a with
    | d a => exact .at_ a
  | o k =>
    cases a with
    | @o _ b e1 =>
    have e' : (match go O k with
      | some (.lst ds) => some (D.lst ds)
      | some (.frz ds) => some (.lst ds)
      | some (.brw ds) => some (.lst ds)
      | some (.ob _ _) => none
      | none => none) = some d := e
    rw [go_eq] at e'
    cases q : O[k]? with
    | none => rw [q] at e'; cases e'
    | some o =>
      rw [q] at e'
      have h := w.at_ k b o e1 q
      cases o with
      | lst ds =>
        cases e'
        obtain ⟨vs, h1, h2⟩ := h
        exact .own h1 h2
      | brw ds =>
        cases e'
        obtain ⟨vs, h1, h2⟩ := h
        exact .own h1 h2
      | frz ds =>
        cases e'
        exact .at_ h
      | ob _ _ => cases e'
  | t us => exact .at_ (At.of w a e)
  | l us => exact .at_ (At.of w a e)
end

/-! ### the state against the slots; exceptions -/
structure Rep (G : Gx) (B : Addr → Prop) (α : List Addr) (σ : L2.St) (H : Hp) (ρ : List (Option U)) (O : List DO) : Prop where
  vars : ∀ i u, gt ρ i = some u → ∃ v, σ[i]? = some (some v) ∧ AtU G.K B α O H v u
  own : Own G B α O H
  len : ρ.length ≤ σ.length
def ExAt (G : Gx) (M : Addr → Prop) (x : Exc) (cls : Value) (d : Option Addr) (H : Hp) : Prop :=
  cls = .ref (He.ga G.K x.cls) ∧ ∃ dx fs, d = some dx ∧ H dx = some (.xd fs) ∧ ¬ M dx ∧ fs.map (·.1) = x.fs.map (·.1) ∧ Ats G.K M H (fs.map (·.2)) (x.fs.map (·.2))
/-- the wish E0 is served by the wish W0 from here on -/
def ELow (G : Gx) (B : Addr → Prop) (W0 : XK) (α : List Addr) (O : List DO) (H : Hp) (E0 : ZX) : Prop :=
  ∀ x O', E0 x O' → ∀ α' cls dd H', Stp α O H α' O' H' → Own G B α' O' H' → ExAt G (Mu B α' O') x cls dd H' → W0 cls dd H'
def QLow (G : Gx) (B : Addr → Prop) (α : List Addr) (O : List DO) (H : Hp) (Q0 : ZQ) (Q : VK) : Prop :=
  ∀ us O', Q0 us O' → ∃ u, us = [u] ∧ ∀ α' v H', Stp α O H α' O' H' → Own G B α' O' H' → AtU G.K B α' O' H' v u → Q v H'
def ALow (G : Gx) (B : Addr → Prop) (α : List Addr) (O : List DO) (H : Hp) (Q0 : ZQ) (Q : List V → Hp → Prop) : Prop :=
  ∀ us O', Q0 us O' → ∀ α' vs H', Stp α O H α' O' H' → Own G B α' O' H' → AtUs G.K B α' O' H' vs us → Q vs H'
def BLow (G : Gx) (B : Addr → Prop) (α : List Addr) (O : List DO) (H : Hp) (Q0 : ZQ) (Q : Bool → Hp → Prop) : Prop :=
  ∀ us O', Q0 us O' → ∃ b, us = [.d (.bl b)] ∧ ∀ α' H', Stp α O H α' O' H' → Own G B α' O' H' → Q b H'
section
variable {G : Gx} {B : Addr → Prop} {α α' : List Addr} {O O' : List DO} {H H' : Hp} {W0 : XK} {E0 : ZX} {ρ : List (Option U)} {σ : L2.St}
theorem Rep.stp (r : Rep G B α σ H ρ O) (s : Stp α O H α' O' H') (w : Own G B α' O' H') : Rep G B α' σ H' ρ O' :=
  ⟨fun i u e => let ⟨v, h1, h2⟩ := r.vars i u e; ⟨v, h1, s.atU h2⟩, w, r.len⟩
theorem ELow.stp (h : ELow G B W0 α O H E0) (s : Stp α O H α' O' H') : ELow G B W0 α' O' H' E0 :=
  fun x O2 e α2 cls dd H2 s2 w2 q => h x O2 e α2 cls dd H2 (s.trans s2) w2 q
end

/-- an expression's reading by data -/
def LfE (G : Gx) (W0 : XK) (t : ZE) : TE := fun σ H Q => ∃ B α ρ O Q0 E0, Rep G B α σ H ρ O ∧ t E0 ρ O Q0 ∧ QLow G B α O H Q0 Q ∧ ELow G B W0 α O H E0
def LfT (G : Gx) (W0 : XK) (t : ZE) : TT := fun σ H Q => ∃ B α ρ O Q0 E0, Rep G B α σ H ρ O ∧ t E0 ρ O Q0 ∧ BLow G B α O H Q0 Q ∧ ELow G B W0 α O H E0
def LfA (G : Gx) (W0 : XK) (t : ZE) : TA := fun σ H Q => ∃ B α ρ O Q0 E0, Rep G B α σ H ρ O ∧ t E0 ρ O Q0 ∧ ALow G B α O H Q0 Q ∧ ELow G B W0 α O H E0
theorem pe_imp {X : Cx} {e : Expr} {t t' : TE} (h : PE X e t) (i : ∀ σ H Q, t' σ H Q → t σ H Q) : PE X e t' := ⟨fun pins s σ H Q I q => h.run pins s σ H Q I (i σ H Q q)⟩
theorem pt_imp {X : Cx} {e : Expr} {t t' : TT} (h : PT X e t) (i : ∀ σ H Q, t' σ H Q → t σ H Q) : PT X e t' := ⟨fun pins s σ H Q I q => h.run pins s σ H Q I (i σ H Q q)⟩
theorem pw_imp {X : Cx} {e : Expr} {t t' : TT} (h : PW X e t) (i : ∀ σ H Q, t' σ H Q → t σ H Q) : PW X e t' := ⟨fun wh pins s σ H Q I q => h.run wh pins s σ H Q I (i σ H Q q)⟩
theorem pa_imp {X : Cx} {e : List Expr} {t t' : TA} (h : PA X e t) (i : ∀ σ H Q, t' σ H Q → t σ H Q) : PA X e t' := ⟨fun pos pins s σ H Q I q => h.run pos pins s σ H Q I (i σ H Q q)⟩
abbrev SE (X : Cx) (G : Gx) (W0 : XK) (e : Expr) (t : ZE) : Prop := PE X e (LfE G W0 t)
abbrev ST (X : Cx) (G : Gx) (W0 : XK) (e : Expr) (t : ZE) : Prop := PT X e (LfT G W0 t)
abbrev SA (X : Cx) (G : Gx) (W0 : XK) (e : List Expr) (t : ZE) : Prop := PA X e (LfA G W0 t)

/-! ### operations on data -/
def addD : D → D → (D → Prop) → Prop
  | .int i, .int j, Q => Q (.int (i + j))
  | .str a, .str b, Q => a.length + b.length ≤ sizeLine ∧ Q (.str (a ++ b))
  | .lst a, .lst b, Q => a.length + b.length ≤ sizeLine ∧ Q (.lst (a ++ b))
  | .tup a, .tup b, Q => a.length + b.length ≤ sizeLine ∧ Q (.tup (a ++ b))
  | _, _, _ => False
def subD : D → D → (D → Prop) → Prop
  | .int i, .int j, Q => Q (.int (i - j))
  | _, _, _ => False
/-- two factors of together less than a million bits -/
def MulOk (i j : Int) : Prop := IntMulOk i j
theorem op_mulX {X : Cx} : OpR X (binaryOp .Mult) (rI IntMulOk fun i j => .int (i * j)) := opI fun _ _ _ _ _ _ _ hc q => mul_int q hc
theorem mulOk_bits {i j : Int} {a b : Nat} (ha : i.natAbs < 2 ^ a) (hb : j.natAbs < 2 ^ b) (h0 : 0 < a) (h1 : 0 < b) (h : a + b ≤ 1000000) : MulOk i j := (wide_mul ha hb h0 h1 h).ok
theorem mulOk_r {i j : Int} (h1 : -(2 ^ 64) < j) (h2 : j < 2 ^ 64) : MulOk i j := CMul.ok (.inr ⟨h1, h2⟩)
theorem mulOk_l {i j : Int} (h1 : -(2 ^ 64) < i) (h2 : i < 2 ^ 64) : MulOk i j := CMul.ok (.inl ⟨h1, h2⟩)
def mulD : D → D → (D → Prop) → Prop
  | .int i, .int j, Q => MulOk i j ∧ Q (.int (i * j))
  | .lst a, .int k, Q => (-(2 ^ 63) ≤ k ∧ k < 2 ^ 63 ∧ a.length * k.toNat ≤ sizeLine) ∧ Q (.lst (List.replicate k.toNat a).flatten)
  | .tup a, .int k, Q => (0 ≤ k ∧ k ≤ 1000 ∧ a ≠ [] ∧ a.length ≤ 1000) ∧ Q (.tup (List.replicate k.toNat a).flatten)
  | .str x, .int k, Q => (2 ≤ k ∧ k ≤ 4000 ∧ 0 < x.length ∧ x.length ≤ 100) ∧ Q (.str ⟨(List.replicate k.toNat x.cps).foldl (· ++ ·) #[]⟩)
  | _, _, _ => False
def DivOk (j : Int) : Prop := j ≠ 0 ∧ j.natAbs.log2 < 9000
def fdivD : D → D → (D → Prop) → Prop
  | .int i, .int j, Q => DivOk j ∧ Q (.int (i.fdiv j))
  | _, _, _ => False
def modD : D → D → (D → Prop) → Prop
  | .int i, .int j, Q => j ≠ 0 ∧ Q (.int (i.fmod j))
  | _, _, _ => False
def powD : D → D → (D → Prop) → Prop
  | .int i, .int j, Q => CPow i j ∧ Q (.int (i ^ j.toNat))
  | _, _, _ => False
def binD : Operator → D → D → (D → Prop) → Prop
  | .Add => addD
  | .Sub => subD
  | .Mult => mulD
  | .FloorDiv => fdivD
  | .Mod => modD
  | .Pow => powD
  | _ => fun _ _ _ => False
/-- an operation on values that makes new data -/
def rB (G : Gx) (op : D → D → (D → Prop) → Prop) : R2 := fun v w H Q => ∃ B α O x y Q0, Own G B α O H ∧ Vw G.K (Mu B α O) H v x ∧ Vw G.K (Mu B α O) H w y ∧ op x y Q0 ∧
  ∀ z, Q0 z → ∀ v' H', Stp α O H α O H' → Own G B α O H' → At G.K (Mu B α O) H' v' z → Q v' H'
section
variable {X : Cx} {G : Gx}
theorem rb_new {B : Addr → Prop} {α : List Addr} {O : List DO} {H : Hp} (w : Own G B α O H) {Q0 : D → Prop} {Q : VK} {z : D} (h0 : Q0 z)
    (hq : ∀ z, Q0 z → ∀ v' H', Stp α O H α O H' → Own G B α O H' → At G.K (Mu B α O) H' v' z → Q v' H') {v : V} (a : At G.K (Mu B α O) H v z) : Q v H := hq z h0 v H Stp.refl w a
theorem rb_lst {B : Addr → Prop} {α : List Addr} {O : List DO} {H : Hp} (w : Own G B α O H) {Q0 : D → Prop} {Q : VK} {ds : List D} {vs : List V} (h0 : Q0 (.lst ds))
    (hq : ∀ z, Q0 z → ∀ v' H', Stp α O H α O H' → Own G B α O H' → At G.K (Mu B α O) H' v' z → Q v' H') (r : Ats G.K (Mu B α O) H vs ds) : ∀ p, H p = none → Q (.ref p) (upd H p (.lst vs)) := fun p hp =>
  hq _ h0 _ _ (stp_new hp) (own_new w hp) (At.lstNew w hp r)
theorem rb_tup {B : Addr → Prop} {α : List Addr} {O : List DO} {H : Hp} (w : Own G B α O H) {Q0 : D → Prop} {Q : VK} {ds : List D} {vs : List V} (h0 : Q0 (.tup ds))
    (hq : ∀ z, Q0 z → ∀ v' H', Stp α O H α O H' → Own G B α O H' → At G.K (Mu B α O) H' v' z → Q v' H') (r : Ats G.K (Mu B α O) H vs ds) : ∀ p, H p = none → Q (.ref p) (upd H p (.tup vs)) := fun p hp =>
  hq _ h0 _ _ (stp_new hp) (own_new w hp) (At.tupNew w hp r)
theorem op_fdivX : OpR X (binaryOp .FloorDiv) (rI (fun _ j => DivOk j) fun i j => .int (i.fdiv j)) := opI fun _ _ _ _ _ _ _ hc q => floordiv_int hc.1 q (.inl (PyProof.noPylong_of_log2 hc.2))
/-- a quotient that is told without the long way -/
def DivQ (i j : Int) : Prop := j ≠ 0 ∧ Builtin.divisionGoesByPylong i j = false
def fdqD : D → D → (D → Prop) → Prop
  | .int i, .int j, Q => DivQ i j ∧ Q (.int (i.fdiv j))
  | _, _, _ => False
theorem op_fdq : OpR X (binaryOp .FloorDiv) (rI DivQ fun i j => .int (i.fdiv j)) := opI fun _ _ _ _ _ _ _ hc q => floordiv_int hc.1 q (.inl hc.2)
theorem ats_rep {B : Addr → Prop} {α : List Addr} {O : List DO} {H : Hp} {ds : List D} {vs : List V} (r : Ats G.K (Mu B α O) H vs ds) : ∀ k, Ats G.K (Mu B α O) H (List.replicate k vs).flatten (List.replicate k ds).flatten
  | 0 => .nil
  | k + 1 => by
    rw [List.replicate_succ, List.replicate_succ, List.flatten_cons, List.flatten_cons]
    exact r.append (ats_rep r k)
theorem opr_add (hK : X.K = G.K) : OpR X (binaryOp .Add) (rB G addD) := by
  intro pins s σ H v w v' w' Q I rv rw' ⟨B, α, O, x, y, Q0, ow, ax, ay, h, hq⟩
  cases x with
  | int i =>
    cases y with
    | int j =>
      obtain rfl := ax.int
      obtain rfl := ay.int
      exact op_add pins s σ H _ _ v' w' Q I rv rw' ⟨i, j, rfl, rfl, rb_new ow h hq (.int _)⟩
    | _ => exact h.elim
  | str i =>
    cases y with
    | str j =>
      obtain rfl := ax.str
      obtain rfl := ay.str
      exact op_add_str pins s σ H _ _ v' w' Q I rv rw' ⟨i, j, rfl, rfl, h.1, rb_new ow h.2 hq (.str _)⟩
    | _ => exact h.elim
  | lst i =>
    cases y with
    | lst j =>
      obtain ⟨a, vs, rfl, e, r⟩ := ax.lst
      obtain ⟨b, ws, rfl, e2, r2⟩ := ay.lst
      exact op_cat pins s σ H _ _ v' w' Q I rv rw' ⟨a, b, vs, ws, rfl, rfl, e, e2, by rw [r.length, r2.length]; exact h.1, rb_lst ow h.2 hq (r.append r2)⟩
    | _ => exact h.elim
  | tup i =>
    cases y with
    | tup j =>
      obtain ⟨a, vs, rfl, e, r⟩ := ax.tup
      obtain ⟨b, ws, rfl, e2, r2⟩ := ay.tup
      refine op_catA pins s σ H _ _ v' w' Q I rv rw' ⟨a, b, vs, ws, rfl, rfl, by rw [hK]; exact e, by rw [hK]; exact e2, by rw [r.length, r2.length]; exact h.1, fun z => ?_, fun _ z => ?_, fun _ _ => rb_tup ow h.2 hq (r.append r2)⟩
      · subst z
        cases r
        cases ay with
        | at_ ay => exact rb_new ow h.2 hq ay
      · subst z
        cases r2
        cases ax with
        | at_ ax => exact rb_new ow h.2 hq (by rw [List.append_nil]; exact ax)
    | _ => exact h.elim
  | _ => exact h.elim
theorem opr_sub (hK : X.K = G.K) : OpR X (binaryOp .Sub) (rB G subD) := by
  intro pins s σ H v w v' w' Q I rv rw' ⟨B, α, O, x, y, Q0, ow, ax, ay, h, hq⟩
  cases x with
  | int i =>
    cases y with
    | int j =>
      obtain rfl := ax.int
      obtain rfl := ay.int
      exact op_sub pins s σ H _ _ v' w' Q I rv rw' ⟨i, j, rfl, rfl, rb_new ow h hq (.int _)⟩
    | _ => exact h.elim
  | _ => exact h.elim
theorem tuple_mul1 (l : Addr) (items : Array Value) (n : Nat) (dd : Option Addr) (sl : Array (Option Value)) (u : Tok) :
    Meets (Builtin.«tuple.__mul__» ⟨[.ref l, .int 1 u], []⟩) (fun _ R s => s.heap.get? l = some { cls := .type "tuple", dict := dd, data := .seq items n, slots := sl } ∧ R (.ok (.ret (Value.ref l))) s) :=
  .of_wp fun prog w A R s h => by
    obtain ⟨hp, g, d, tk, os⟩ := s
    obtain ⟨hl, h⟩ := h
    have f1 := AutoSeq1.idx_int
    wp_walk using wpAny_loadPart' hl
    exact ⟨_, rfl, h⟩
theorem op_repT1 {X : Cx} : OpR X (binaryOp .Mult) (fun x y H Q => ∃ l xs, x = .ref l ∧ y = .int 1 ∧ SqT X.K H l xs ∧ Q (.ref l) H) := by
  intro pins s σ H x y v u Q I rx ry h
  obtain ⟨l, xs, rfl, rfl, hT, q⟩ := h
  cases rx
  obtain ⟨t, rfl⟩ := ry
  obtain ⟨its, r, ⟨⟨cls, dd, data, sl⟩, ho, hc, n, hd⟩, hs⟩ := I.tuple hT
  simp only at hc hd
  subst hc hd
  refine wpAny_binaryOp_repeat_ref (T := "tuple") (U := "int") (by decide) ⟨_, ho, rfl⟩ (fun s' => typeIs_int s' 1 t) noFill_tuple_mul F.fills_int_mul F.slot_int_rmul repeat_tuple F.slot_int_index.lookup
    (call_meets F.slot_int_rmul (typeIs_int s 1 t) F.entry_int_rmul (F.args_int_rmul_2 _ _) (int_rmul_tuple 1 t l its.toArray n dd sl)
      ⟨ho, rfl, ⟨_, ho, rfl⟩, call_meets F.slot_tuple_mul ⟨_, ho, rfl⟩ F.entry_tuple_mul (F.args_tuple_mul_2 _ _) (tuple_mul1 l its.toArray n dd sl t) ⟨ho, ?_⟩⟩)
  exact ⟨.ref l, H, I, rfl, q⟩
theorem tuple_mul0 (l : Addr) (items : Array Value) (n : Nat) (dd : Option Addr) (sl : Array (Option Value)) (u : Tok) (c1 : items.isEmpty = false) :
    Meets (Builtin.«tuple.__mul__» ⟨[.ref l, .int 0 u], []⟩) (fun _ R s => s.heap.get? l = some { cls := .type "tuple", dict := dd, data := .seq items n, slots := sl } ∧
      R (.ok (.ret (Value.ref s.heap.objs.size))) { s with heap := s.heap.push { cls := Value.type "tuple", data := Data.seq #[] }, toks := s.toks }) :=
  .of_wp fun prog w A R s h => by
    obtain ⟨hp, g, d, tk, os⟩ := s
    obtain ⟨hl, h⟩ := h
    have f1 := AutoSeq1.idx_int
    have c2 : ((items.isEmpty || (0 : Int) == 1) = true) = False := by rw [c1]; simp
    wp_walk using wpAny_loadPart' hl
    repeat (first
      | (refine wpAny_ite_false (decide_eq_false (by rw [c2]; exact fun z => z)) ?_; wp_walk using wpAny_loadPart' hl)
      | (refine wpAny_ite_false (decide_eq_false (by rw [c1]; simp)) ?_; wp_walk using wpAny_loadPart' hl))
    exact ⟨_, rfl, h⟩
theorem op_repT0 {X : Cx} : OpR X (binaryOp .Mult) (fun x y H Q => ∃ l xs, x = .ref l ∧ y = .int 0 ∧ xs ≠ [] ∧ SqT X.K H l xs ∧ ∀ p, H p = none → Q (.ref p) (upd H p (.tup []))) := by
  intro pins s σ H x y v u Q I rx ry h
  obtain ⟨l, xs, rfl, rfl, hne, hT, q⟩ := h
  cases rx
  obtain ⟨t, rfl⟩ := ry
  obtain ⟨its, r, ⟨⟨cls, dd, data, sl⟩, ho, hc, n, hd⟩, hs⟩ := I.tuple hT
  simp only at hc hd
  subst hc hd
  have hi : its.toArray.isEmpty = false := by
    cases its with
    | nil =>
      cases r
      exact absurd rfl hne
    | cons a b => rfl
  refine wpAny_binaryOp_repeat_ref (T := "tuple") (U := "int") (by decide) ⟨_, ho, rfl⟩ (fun s' => typeIs_int s' 0 t) noFill_tuple_mul F.fills_int_mul F.slot_int_rmul repeat_tuple F.slot_int_index.lookup
    (call_meets F.slot_int_rmul (typeIs_int s 0 t) F.entry_int_rmul (F.args_int_rmul_2 _ _) (int_rmul_tuple 0 t l its.toArray n dd sl)
      ⟨ho, rfl, ⟨_, ho, rfl⟩, call_meets F.slot_tuple_mul ⟨_, ho, rfl⟩ F.entry_tuple_mul (F.args_tuple_mul_2 _ _) (tuple_mul0 l its.toArray n dd sl t hi) ⟨ho, ?_⟩⟩)
  refine ⟨.ref s.heap.objs.size, _, I.laid (t' := s.toks) (o := .tup []) (fun b ob q => Heap.get?_push_of_some _ q) (Nat.le_refl _) ?_, rfl, q _ (I.hok.fresh (Nat.le_refl _))⟩
  exact ⟨Nat.zero_le _, [], .nil, IsTup.new _ _⟩
theorem opr_mul (hK : X.K = G.K) : OpR X (binaryOp .Mult) (rB G mulD) := by
  intro pins s σ H v w v' w' Q I rv rw' ⟨B, α, O, x, y, Q0, ow, ax, ay, h, hq⟩
  cases x with
  | int i =>
    cases y with
    | int j =>
      obtain rfl := ax.int
      obtain rfl := ay.int
      exact op_mulX pins s σ H _ _ v' w' Q I rv rw' ⟨i, j, rfl, rfl, h.1, rb_new ow h.2 hq (.int _)⟩
    | _ => exact h.elim
  | lst i =>
    cases y with
    | int j =>
      obtain ⟨a, vs, rfl, e, r⟩ := ax.lst
      obtain rfl := ay.int
      exact op_rep pins s σ H _ _ v' w' Q I rv rw' ⟨a, j, vs, rfl, rfl, e, h.1.1, h.1.2.1, by rw [r.length]; exact h.1.2.2, rb_lst ow h.2 hq (ats_rep r _)⟩
    | _ => exact h.elim
  | tup i =>
    cases y with
    | int j =>
      obtain ⟨a, vs, rfl, e, r⟩ := ax.tup
      obtain rfl := ay.int
      obtain ⟨⟨h1, h2, h3, h4⟩, h5⟩ := h
      by_cases hj : j = 1
      · subst hj
        have e1 : (List.replicate (Int.toNat 1) i).flatten = i := by
          show (List.replicate 1 i).flatten = i
          simp
        rw [e1] at h5
        refine op_repT1 pins s σ H _ _ v' w' Q I rv rw' ⟨a, vs, rfl, rfl, by rw [hK]; exact e, ?_⟩
        cases ax with
        | at_ ax => exact rb_new ow h5 hq ax
      by_cases hj0 : j = 0
      · subst hj0
        have e1 : (List.replicate (Int.toNat 0) i).flatten = [] := rfl
        rw [e1] at h5
        refine op_repT0 pins s σ H _ _ v' w' Q I rv rw' ⟨a, vs, rfl, rfl, fun z => ?_, by rw [hK]; exact e, rb_tup ow h5 hq .nil⟩
        rw [z] at r
        cases r
        exact h3 rfl
      · refine op_repT pins s σ H _ _ v' w' Q I rv rw' ⟨a, j, vs, rfl, rfl, by rw [hK]; exact e, fun z => ?_, by omega, h2, by rw [r.length]; exact h4, rb_tup ow h5 hq (ats_rep r _)⟩
        rw [z] at r
        cases r
        exact h3 rfl
    | _ => exact h.elim
  | str x =>
    cases y with
    | int j =>
      obtain rfl := ax.str
      obtain rfl := ay.int
      obtain ⟨t, rfl⟩ := rv
      obtain ⟨u, rfl⟩ := rw'
      obtain ⟨⟨h1, h2, h3, h4⟩, h5⟩ := h
      have e1 : ¬ j < 1 := by omega
      have e2 : (j == 1 || x.length == 0) = false := by
        have a1 : (j == 1) = false := by simp; omega
        have a2 : (x.length == 0) = false := by simp; omega
        rw [a1, a2]
        rfl
      have hm : x.length * j.toNat ≤ 100 * 4000 := Nat.mul_le_mul h4 (by omega)
      refine P.mul_str ?_ (fun _ _ => ?_) (fun _ _ => ?_) ?_
      · simp
        omega
      · have : 2000000000000000 ≤ (2 ^ 63 - 1 : Int) / j := by
          refine Int.le_ediv_of_mul_le (by omega) ?_
          have : (2000000000000000 : Int) * j ≤ 2000000000000000 * 4000 := Int.mul_le_mul_of_nonneg_left h2 (by decide)
          omega
        omega
      · refine decide_eq_false ?_
        rw [sizeLine_eq]
        omega
      · rw [if_neg e1, if_neg (by rw [e2]; decide)]
        refine ⟨?_, .str _, H, I.tok _, ⟨_, rfl⟩, rb_new ow h5 hq (.str _)⟩
        have key : ∀ (m : Nat) (b : Array Nat), ((List.replicate m x.cps).foldl (· ++ ·) b).size = b.size + m * x.cps.size := fun m => by
          induction m with
          | zero => intro b; simp
          | succ m ih =>
            intro b
            rw [List.replicate_succ, List.foldl_cons, ih, Array.size_append, Nat.succ_mul]
            omega
        show ((List.replicate j.toNat x.cps).foldl (· ++ ·) #[]).size ≤ sizeLine
        have hm : j.toNat * x.cps.size ≤ 4000 * 100 := Nat.mul_le_mul (by omega) h4
        rw [key, sizeLine_eq]
        simp
        omega
    | _ => exact h.elim
  | _ => exact h.elim
theorem opr_fdiv (hK : X.K = G.K) : OpR X (binaryOp .FloorDiv) (rB G fdivD) := by
  intro pins s σ H v w v' w' Q I rv rw' ⟨B, α, O, x, y, Q0, ow, ax, ay, h, hq⟩
  cases x with
  | int i =>
    cases y with
    | int j =>
      obtain rfl := ax.int
      obtain rfl := ay.int
      exact op_fdivX pins s σ H _ _ v' w' Q I rv rw' ⟨i, j, rfl, rfl, h.1, rb_new ow h.2 hq (.int _)⟩
    | _ => exact h.elim
  | _ => exact h.elim
theorem opr_fdq (hK : X.K = G.K) : OpR X (binaryOp .FloorDiv) (rB G fdqD) := by
  intro pins s σ H v w v' w' Q I rv rw' ⟨B, α, O, x, y, Q0, ow, ax, ay, h, hq⟩
  cases x with
  | int i =>
    cases y with
    | int j =>
      obtain rfl := ax.int
      obtain rfl := ay.int
      exact op_fdq pins s σ H _ _ v' w' Q I rv rw' ⟨i, j, rfl, rfl, h.1, rb_new ow h.2 hq (.int _)⟩
    | _ => exact h.elim
  | _ => exact h.elim
theorem opr_mod (hK : X.K = G.K) : OpR X (binaryOp .Mod) (rB G modD) := by
  intro pins s σ H v w v' w' Q I rv rw' ⟨B, α, O, x, y, Q0, ow, ax, ay, h, hq⟩
  cases x with
  | int i =>
    cases y with
    | int j =>
      obtain rfl := ax.int
      obtain rfl := ay.int
      exact op_modN pins s σ H _ _ v' w' Q I rv rw' ⟨i, j, rfl, rfl, h.1, rb_new ow h.2 hq (.int _)⟩
    | _ => exact h.elim
  | _ => exact h.elim
theorem opr_pow (hK : X.K = G.K) : OpR X (binaryOp .Pow) (rB G powD) := by
  intro pins s σ H v w v' w' Q I rv rw' ⟨B, α, O, x, y, Q0, ow, ax, ay, h, hq⟩
  cases x with
  | int i =>
    cases y with
    | int j =>
      obtain rfl := ax.int
      obtain rfl := ay.int
      exact op_pow pins s σ H _ _ v' w' Q I rv rw' ⟨i, j, rfl, rfl, h.1, rb_new ow h.2 hq (.int _)⟩
    | _ => exact h.elim
  | _ => exact h.elim
theorem opr_bin (hK : X.K = G.K) : ∀ op, OpR X (binaryOp op) (rB G (binD op))
  | .Add => opr_add hK
  | .Sub => opr_sub hK
  | .Mult => opr_mul hK
  | .FloorDiv => opr_fdiv hK
  | .Mod => opr_mod hK
  | .Pow => opr_pow hK
  | .MatMult => fun _ _ _ _ _ _ _ _ _ _ _ _ ⟨_, _, _, _, _, _, _, _, _, h, _⟩ => h.elim
  | .Div => fun _ _ _ _ _ _ _ _ _ _ _ _ ⟨_, _, _, _, _, _, _, _, _, h, _⟩ => h.elim
  | .LShift => fun _ _ _ _ _ _ _ _ _ _ _ _ ⟨_, _, _, _, _, _, _, _, _, h, _⟩ => h.elim
  | .RShift => fun _ _ _ _ _ _ _ _ _ _ _ _ ⟨_, _, _, _, _, _, _, _, _, h, _⟩ => h.elim
  | .BitOr => fun _ _ _ _ _ _ _ _ _ _ _ _ ⟨_, _, _, _, _, _, _, _, _, h, _⟩ => h.elim
  | .BitXor => fun _ _ _ _ _ _ _ _ _ _ _ _ ⟨_, _, _, _, _, _, _, _, _, h, _⟩ => h.elim
  | .BitAnd => fun _ _ _ _ _ _ _ _ _ _ _ _ ⟨_, _, _, _, _, _, _, _, _, h, _⟩ => h.elim
end
end Z

set_option Elab.async false
set_option linter.all false
set_option maxRecDepth 100000
set_option maxHeartbeats 4000000
/-! ### sum(x, start): start a list or a tuple -/
namespace PySem
section
variable {prog : Program} {w : World} {A : Around} {R : Result → Shared → Prop} {I : Addr} {fp wr : List Addr} {n : Nat} {P : Nat → Value → Prop} {St : Nat → Heap → Prop}
theorem codeAny_sum_loopR {S : Addr} {T : Nat → Addr → Heap → Prop} (W : Walks prog w A.in1 I fp wr n P St) (hSf : S ∉ fp)
    (hTk : ∀ i v h h', T i v h → (∀ b o, b ∉ wr → b ≠ S → h.get? b = some o → h'.get? b = some o) → T i v h')
    (hadd : ∀ i v t (s : Shared) (Q : Value → Shared → Prop) (E : Value → Shared → Prop), i < n → P i v → T i t s.heap → s.heap.get? S ≠ none → (∀ b ∈ wr, s.heap.get? b ≠ none) → (∀ t' h' tk, (∀ b o, s.heap.get? b = some o → h'.get? b = some o) → T (i + 1) t' h' → Q (.ref t') { s with heap := h', toks := tk }) → wpAny (model prog w) A.in1 (binaryOp .Add (.ref t) v) Q E s)
    (hStw : ∀ i h, St i h → ∀ b ∈ wr, h.get? b ≠ none) :
    ∀ (k i : Nat) (s : Shared) (t : Addr) (c : Nat), n - i = k → i ≤ n → St i s.heap → T i t s.heap → s.heap.get? S = some { cls := .type "list", dict := none, data := .seq #[.ref t] c, slots := #[] } →
    (∀ h' tk t', T n t' h' → (∀ b o, b ∉ wr → b ≠ S → s.heap.get? b = some o → h'.get? b = some o) → R (.ok (.ret (.ref t'))) { s with heap := h', toks := tk }) →
    codeAny (model prog w) A (.builtin "sum.loop" ⟨[.ref I, .ref S, rawInt 2, rawInt 0], []⟩) R s := by
  have hSw : S ∉ wr := fun h => hSf (W.sub _ h)
  intro k
  induction k with
  | zero =>
    intro i s t c hk hi hst hT hS hR
    have hin : i = n := by omega
    subst hin
    refine codeAny_builtin F.entry_sum_loop ?_
    rw [Around.under_plainId F.plain_sum_loop _]
    show wpAny _ A.in1 (seqItems? (.ref S) >>= _) _ _ s
    refine wpAny_bind (wpAny_seqItems hS rfl ?_)
    show wpAny _ A.in1 (tryCatch (pyNext (.ref I)) _ >>= _) _ _ s
    refine wpAny_bind (wpAny_tryCatch (W.done s _ _ hst fun h' tk hk' => ?_))
    exact wpAny_pure (hR h' tk t (hTk _ _ _ _ hT fun b o hb _ e => hk' b o hb e) fun b o hbw _ e => hk' b o hbw e)
  | succ k ih =>
    intro i s t c hk hi hst hT hS hR
    have hlt : i < n := by omega
    refine codeAny_builtin F.entry_sum_loop ?_
    rw [Around.under_plainId F.plain_sum_loop _]
    show wpAny _ A.in1 (seqItems? (.ref S) >>= _) _ _ s
    refine wpAny_bind (wpAny_seqItems hS rfl ?_)
    show wpAny _ A.in1 (tryCatch (pyNext (.ref I)) _ >>= _) _ _ s
    refine wpAny_bind (wpAny_tryCatch (W.item i s _ _ hlt hst fun v h' tk hP hst' hk' => ?_))
    have hS' := hk' S _ hSw hS
    have hT' := hTk _ _ _ _ hT fun b o hb _ e => hk' b o hb e
    show wpAny _ A.in1 ((holding [v] (binaryOp .Add (.ref t) v)).attempt >>= _) _ _ _
    refine wpAny_bind (wpAny_attempt (wpAny_holding (hadd i v t _ _ _ hlt hP hT' (by show h'.get? S ≠ none; rw [hS']; simp) (hStw _ _ hst') fun t' h2 tk2 hk2 hT2 => ?_)))
    have hS2 := hk2 S _ hS'
    show wpAny _ A.in1 (updateSeq S (fun _ => #[.ref t']) >>= _) _ _ _
    refine wpAny_bind ?_
    refine wpAny_updateSeq hS2 rfl ?_
    have hS3 := Heap.get?_update_self (Obj.mapSeq fun _ => #[Value.ref t']) hS2 rfl
    refine wpAny_bind (wpAny_letGo ?_)
    refine wpAny_bind ?_
    have keepS : ∀ b o, b ∉ wr → b ≠ S → s.heap.get? b = some o → ((h2.update S (Obj.mapSeq fun _ => #[Value.ref t'])).update S (Obj.mapSeq fun _ => #[Value.ref t'])).get? b = some o := fun b o hbw hbS e =>
      (Heap.get?_update_other _ _ (Ne.symm hbS)).trans ((Heap.get?_update_other _ _ (Ne.symm hbS)).trans (hk2 b o (hk' b o hbw e)))
    have up : ∀ b o, b ∉ wr → b ≠ S → h2.get? b = some o → ((h2.update S (Obj.mapSeq fun _ => #[Value.ref t'])).update S (Obj.mapSeq fun _ => #[Value.ref t'])).get? b = some o := fun b o _ hbS e =>
      (Heap.get?_update_other _ _ (Ne.symm hbS)).trans ((Heap.get?_update_other _ _ (Ne.symm hbS)).trans e)
    refine wpAny_updateSeq hS3 rfl (wpAny_pure ⟨plainId_quiet F.plain_sum_loop _, ih (i + 1) _ t' _ (by omega) hlt (W.frame _ _ _ hst' fun b hb o e => ?_) (hTk _ _ _ _ hT2 up) (Heap.get?_update_self _ hS3 rfl) fun h'' tk'' t'' hT'' hk'' => ?_⟩)
    · have hbS : S ≠ b := fun h : S = b => hSf (by rw [h]; exact hb)
      exact (Heap.get?_update_other _ _ hbS).trans ((Heap.get?_update_other _ _ hbS).trans (hk2 b o e))
    · exact hR h'' tk'' t'' hT'' fun b o hbw hbS e => hk'' b o hbw hbS (keepS b o hbw hbS e)
end
theorem F.args_sum2 (a b : Value) : argsOk "sum" ⟨[a, b], []⟩ := by unfold argsOk; kernel_rfl
section
variable {prog : Program} {w : World} {A : Around} {E : Value → Shared → Prop} {s : Shared}
theorem call_sum_walkR {x : Value} {st : Addr} {ty : String} {Q : Value → Shared → Prop}
    (hty : s.TypeIs (.ref st) ty) (h1 : isSubtype (.type ty) (.type "str") = pure false) (h2 : isSubtype (.type ty) (.type "bytes") = pure false) (h3 : isSubtype (.type ty) (.type "bytearray") = pure false)
    (h : wpAny (model prog w) A.in1 (pyIter x) (fun it s₂ => ∃ I fp wr n P St, ∃ T : Addr → Nat → Addr → Heap → Prop, it = .ref I ∧ Walks prog w A.in1 I fp wr n P St ∧ St 0 s₂.heap ∧ (∀ b ∈ fp, b < s₂.heap.objs.size) ∧ s₂.TypeIs (.ref st) ty ∧
      (∀ i h, St i h → ∀ b ∈ wr, h.get? b ≠ none) ∧ (∀ i v h h' S, T S i v h → (∀ b o, b ∉ wr → b ≠ S → h.get? b = some o → h'.get? b = some o) → T S i v h') ∧
      (∀ S i v t (s : Shared) (Q : Value → Shared → Prop) (E : Value → Shared → Prop), i < n → P i v → T S i t s.heap → s.heap.get? S ≠ none → (∀ b ∈ wr, s.heap.get? b ≠ none) → (∀ t' h' tk, (∀ b o, s.heap.get? b = some o → h'.get? b = some o) → T S (i + 1) t' h' → Q (.ref t') { s with heap := h', toks := tk }) → wpAny (model prog w) A.in1 (binaryOp .Add (.ref t) v) Q E s) ∧
      (∀ h', (∀ b o, s₂.heap.get? b = some o → h'.get? b = some o) → T s₂.heap.objs.size 0 st h') ∧
      ∀ h' tk t' S, T S n t' h' → (∀ b o, b ∉ wr → s₂.heap.get? b = some o → h'.get? b = some o) → Q (.ref t') { s₂ with heap := h', toks := tk }) E s) :
    wpAny (model prog w) A (call (.builtin "sum") [x, .ref st]) Q E s := by
  refine call_function_tree F.kind_sum F.plain_sum F.entry_sum (F.args_sum2 _ _) ?_
  unfold Builtin.«sum»
  simp only [List.length_cons, List.length_nil]
  rw [if_neg (by decide)]
  refine wpAny_bind (wpAny_of_eq (show Builtin.Builtins.bindParams "sum" ["start"] 0 ⟨[.ref st], []⟩ = pure [some (.ref st)] from rfl) ?_)
  refine wpAny_bind (wpAny_mono h (fun it s₂ h₂ => ?_) fun _ _ e => e)
  obtain ⟨I, fp, wr, n, P, St, T, rfl, W, hst, hfp, hty2, hStw, hTk, hadd, hT0, hQ⟩ := h₂
  refine wpAny_bind (wpAny_pure ?_)
  simp only [List.forIn_cons, List.forIn_nil]
  refine wpAny_bind (wpAny_bind (wpAny_bind (wpAny_isInstance (b := false) hty2 h1 ?_)))
  simp only [Bool.false_eq_true, if_false]
  refine wpAny_pure (wpAny_bind (wpAny_bind (wpAny_isInstance (b := false) hty2 h2 ?_)))
  simp only [Bool.false_eq_true, if_false]
  refine wpAny_pure (wpAny_bind (wpAny_bind (wpAny_isInstance (b := false) hty2 h3 ?_)))
  simp only [Bool.false_eq_true, if_false]
  refine wpAny_pure (wpAny_pure ?_)
  refine wpAny_bind (wpAny_newObj_type ?_)
  have hSf : s₂.heap.objs.size ∉ fp := fun hm => Nat.lt_irrefl _ (hfp _ hm)
  refine wpAny_pure ⟨plainId_quiet F.plain_sum_loop _, codeAny_sum_loopR (T := T s₂.heap.objs.size) W hSf (fun i v h h' a b => hTk i v h h' _ a b) (fun i v t s Q E a b c d e f => hadd _ i v t s Q E a b c d e f) hStw n 0 _ st 0 rfl (Nat.zero_le _)
    (W.frame _ _ _ hst fun b _ o e => Heap.get?_push_of_some _ e) (hT0 _ fun b o e => Heap.get?_push_of_some _ e) (Heap.get?_push_size _ rfl) fun h' tk t' hT hk => ?_⟩
  exact hQ h' tk t' _ hT fun b o hbw e => hk b o hbw (Nat.ne_of_lt (Heap.lt_size e)) (Heap.get?_push_of_some _ e)
end
end PySem

set_option Elab.async false
set_option linter.all false
set_option maxRecDepth 100000
set_option maxHeartbeats 4000000
namespace PySem
open PyProof.Rows
/-- a kind of sequence that + puts together -/
structure SeqK (Kd : Heap → Addr → List Value → Prop) (ty : String) (nb : Prop) : Prop where
  at_ : ∀ {h a xs}, Kd h a xs → ∃ o, h.get? a = some o ∧ o.cls = .type ty ∧ ∀ h', h'.get? a = some o → Kd h' a xs
  add : ∀ {prog : Program} {w : World} {A : Around} {E : Value → Shared → Prop} {s : Shared} {Q : Value → Shared → Prop} {t b : Addr} {xs ys : List Value}, Kd s.heap t xs → Kd s.heap b ys → xs.length + ys.length ≤ sizeLine →
    (∀ t' h', (∀ c o, s.heap.get? c = some o → h'.get? c = some o) → Kd h' t' (xs ++ ys) → ((nb ∧ t' = t ∧ ys = []) ∨ (nb ∧ t' = b ∧ xs = []) ∨ s.heap.objs.size ≤ t') → Q (.ref t') { s with heap := h' }) → wpAny (model prog w) A (binaryOp .Add (.ref t) (.ref b)) Q E s
  s1 : isSubtype (.type ty) (.type "str") = pure false
  s2 : isSubtype (.type ty) (.type "bytes") = pure false
  s3 : isSubtype (.type ty) (.type "bytearray") = pure false
def isLst (h : Heap) (a : Addr) (xs : List Value) : Prop := ∃ n, h.get? a = some { cls := .type "list", dict := none, data := .seq xs.toArray n, slots := #[] }
def isTpl (h : Heap) (a : Addr) (xs : List Value) : Prop := IsTup h a xs.toArray
theorem seqK_list : SeqK isLst "list" False where
  at_ := fun ⟨n, e⟩ => ⟨_, e, rfl, fun h' e' => ⟨n, e'⟩⟩
  add := fun {prog w A E s Q t b xs ys} ⟨n, e⟩ ⟨m, e2⟩ hz q => by
    refine PySem.P.add_list e e2 ?_ (by rw [List.size_toArray, List.size_toArray]; omega)
    refine q _ _ (fun c o e => Heap.get?_push_of_some _ e) ⟨0, ?_⟩ (.inr (.inr (Nat.le_refl _)))
    rw [Heap.get?_push_size _ rfl]
    simp
  s1 := F.sub_list_str
  s2 := F.sub_list_bytes
  s3 := F.sub_list_bytearray
theorem seqK_tuple : SeqK isTpl "tuple" True where
  at_ := fun ⟨o, e, hc, n, hd⟩ => ⟨o, e, hc, fun h' e' => ⟨o, e', hc, n, hd⟩⟩
  add := fun {prog w A E s Q t b xs ys} ht hb hz q => by
    by_cases hx : xs = []
    · subst hx
      refine L2.cat_tup0 ht hb (q _ _ (fun _ _ e => e) ?_ (.inr (.inl ⟨trivial, rfl, rfl⟩)))
      exact hb
    · refine HT.cat_tup ht hb hx (fun hy => ?_) (fun hy => ?_) hz
      · subst hy
        refine q _ _ (fun _ _ e => e) ?_ (.inl ⟨trivial, rfl, rfl⟩)
        rw [List.append_nil]
        exact ht
      · exact q _ _ (fun c o e => Heap.get?_push_of_some _ e) ⟨_, Heap.get?_push_size _ rfl, rfl, 0, rfl⟩ (.inr (.inr (Nat.le_refl _)))
  s1 := F.sub_tuple_str
  s2 := F.sub_tuple_bytes
  s3 := F.sub_tuple_bytearray
section
variable {prog : Program} {w : World} {A : Around} {E : Value → Shared → Prop} {s : Shared} {Kd : Heap → Addr → List Value → Prop} {ty : String} {nb : Prop}
theorem take_flat {α : Type} {bs : List (List α)} {i : Nat} (h : i < bs.length) : (bs.take (i + 1)).flatten = (bs.take i).flatten ++ bs[i] := by
  rw [List.take_add_one, List.getElem?_eq_getElem h, List.flatten_append]
  simp
theorem flat_le {α : Type} : ∀ (bs : List (List α)) (i : Nat), (bs.take i).flatten.length ≤ bs.flatten.length
  | [], i => by simp
  | b :: bs, 0 => by simp
  | b :: bs, i + 1 => by
    have := flat_le bs i
    simp only [List.take_succ_cons, List.flatten_cons, List.length_append]
    omega
/-- where the sum lies: the start, one of the parts, a new place -/
def SumAt (nb : Prop) (st : Addr) (b0 : List Value) (its : List Addr) (bs : List (List Value)) (sz : Nat) (i : Nat) (t : Addr) : Prop :=
  (t = st ∧ ∀ j, j < i → bs[j]? = some []) ∨ (nb ∧ b0 = [] ∧ ∃ j, j < i ∧ its[j]? = some t ∧ ∀ k, k < i → k ≠ j → bs[k]? = some []) ∨ sz ≤ t
theorem flat_nil {α : Type} : ∀ {bs : List (List α)} {i : Nat}, i ≤ bs.length → (bs.take i).flatten = [] → ∀ j, j < i → bs[j]? = some []
  | [], _, h, _, j, hj => by simp at h; omega
  | b :: bs, 0, _, _, j, hj => by omega
  | b :: bs, i + 1, h, e, 0, _ => by
    simp only [List.take_succ_cons, List.flatten_cons, List.append_eq_nil_iff] at e
    rw [List.getElem?_cons_zero, e.1]
  | b :: bs, i + 1, h, e, j + 1, hj => by
    simp only [List.take_succ_cons, List.flatten_cons, List.append_eq_nil_iff] at e
    rw [List.getElem?_cons_succ]
    exact flat_nil (by simpa using h) e.2 j (by omega)
theorem sum_seqs {x : Value} {st : Addr} {b0 : List Value} {its : List Addr} {bs : List (List Value)} {Q : Value → Shared → Prop} (SK : SeqK Kd ty nb) (hlen : its.length = bs.length)
    (hst : Kd s.heap st b0) (hits : ∀ (i : Nat) (a : Addr) (ys : List Value), its[i]? = some a → bs[i]? = some ys → Kd s.heap a ys) (hz : b0.length + bs.flatten.length ≤ sizeLine)
    (hit : ∀ (Q : Value → Shared → Prop), (∀ o fp St, (∀ b ∈ fp, b < s.heap.objs.size + 1) → Walks prog w A.in1 s.heap.objs.size fp [s.heap.objs.size] its.length (fun i v => (its.map Value.ref).toArray[i]? = some v) St → St 0 (s.heap.push o) → (∀ i h, St i h → h.get? s.heap.objs.size ≠ none) → Q (.ref s.heap.objs.size) { s with heap := s.heap.push o }) → wpAny (model prog w) A.in1 (pyIter x) Q E s)
    (h : ∀ h' tk t', SumAt nb st b0 its bs s.heap.objs.size its.length t' → Kd h' t' (b0 ++ bs.flatten) → (∀ b o, s.heap.get? b = some o → h'.get? b = some o) → Q (.ref t') { s with heap := h', toks := tk }) :
    wpAny (model prog w) A (call (.builtin "sum") [x, .ref st]) Q E s := by
  obtain ⟨so, se, sc, sk⟩ := SK.at_ hst
  refine call_sum_walkR (ty := ty) ⟨so, se, sc⟩ SK.s1 SK.s2 SK.s3 (hit _ fun o fp St hfp W h0 hSt => ?_)
  have hI : ∀ (a : Addr), s.heap.get? a ≠ none → a ≠ s.heap.objs.size := fun a ha e => by
    rw [e, Heap.get?_none_of_le (Nat.le_refl _)] at ha
    exact ha rfl
  refine ⟨s.heap.objs.size, fp, [s.heap.objs.size], its.length, _, St, fun S i t h => (SumAt nb st b0 its bs s.heap.objs.size i t ∧ Kd h t (b0 ++ (bs.take i).flatten)) ∧ t ≠ s.heap.objs.size ∧ t ≠ S ∧ ∀ (j : Nat) (a : Addr) (ys : List Value), its[j]? = some a → bs[j]? = some ys → Kd h a ys ∧ a ≠ s.heap.objs.size ∧ a ≠ S, rfl, W, h0, fun b hb => ?_, ⟨so, Heap.get?_push_of_some _ se, sc⟩, ?_, ?_, ?_, ?_, ?_⟩
  · show b < (s.heap.push o).objs.size
    rw [Heap.size_push]
    exact hfp b hb
  · intro i h hs b hb
    rw [List.mem_singleton.mp hb]
    exact hSt i h hs
  · rintro i v h1 h2 S ⟨⟨k0, k1⟩, k2, k3, k4⟩ kp
    refine ⟨⟨k0, ?_⟩, k2, k3, fun j a ys e1 e2 => ?_⟩
    · obtain ⟨o1, g1, _, g2⟩ := SK.at_ k1
      exact g2 _ (kp _ _ (fun m => k2 (List.mem_singleton.mp m)) k3 g1)
    · obtain ⟨k5, k6, k7⟩ := k4 j a ys e1 e2
      obtain ⟨o1, g1, _, g2⟩ := SK.at_ k5
      exact ⟨g2 _ (kp _ _ (fun m => k6 (List.mem_singleton.mp m)) k7 g1), k6, k7⟩
  · rintro S i v t s2 Q2 E2 hi hP ⟨⟨k0, k1⟩, k2, k3, k4⟩ hS hw hq
    obtain ⟨a, ha⟩ : ∃ a, its[i]? = some a := ⟨_, List.getElem?_eq_getElem hi⟩
    obtain ⟨ys, hy⟩ : ∃ ys, bs[i]? = some ys := ⟨_, List.getElem?_eq_getElem (by omega)⟩
    have hv : v = .ref a := by
      have : (its.map Value.ref)[i]? = some v := by simpa using hP
      rw [List.getElem?_map, ha] at this
      simpa using this.symm
    subst hv
    obtain ⟨k5, k6, k7⟩ := k4 i a ys ha hy
    have e : (bs.take (i + 1)).flatten = (bs.take i).flatten ++ ys := by
      rw [List.take_add_one, hy, List.flatten_append]
      simp
    refine SK.add k1 k5 ?_ fun t' h' kp kd hn => hq t' h' s2.toks kp ⟨⟨?_, ?_⟩, ?_, ?_, fun j b zs e1 e2 => ?_⟩
    · have h1 := flat_le bs (i + 1)
      rw [e, List.length_append] at h1
      rw [List.length_append]
      omega
    · have hsz : s.heap.objs.size ≤ s2.heap.objs.size := by
        have h1 := hw _ (List.mem_singleton_self _)
        cases q : s2.heap.get? s.heap.objs.size with
        | none => exact absurd q h1
        | some u => exact Nat.le_of_lt (Heap.lt_size q)
      rcases hn with ⟨n1, rfl, rfl⟩ | ⟨n1, rfl, hx⟩ | hn
      · rcases k0 with ⟨rfl, z⟩ | ⟨z1, z2, j, z3, z4, z5⟩ | z
        · exact .inl ⟨rfl, fun j hj => if q : j = i then by rw [q]; exact hy else z j (by omega)⟩
        · exact .inr (.inl ⟨z1, z2, j, by omega, z4, fun k hk hkj => if q : k = i then by rw [q]; exact hy else z5 k (by omega) hkj⟩)
        · exact .inr (.inr z)
      · obtain ⟨x1, x2⟩ := List.append_eq_nil_iff.mp hx
        exact .inr (.inl ⟨n1, x1, i, by omega, ha, fun k hk hki => flat_nil (by omega) x2 k (by omega)⟩)
      · exact .inr (.inr (Nat.le_trans hsz hn))
    · rw [e, ← List.append_assoc]
      exact kd
    · rcases hn with ⟨_, rfl, _⟩ | ⟨_, rfl, _⟩ | hn
      · exact k2
      · exact k6
      · intro e0
        rw [e0] at hn
        exact hw _ (List.mem_singleton_self _) (Heap.get?_none_of_le hn)
    · rcases hn with ⟨_, rfl, _⟩ | ⟨_, rfl, _⟩ | hn
      · exact k3
      · exact k7
      · intro e0
        rw [e0] at hn
        exact hS (Heap.get?_none_of_le hn)
    · obtain ⟨g1, g2, g3⟩ := k4 j b zs e1 e2
      obtain ⟨o1, g4, _, g5⟩ := SK.at_ g1
      exact ⟨g5 _ (kp _ _ g4), g2, g3⟩
  · intro h' kp
    have sz : ∀ {c : Addr} {u : Obj}, s.heap.get? c = some u → c ≠ (s.heap.push o).objs.size ∧ c ≠ s.heap.objs.size := fun e => by
      have := Heap.lt_size e
      rw [Heap.size_push]
      exact ⟨Nat.ne_of_lt (Nat.lt_succ_of_lt this), Nat.ne_of_lt this⟩
    refine ⟨⟨.inl ⟨rfl, fun j hj => absurd hj (Nat.not_lt_zero j)⟩, ?_⟩, (sz se).2, (sz se).1, fun j a ys e1 e2 => ?_⟩
    · simp only [List.take_zero, List.flatten_nil, List.append_nil]
      exact sk _ (kp _ _ (Heap.get?_push_of_some _ se))
    · obtain ⟨o1, g1, _, g2⟩ := SK.at_ (hits j a ys e1 e2)
      exact ⟨g2 _ (kp _ _ (Heap.get?_push_of_some _ g1)), (sz g1).2, (sz g1).1⟩
  · rintro h' tk t' S ⟨⟨k0, k1⟩, _⟩ kp
    refine h h' tk t' k0 ?_ fun b u e => kp b u (fun m => ?_) (Heap.get?_push_of_some _ e)
    · rw [hlen, List.take_length] at k1
      exact k1
    · have := Heap.lt_size e
      rw [List.mem_singleton.mp m] at this
      exact Nat.lt_irrefl _ this
end
end PySem

set_option Elab.async false
set_option linter.all false
set_option maxRecDepth 100000
set_option maxHeartbeats 4000000
namespace PySem
open PyProof.Rows
section
variable {prog : Program} {w : World} {A : Around} {E : Value → Shared → Prop} {s : Shared}
theorem hit_list (hh : A.handled = none) {l : Addr} {its : List Addr} (hl : s.heap.IsList l (its.map Value.ref).toArray) (Q : Value → Shared → Prop)
    (h : ∀ o fp St, (∀ b ∈ fp, b < s.heap.objs.size + 1) → Walks prog w A.in1 s.heap.objs.size fp [s.heap.objs.size] its.length (fun i v => (its.map Value.ref).toArray[i]? = some v) St → St 0 (s.heap.push o) → (∀ i h, St i h → h.get? s.heap.objs.size ≠ none) → Q (.ref s.heap.objs.size) { s with heap := s.heap.push o }) : wpAny (model prog w) A.in1 (pyIter (.ref l)) Q E s := by
  have hlt : l < s.heap.objs.size := by obtain ⟨_, e, _⟩ := hl; exact Heap.lt_size e
  refine wpAny_pyIter_list hl (h _ [s.heap.objs.size, l] (fun i h => h.IsListIter s.heap.objs.size l i ∧ h.IsList l (its.map Value.ref).toArray) (fun b hb => ?_) (by
    have W := Walks.list (prog := prog) (w := w) (A := A.in1) hh s.heap.objs.size l (Nat.ne_of_lt hlt) (its.map Value.ref).toArray
    have e : (its.map Value.ref).toArray.size = its.length := by simp
    rw [e] at W
    exact W) ⟨⟨_, Heap.get?_push_size _ rfl, rfl, rfl⟩, hl.push _⟩ fun i h st => ?_)
  · rcases List.mem_cons.mp hb with rfl | hb
    · exact Nat.lt_succ_self _
    · rw [List.mem_singleton.mp hb]; exact Nat.lt_succ_of_lt hlt
  · obtain ⟨⟨o, e, _⟩, _⟩ := st
    rw [e]
    simp
theorem hit_tuple (hh : A.handled = none) {l : Addr} {its : List Addr} (hl : s.heap.IsTuple l (its.map Value.ref).toArray) (Q : Value → Shared → Prop)
    (h : ∀ o fp St, (∀ b ∈ fp, b < s.heap.objs.size + 1) → Walks prog w A.in1 s.heap.objs.size fp [s.heap.objs.size] its.length (fun i v => (its.map Value.ref).toArray[i]? = some v) St → St 0 (s.heap.push o) → (∀ i h, St i h → h.get? s.heap.objs.size ≠ none) → Q (.ref s.heap.objs.size) { s with heap := s.heap.push o }) : wpAny (model prog w) A.in1 (pyIter (.ref l)) Q E s := by
  have hlt : l < s.heap.objs.size := by obtain ⟨_, e, _⟩ := hl; exact Heap.lt_size e
  refine wpAny_pyIter_tuple hl (h _ [s.heap.objs.size, l] (fun i h => h.IsTupleIter s.heap.objs.size l i ∧ h.IsTuple l (its.map Value.ref).toArray) (fun b hb => ?_) (by
    have W := Walks.tuple (prog := prog) (w := w) (A := A.in1) hh s.heap.objs.size l (Nat.ne_of_lt hlt) (its.map Value.ref).toArray
    have e : (its.map Value.ref).toArray.size = its.length := by simp
    rw [e] at W
    exact W) ⟨⟨_, Heap.get?_push_size _ rfl, rfl, rfl⟩, hl.push _⟩ fun i h st => ?_)
  · rcases List.mem_cons.mp hb with rfl | hb
    · exact Nat.lt_succ_self _
    · rw [List.mem_singleton.mp hb]; exact Nat.lt_succ_of_lt hlt
  · obtain ⟨⟨o, e, _⟩, _⟩ := st
    rw [e]
    simp
end
end PySem
namespace Z
open PySem PySem.Spec PyProof.Rows L2
theorem vals_refs : ∀ {as : List Addr} {its : List Value}, Vals (as.map V.ref) its → its = as.map Value.ref
  | [], _, .nil => rfl
  | a :: as, _, .cons r t => by
    cases r
    rw [vals_refs t]
    rfl
theorem paired_get {α β : Type} {F : α → β → Prop} {xs : List α} {ys : List β} (h : Paired F xs ys) : ∀ {i : Nat} {x : α} {y : β}, xs[i]? = some x → ys[i]? = some y → F x y := by
  induction h with
  | nil => intro i x y e; simp at e
  | cons a r ih =>
    intro i x y e1 e2
    cases i with
    | zero => simp at e1 e2; subst e1; subst e2; exact a
    | succ i => exact ih (by simpa using e1) (by simpa using e2)
theorem paired_len {α β : Type} {F : α → β → Prop} {xs : List α} {ys : List β} (h : Paired F xs ys) : xs.length = ys.length := by
  induction h with
  | nil => rfl
  | cons a r ih => simp [ih]
theorem vals_flat {yss : List (List V)} {bs : List (List Value)} (h : Paired Vals yss bs) : Vals yss.flatten bs.flatten := by
  induction h with
  | nil => exact .nil
  | cons a r ih => rw [List.flatten_cons, List.flatten_cons]; exact a.append ih
theorem emp_of {yss : List (List V)} {bs : List (List Value)} (h : Paired Vals yss bs) {k : Nat} (e : bs[k]? = some []) : yss[k]? = some [] := by
  have hk : k < bs.length := (List.getElem?_eq_some_iff.mp e).1
  have hk2 : k < yss.length := by rw [paired_len h]; exact hk
  have hv := paired_get h (List.getElem?_eq_getElem hk2) e
  rw [List.getElem?_eq_getElem hk2]
  have := hv.length
  rw [List.length_nil] at this
  rw [List.length_eq_zero_iff.mp this]
section
variable {X : Cx} {pins : List (Addr × Obj)} {σ : L2.St} {H : Hp} {s : Shared}
theorem tups_in (I : Inv X pins σ H s) {as : List Addr} {yss : List (List V)} (h : Paired (fun b ys => SqT X.K H b ys) as yss) : ∃ bs, Paired Vals yss bs ∧ Paired (fun b zs => isTpl s.heap b zs) as bs := by
  induction h with
  | nil => exact ⟨[], .nil, .nil⟩
  | cons a r ih =>
    obtain ⟨bs, h1, h2⟩ := ih
    obtain ⟨its, r1, p1, _⟩ := I.tuple a
    exact ⟨its :: bs, .cons r1 h1, .cons p1 h2⟩
theorem lsts_in (I : Inv X pins σ H s) {as : List Addr} {yss : List (List V)} (h : Paired (fun b ys => H b = some (.lst ys)) as yss) : ∃ bs, Paired Vals yss bs ∧ Paired (fun b zs => isLst s.heap b zs) as bs := by
  induction h with
  | nil => exact ⟨[], .nil, .nil⟩
  | cons a r ih =>
    obtain ⟨bs, h1, h2⟩ := ih
    obtain ⟨z, its, n, r1, hl, e⟩ := I.lstM a
    exact ⟨its :: bs, .cons r1 h1, .cons ⟨n, e⟩ h2⟩
end
section
variable {X : Cx}
/-- sum(t, u): a tuple of tuples, a tuple -/
def rSumT (K : PySem.W.Frag) : List V → Hp → VK → Prop := fun vs H Q => ∃ (a st : Addr) (as : List Addr) (yss : List (List V)) (b0 : List V), vs = [.ref a, .ref st] ∧ SqT K H a (as.map V.ref) ∧ Paired (fun b ys => SqT K H b ys) as yss ∧ SqT K H st b0 ∧ b0.length + yss.flatten.length ≤ sizeLine ∧
  ((∀ j, j < as.length → yss[j]? = some []) → Q (.ref st) H) ∧ (∀ (j : Nat) (b : Addr), as[j]? = some b → b0 = [] → (∀ k, k < as.length → k ≠ j → yss[k]? = some []) → Q (.ref b) H) ∧ ∀ p, H p = none → Q (.ref p) (upd H p (.tup (b0 ++ yss.flatten)))
theorem cr_sumT (hc : X.calm = true) : CallR X (.builtin "sum") (rSumT X.K) := by
  intro pins s σ H vs us Q I r h
  obtain ⟨a, st, as, yss, b0, rfl, ha, hy, hs, hz, q1, q2, q3⟩ := h
  cases r with
  | cons ra r =>
  cases r with
  | cons rb r =>
  cases r
  cases ra
  cases rb
  obtain ⟨its, r1, p1, _⟩ := I.tuple ha
  obtain rfl := vals_refs r1
  obtain ⟨c0, r2, p2, _⟩ := I.tuple hs
  obtain ⟨bs, h1, h2⟩ := tups_in I hy
  have hfl := vals_flat h1
  refine sum_seqs seqK_tuple (paired_len h2) (show isTpl s.heap st c0 from p2) (fun i a ys e1 e2 => paired_get h2 e1 e2) (by rw [← r2.length, ← hfl.length]; exact hz) (fun Q h => hit_tuple (I.ok.hd hc) p1 Q h) fun h' tk t' hn kd kp => ?_
  rcases hn with ⟨rfl, z⟩ | ⟨_, z1, j, z2, z3, z4⟩ | z
  · exact ⟨.ref t', H, I.kept kp, rfl, q1 fun j hj => emp_of h1 (z j hj)⟩
  · refine ⟨.ref t', H, I.kept kp, rfl, q2 j t' z3 ?_ fun k hk hkj => emp_of h1 (z4 k hk hkj)⟩
    have := r2.length
    rw [z1, List.length_nil] at this
    exact List.length_eq_zero_iff.mp this
  · exact ⟨.ref t', _, I.laid (o := .tup (b0 ++ yss.flatten)) kp z ⟨by rw [List.length_append]; exact hz, c0 ++ bs.flatten, r2.append hfl, kd⟩, rfl, q3 t' (I.hok.fresh z)⟩
/-- sum(l, m): a list of lists, a list -/
def rSumL : List V → Hp → VK → Prop := fun vs H Q => ∃ (a st : Addr) (as : List Addr) (yss : List (List V)) (b0 : List V), vs = [.ref a, .ref st] ∧ H a = some (.lst (as.map V.ref)) ∧ Paired (fun b ys => H b = some (.lst ys)) as yss ∧ H st = some (.lst b0) ∧ b0.length + yss.flatten.length ≤ sizeLine ∧
  ((∀ j, j < as.length → yss[j]? = some []) → Q (.ref st) H) ∧ ∀ p, H p = none → Q (.ref p) (upd H p (.lst (b0 ++ yss.flatten)))
theorem cr_sumL (hc : X.calm = true) : CallR X (.builtin "sum") rSumL := by
  intro pins s σ H vs us Q I r h
  obtain ⟨a, st, as, yss, b0, rfl, ha, hy, hs, hz, q1, q3⟩ := h
  cases r with
  | cons ra r =>
  cases r with
  | cons rb r =>
  cases r
  cases ra
  cases rb
  obtain ⟨_, its, n, r1, _, e1⟩ := I.lstM ha
  obtain rfl := vals_refs r1
  obtain ⟨_, c0, m, r2, _, e2⟩ := I.lstM hs
  obtain ⟨bs, h1, h2⟩ := lsts_in I hy
  have hfl := vals_flat h1
  refine sum_seqs seqK_list (paired_len h2) (show isLst s.heap st c0 from ⟨m, e2⟩) (fun i a ys e1 e2 => paired_get h2 e1 e2) (by rw [← r2.length, ← hfl.length]; exact hz) (fun Q h => hit_list (I.ok.hd hc) ⟨_, e1, rfl, n, rfl⟩ Q h) fun h' tk t' hn kd kp => ?_
  rcases hn with ⟨rfl, z⟩ | ⟨z0, _⟩ | z
  · exact ⟨.ref t', H, I.kept kp, rfl, q1 fun j hj => emp_of h1 (z j hj)⟩
  · exact z0.elim
  · obtain ⟨n2, kd⟩ := kd
    exact ⟨.ref t', _, I.laid (o := .lst (b0 ++ yss.flatten)) kp z ⟨by rw [List.length_append]; exact hz, c0 ++ bs.flatten, n2, r2.append hfl, kd⟩, rfl, q3 t' (I.hok.fresh z)⟩
end
end Z

set_option Elab.async false
set_option linter.all false
set_option maxRecDepth 100000
set_option maxHeartbeats 4000000
namespace Z
open PySem PySem.Spec PyProof.Rows L2

/-! ### equality -/
mutual
def toP : D → PyData
  | .non => .none
  | .bl b => .bool b
  | .int i => .int i
  | .str x => .str x
  | .tup ds => .tuple (toPs ds)
  | .lst ds => .list (toPs ds)
  | .dct _ _ => .dict []
  | .obj _ _ _ => .dict []
  | .exc _ _ _ => .dict []
  | .scr _ => .dict []
def toPs : List D → List PyData
  | [] => []
  | d :: ds => toP d :: toPs ds
end
section
variable {K : PySem.W.Frag} {M : Addr → Prop} {H : Hp}
mutual
theorem At.dp : ∀ {d : D} {v : V}, At K M H v d → (toP d).canLay0 = true → Dp K H v (toP d)
  | .non, _, h, _ => by cases h; exact .non
  | .bl b, _, h, _ => by cases h; exact .bl b
  | .int i, _, h, _ => by cases h; exact .int i
  | .str x, _, h, _ => by cases h; exact .str x
  | .tup ds, _, h, c => by
    cases h with
    | tup e m r => exact .tup (SqT.of e) (Ats.dp r c)
    | tupK e r => exact .tup (e H) (Ats.dp r c)
  | .lst ds, _, h, c => by
    cases h with
    | lst e m r => exact .lst (SqL.of e) (Ats.dp r c)
  | .dct _ _, _, h, c => by cases c
  | .obj _ _ _, _, h, c => by cases c
  | .exc _ _ _, _, h, c => by cases c
  | .scr _, _, h, c => by cases c
theorem Ats.dp : ∀ {ds : List D} {vs : List V}, Ats K M H vs ds → PyData.canLayAll0 (toPs ds) = true → DpAll K H vs (toPs ds)
  | [], _, h, _ => by cases h; exact .nil
  | d :: ds, _, h, c => by
    cases h with
    | cons a r =>
      have c' : ((toP d).canLay0 && PyData.canLayAll0 (toPs ds)) = true := c
      rw [Bool.and_eq_true] at c'
      exact .cons (At.dp a c'.1) (Ats.dp r c'.2)
end
theorem Vw.dp {d : D} {v : V} (h : Vw K M H v d) (c : (toP d).canLay0 = true) : Dp K H v (toP d) := by
  cases h with
  | at_ h => exact h.dp c
  | own e r => exact .lst (SqL.of e) (r.dp c)
end
def Shp (d : D) : Prop := SeqAt.shaped (toP d) = true
def eqD : D → D → (Bool → Prop) → Prop
  | .int i, .int j, Q => Q (decide (i = j))
  | .str a, .str b, Q => Q (decide (a = b))
  | x, y, Q => Shp x ∧ Shp y ∧ Q (PyData.eqv (toP x) (toP y))
def flat : D → Bool
  | .non => true
  | .bl _ => true
  | .int _ => true
  | .str _ => true
  | _ => false
def toV : D → V
  | .non => .non
  | .bl b => .bl b
  | .int i => .int i
  | .str x => .str x
  | _ => .non
def inD : D → D → (Bool → Prop) → Prop
  | .str x, .str z, Q => ∃ c : Nat, x = ⟨#[c]⟩ ∧ Q (decide (c ∈ z.cps.toList))
  | x, .lst ds, Q => flat x = true ∧ ds.all flat = true ∧ Q (inV (toV x) (ds.map toV))
  | x, .tup ds, Q => flat x = true ∧ ds.all flat = true ∧ Q (inV (toV x) (ds.map toV))
  | _, _, _ => False
def isD : D → D → (Bool → Prop) → Prop
  | .non, .non, Q => Q true
  | _, .non, Q => Q false
  | _, _, _ => False
def cmpD : CmpOp → D → D → (Bool → Prop) → Prop
  | .Eq, x, y, Q => eqD x y Q
  | .NotEq, x, y, Q => eqD x y fun b => Q (!b)
  | .Lt, .int i, .int j, Q => Q (decide (i < j))
  | .LtE, .int i, .int j, Q => Q (decide (i ≤ j))
  | .Gt, .int i, .int j, Q => Q (decide (j < i))
  | .GtE, .int i, .int j, Q => Q (decide (j ≤ i))
  | .Lt, .str i, .str j, Q => Q (decide (i.cps.toList < j.cps.toList))
  | .Is, x, y, Q => isD x y Q
  | .IsNot, x, y, Q => isD x y fun b => Q (!b)
  | .In, x, y, Q => inD x y Q
  | .NotIn, x, y, Q => inD x y fun b => Q (!b)
  | _, _, _, _ => False
/-- a comparison on values -/
def rC (G : Gx) (op : D → D → (Bool → Prop) → Prop) : R2 := fun v w H Q => ∃ B α O x y Q0, Own G B α O H ∧ Vw G.K (Mu B α O) H v x ∧ Vw G.K (Mu B α O) H w y ∧ op x y Q0 ∧ ∀ b, Q0 b → Q (.bl b) H
section
variable {X : Cx} {G : Gx}
theorem flat_v {K : PySem.W.Frag} {M : Addr → Prop} {H : Hp} {v : V} {x : D} (h : At K M H v x) (f : flat x = true) : v = toV x ∧ flatV (toV x) = true := by
  cases h <;> first | exact ⟨rfl, rfl⟩ | cases f
theorem flat_vw {K : PySem.W.Frag} {M : Addr → Prop} {H : Hp} {v : V} {x : D} (h : Vw K M H v x) (f : flat x = true) : v = toV x ∧ flatV (toV x) = true := by
  cases h with
  | at_ h => exact flat_v h f
  | own _ _ => cases f
theorem flat_vs {K : PySem.W.Frag} {M : Addr → Prop} {H : Hp} : ∀ {vs : List V} {ds : List D}, Ats K M H vs ds → ds.all flat = true → vs = ds.map toV ∧ (ds.map toV).all flatV = true
  | _, _, .nil, _ => ⟨rfl, rfl⟩
  | _, _, .cons a r, f => by
    rw [List.all_cons, Bool.and_eq_true] at f
    obtain ⟨e1, e2⟩ := flat_v a f.1
    obtain ⟨e3, e4⟩ := flat_vs r f.2
    refine ⟨by rw [e1, e3] <;> rfl, ?_⟩
    rw [List.map_cons, List.all_cons, Bool.and_eq_true]
    exact ⟨e2, e4⟩
theorem eq_deep (hu : X.A.units + 64 < cLine) (hK : X.K = G.K) {pins : List (Addr × Obj)} {s : Shared} {σ : L2.St} {H : Hp} {v w : V} {v' w' : Value} {Q : VK} (I : Inv X pins σ H s) (rv : RelV v v') (rw' : RelV w w') {M : Addr → Prop} {x y : D}
    (ax : Vw G.K M H v x) (ay : Vw G.K M H w y) {Q0 : Bool → Prop} (h : Shp x ∧ Shp y ∧ Q0 (PyData.eqv (toP x) (toP y))) (hq : ∀ b, Q0 b → Q (.bl b) H) : wpAny (model X.prog X.w) X.A (compareOp .Eq v' w') (EP X pins σ Q) X.xe s :=
  op_eqD hu pins s σ H v w v' w' Q I rv rw' ⟨_, _, by rw [hK]; exact ax.dp (SeqAt.canLay_of_shaped h.1), by rw [hK]; exact ay.dp (SeqAt.canLay_of_shaped h.2.1), h.1, h.2.1, hq _ h.2.2⟩
theorem ne_deep (hu : X.A.units + 64 < cLine) (hK : X.K = G.K) {pins : List (Addr × Obj)} {s : Shared} {σ : L2.St} {H : Hp} {v w : V} {v' w' : Value} {Q : VK} (I : Inv X pins σ H s) (rv : RelV v v') (rw' : RelV w w') {M : Addr → Prop} {x y : D}
    (ax : Vw G.K M H v x) (ay : Vw G.K M H w y) {Q0 : Bool → Prop} (h : Shp x ∧ Shp y ∧ Q0 (!PyData.eqv (toP x) (toP y))) (hq : ∀ b, Q0 b → Q (.bl b) H) : wpAny (model X.prog X.w) X.A (compareOp .NotEq v' w') (EP X pins σ Q) X.xe s :=
  op_neD hu pins s σ H v w v' w' Q I rv rw' ⟨_, _, by rw [hK]; exact ax.dp (SeqAt.canLay_of_shaped h.1), by rw [hK]; exact ay.dp (SeqAt.canLay_of_shaped h.2.1), h.1, h.2.1, hq _ h.2.2⟩
theorem eqD_split {x y : D} {Q : Bool → Prop} (h : eqD x y Q) : (∃ i j, x = .int i ∧ y = .int j ∧ Q (decide (i = j))) ∨ (∃ i j, x = .str i ∧ y = .str j ∧ Q (decide (i = j))) ∨ (Shp x ∧ Shp y ∧ Q (PyData.eqv (toP x) (toP y))) := by
  unfold eqD at h
  split at h
  · exact .inl ⟨_, _, rfl, rfl, h⟩
  · exact .inr (.inl ⟨_, _, rfl, rfl, h⟩)
  · exact .inr (.inr h)
theorem opc_eq (hu : X.A.units + 64 < cLine) (hK : X.K = G.K) : OpR X (compareOp .Eq) (rC G eqD) := by
  intro pins s σ H v w v' w' Q I rv rw' ⟨B, α, O, x, y, Q0, ow, ax, ay, h, hq⟩
  rcases eqD_split h with ⟨i, j, rfl, rfl, h⟩ | ⟨i, j, rfl, rfl, h⟩ | h
  · obtain rfl := ax.int
    obtain rfl := ay.int
    exact op_eq pins s σ H _ _ v' w' Q I rv rw' ⟨rfl, by have := hq _ h; simpa using this⟩
  · obtain rfl := ax.str
    obtain rfl := ay.str
    exact op_eq pins s σ H _ _ v' w' Q I rv rw' ⟨rfl, by have := hq _ h; simpa using this⟩
  · exact eq_deep hu hK I rv rw' ax ay h hq
theorem opc_ne (hu : X.A.units + 64 < cLine) (hK : X.K = G.K) : OpR X (compareOp .NotEq) (rC G fun x y Q => eqD x y fun b => Q (!b)) := by
  intro pins s σ H v w v' w' Q I rv rw' ⟨B, α, O, x, y, Q0, ow, ax, ay, h, hq⟩
  rcases eqD_split h with ⟨i, j, rfl, rfl, h⟩ | ⟨i, j, rfl, rfl, h⟩ | h
  · obtain rfl := ax.int
    obtain rfl := ay.int
    exact op_ne pins s σ H _ _ v' w' Q I rv rw' ⟨rfl, by have := hq _ h; simpa using this⟩
  · obtain rfl := ax.str
    obtain rfl := ay.str
    exact op_ne pins s σ H _ _ v' w' Q I rv rw' ⟨rfl, by have := hq _ h; simpa using this⟩
  · exact ne_deep hu hK I rv rw' ax ay h hq
theorem isD_split {x y : D} {Q : Bool → Prop} (h : isD x y Q) : y = .non ∧ ((x = .non ∧ Q true) ∨ (x ≠ .non ∧ Q false)) := by
  unfold isD at h
  split at h
  · exact ⟨rfl, .inl ⟨rfl, h⟩⟩
  · rename_i z
    exact ⟨rfl, .inr ⟨z, h⟩⟩
  · exact h.elim
theorem vw_nonnon {K : PySem.W.Frag} {M : Addr → Prop} {H : Hp} {v : V} {x : D} (h : Vw K M H v x) (n : x ≠ .non) : v ≠ .non := by
  cases h with
  | at_ h => cases h <;> first | exact absurd rfl n | (intro z; cases z)
  | own _ _ => intro z; cases z
theorem opc_is (hK : X.K = G.K) : OpR X (compareOp .Is) (rC G isD) := by
  intro pins s σ H v w v' w' Q I rv rw' ⟨B, α, O, x, y, Q0, ow, ax, ay, h, hq⟩
  obtain ⟨rfl, h2⟩ := isD_split h
  obtain rfl := ay.non
  rcases h2 with ⟨rfl, h⟩ | ⟨n, h⟩
  · obtain rfl := ax.non
    exact op_isN pins s σ H _ _ v' w' Q I rv rw' ⟨rfl, by have := hq _ h; simpa using this⟩
  · exact op_isN pins s σ H _ _ v' w' Q I rv rw' ⟨rfl, by rw [decide_eq_false (vw_nonnon ax n)]; exact hq _ h⟩
theorem opc_isnot (hK : X.K = G.K) : OpR X (compareOp .IsNot) (rC G fun x y Q => isD x y fun b => Q (!b)) := by
  intro pins s σ H v w v' w' Q I rv rw' ⟨B, α, O, x, y, Q0, ow, ax, ay, h, hq⟩
  obtain ⟨rfl, h2⟩ := isD_split h
  obtain rfl := ay.non
  rcases h2 with ⟨rfl, h⟩ | ⟨n, h⟩
  · obtain rfl := ax.non
    exact op_notN pins s σ H _ _ v' w' Q I rv rw' ⟨rfl, by have := hq _ h; simpa using this⟩
  · exact op_notN pins s σ H _ _ v' w' Q I rv rw' ⟨rfl, by rw [decide_eq_false (vw_nonnon ax n)]; exact hq _ h⟩
theorem inD_split {x y : D} {Q : Bool → Prop} (h : inD x y Q) : (∃ (c : Nat) (z : Str), x = .str ⟨#[c]⟩ ∧ y = .str z ∧ Q (decide (c ∈ z.cps.toList))) ∨ (∃ ds, (y = .lst ds ∨ y = .tup ds) ∧ flat x = true ∧ ds.all flat = true ∧ Q (inV (toV x) (ds.map toV))) := by
  unfold inD at h
  split at h
  · obtain ⟨c, rfl, h⟩ := h
    exact .inl ⟨c, _, rfl, rfl, h⟩
  · exact .inr ⟨_, .inl rfl, h⟩
  · exact .inr ⟨_, .inr rfl, h⟩
  · exact h.elim
theorem vw_seq {K : PySem.W.Frag} {M : Addr → Prop} {H : Hp} {v : V} {y : D} {ds : List D} (h : Vw K M H v y) (e : y = .lst ds ∨ y = .tup ds) : ∃ a vs, v = .ref a ∧ (SqL K H a vs ∨ SqT K H a vs) ∧ Ats K M H vs ds := by
  rcases e with rfl | rfl
  · obtain ⟨a, vs, rfl, e, r⟩ := h.lst
    exact ⟨a, vs, rfl, .inl (SqL.of e), r⟩
  · obtain ⟨a, vs, rfl, e, r⟩ := h.tup
    exact ⟨a, vs, rfl, .inr e, r⟩
theorem opc_in (hK : X.K = G.K) : OpR X (compareOp .In) (rC G inD) := by
  intro pins s σ H v w v' w' Q I rv rw' ⟨B, α, O, x, y, Q0, ow, ax, ay, h, hq⟩
  rcases inD_split h with ⟨c, z, rfl, rfl, h2⟩ | ⟨ds, e, f1, f2, h⟩
  · obtain rfl := ax.str
    obtain rfl := ay.str
    exact op_in_sign pins s σ H _ _ v' w' Q I rv rw' ⟨c, z, rfl, rfl, hq _ h2⟩
  · obtain ⟨a, vs, rfl, hs, r⟩ := vw_seq ay e
    obtain ⟨rfl, g1⟩ := flat_vw ax f1
    obtain ⟨rfl, g2⟩ := flat_vs r f2
    exact op_in_seq pins s σ H _ _ v' w' Q I rv rw' ⟨a, _, rfl, by rw [hK]; exact hs, g1, g2, hq _ h⟩
theorem opc_notin (hK : X.K = G.K) : OpR X (compareOp .NotIn) (rC G fun x y Q => inD x y fun b => Q (!b)) := by
  intro pins s σ H v w v' w' Q I rv rw' ⟨B, α, O, x, y, Q0, ow, ax, ay, h, hq⟩
  rcases inD_split h with ⟨c, z, rfl, rfl, h2⟩ | ⟨ds, e, f1, f2, h⟩
  · obtain rfl := ax.str
    obtain rfl := ay.str
    exact op_notIn_sign pins s σ H _ _ v' w' Q I rv rw' ⟨c, z, rfl, rfl, hq _ h2⟩
  · obtain ⟨a, vs, rfl, hs, r⟩ := vw_seq ay e
    obtain ⟨rfl, g1⟩ := flat_vw ax f1
    obtain ⟨rfl, g2⟩ := flat_vs r f2
    exact op_notIn_seq pins s σ H _ _ v' w' Q I rv rw' ⟨a, _, rfl, by rw [hK]; exact hs, g1, g2, hq _ h⟩
theorem opc_int {op : CmpOp} {p : Int → Int → Bool} (o : OpR X (compareOp op) (rI0 fun i j => .bl (p i j))) {f : D → D → (Bool → Prop) → Prop} (hf : ∀ x y Q, f x y Q → ∃ i j, x = .int i ∧ y = .int j ∧ Q (p i j)) : OpR X (compareOp op) (rC G f) := by
  intro pins s σ H v w v' w' Q I rv rw' ⟨B, α, O, x, y, Q0, ow, ax, ay, h, hq⟩
  obtain ⟨i, j, rfl, rfl, h2⟩ := hf _ _ _ h
  obtain rfl := ax.int
  obtain rfl := ay.int
  exact o pins s σ H _ _ v' w' Q I rv rw' ⟨i, j, rfl, rfl, hq _ h2⟩
theorem opc_lt : OpR X (compareOp .Lt) (rC G (cmpD .Lt)) := by
  intro pins s σ H v w v' w' Q I rv rw' ⟨B, α, O, x, y, Q0, ow, ax, ay, h, hq⟩
  cases x with
  | int i =>
    cases y with
    | int j =>
      obtain rfl := ax.int
      obtain rfl := ay.int
      exact op_lt pins s σ H _ _ v' w' Q I rv rw' ⟨i, j, rfl, rfl, hq _ h⟩
    | _ => exact h.elim
  | str i =>
    cases y with
    | str j =>
      obtain rfl := ax.str
      obtain rfl := ay.str
      exact op_lt_str pins s σ H _ _ v' w' Q I rv rw' ⟨i, j, rfl, rfl, hq _ h⟩
    | _ => exact h.elim
  | _ => exact h.elim
theorem opc_all (hu : X.A.units + 64 < cLine) (hK : X.K = G.K) : ∀ op, OpR X (compareOp op) (rC G (cmpD op))
  | .Eq => opc_eq hu hK
  | .NotEq => opc_ne hu hK
  | .Lt => opc_lt
  | .LtE => opc_int op_le fun x y Q h => by cases x <;> cases y <;> first | exact h.elim | exact ⟨_, _, rfl, rfl, h⟩
  | .Gt => opc_int op_gt fun x y Q h => by cases x <;> cases y <;> first | exact h.elim | exact ⟨_, _, rfl, rfl, h⟩
  | .GtE => opc_int op_ge fun x y Q h => by cases x <;> cases y <;> first | exact h.elim | exact ⟨_, _, rfl, rfl, h⟩
  | .Is => opc_is hK
  | .IsNot => opc_isnot hK
  | .In => opc_in hK
  | .NotIn => opc_notin hK
end

/-! ### places and cuts -/
def ixD : D → D → (D → Prop) → Prop
  | .lst ds, .int i, Q => ∃ d, atI ds i = some d ∧ Q d
  | .tup ds, .int i, Q => ∃ d, atI ds i = some d ∧ Q d
  | .str z, .int i, Q => ∃ c, z.length ≤ sizeLine ∧ atI z.cps.toList i = some c ∧ Q (.str ⟨#[c]⟩)
  | _, _, _ => False
def cutL {β : Type} (xs : List β) (lo hi : Option Int) : List β := (xs.drop (HT.sIx xs.length 0 lo)).take (HT.sIx xs.length xs.length hi - HT.sIx xs.length 0 lo)
def slD : D → Option Int → Option Int → (D → Prop) → Prop
  | .lst ds, lo, hi, Q => Q (.lst (cutL ds lo hi))
  | .tup ds, lo, hi, Q => Q (.tup (cutL ds lo hi))
  | .scr ns, lo, hi, Q => Q (.lst ((cutL ns lo hi).map .int))
  | .str z, lo, hi, Q => z.length ≤ sizeLine ∧ Q (.str (cutS z lo hi))
  | _, _, _, _ => False
section
variable {X : Cx} {G : Gx} {K : PySem.W.Frag} {M : Addr → Prop} {H : Hp}
theorem Ats.atI {vs : List V} {ds : List D} (r : Ats K M H vs ds) {i : Int} {d : D} (e : atI ds i = some d) : ∃ v, L2.atI vs i = some v ∧ At K M H v d := by
  unfold L2.atI at e ⊢
  rw [r.length]
  cases q : ixN ds.length i with
  | none => rw [q] at e; cases e
  | some j =>
    rw [q] at e
    exact r.get' (i := j) e
theorem Ats.cut {vs : List V} {ds : List D} (r : Ats K M H vs ds) (lo hi : Option Int) : Ats K M H (cutV vs lo hi) (cutL ds lo hi) := by
  unfold cutV cutL
  rw [r.length]
  exact (r.drop _).take _
theorem ix_r (hK : X.K = G.K) : IxR X (rB G ixD) := by
  intro value slice pins s σ H v w v' w' Q I rv rw' ⟨B, α, O, x, y, Q0, ow, ax, ay, h, hq⟩ hsub
  cases y with
  | int i =>
    obtain rfl := ay.int
    cases x with
    | lst ds =>
      obtain ⟨a, vs, rfl, e, r⟩ := ax.lst
      obtain ⟨d, e2, h⟩ := h
      obtain ⟨u, e3, au⟩ := r.atI e2
      exact ix_list value slice pins s σ H _ _ v' w' Q I rv rw' ⟨a, vs, i, u, rfl, rfl, SqL.of e, e3, rb_new ow h hq au⟩ hsub
    | tup ds =>
      obtain ⟨a, vs, rfl, e, r⟩ := ax.tup
      obtain ⟨d, e2, h⟩ := h
      obtain ⟨u, e3, au⟩ := r.atI e2
      exact ix_tup value slice pins s σ H _ _ v' w' Q I rv rw' ⟨a, vs, i, u, rfl, rfl, by rw [hK]; exact e, e3, rb_new ow h hq au⟩ hsub
    | str z =>
      obtain rfl := ax.str
      obtain ⟨c, hz, e2, h⟩ := h
      exact ix_str value slice pins s σ H _ _ v' w' Q I rv rw' ⟨z, i, c, rfl, rfl, hz, e2, rb_new ow h hq (.str _)⟩ hsub
    | _ => exact h.elim
  | _ => cases x <;> exact h.elim
def rS (G : Gx) : V → Option Int → Option Int → Hp → VK → Prop := fun v lo hi H Q => ∃ B α O x Q0, Own G B α O H ∧ Vw G.K (Mu B α O) H v x ∧ slD x lo hi Q0 ∧
  ∀ z, Q0 z → ∀ v' H', Stp α O H α O H' → Own G B α O H' → At G.K (Mu B α O) H' v' z → Q v' H'
theorem cut_whole {β : Type} {xs : List β} {lo hi : Option Int} (h : HT.sIx xs.length 0 lo = 0 ∧ HT.sIx xs.length xs.length hi = xs.length) : cutL xs lo hi = xs := by
  unfold cutL
  rw [h.1, h.2]
  simp
theorem cut_map {β γ : Type} (f : β → γ) (xs : List β) (lo hi : Option Int) : cutL (xs.map f) lo hi = (cutL xs lo hi).map f := by
  unfold cutL
  rw [List.length_map, List.map_take, List.map_drop]
theorem sl_r (hK : X.K = G.K) : SlR X (rS G) := by
  intro pins s σ H v v' vl vu lo hi sl Q I rv hs pl pu ⟨B, α, O, x, Q0, ow, ax, h, hq⟩
  cases x with
  | lst ds =>
    obtain ⟨a, vs, rfl, e, r⟩ := ax.lst
    exact sl_list pins s σ H _ v' vl vu lo hi sl Q I rv hs pl pu ⟨a, vs, rfl, SqL.of e, rb_lst ow h hq (r.cut lo hi)⟩
  | scr ns =>
    obtain ⟨a, rfl, e⟩ := ax.scr
    refine sl_list pins s σ H _ v' vl vu lo hi sl Q I rv hs pl pu ⟨a, _, rfl, by rw [hK]; exact e, rb_lst ow h hq ?_⟩
    have : cutV (ns.map V.int) lo hi = (cutL ns lo hi).map V.int := cut_map V.int ns lo hi
    rw [this]
    exact Ats.ints _
  | tup ds =>
    obtain ⟨a, vs, rfl, e, r⟩ := ax.tup
    refine sl_tupA pins s σ H _ v' vl vu lo hi sl Q I rv hs pl pu ⟨a, vs, rfl, by rw [hK]; exact e, ?_⟩
    first
      | exact ⟨fun z => (by
          have z' := z
          rw [r.length] at z'
          have e2 := cut_whole z'
          cases ax with
          | at_ ax => exact rb_new ow h hq (by rw [e2]; exact ax)), fun _ => rb_tup ow h hq (r.cut lo hi)⟩
  | str z =>
    obtain rfl := ax.str
    exact sl_str pins s σ H _ v' vl vu lo hi sl Q I rv hs pl pu ⟨z, rfl, h.1, rb_new ow h.2 hq (.str _)⟩
  | _ => exact h.elim
end

/-! ### built-ins on data -/
def lenD : List D → (D → Prop) → Prop
  | [.lst ds], Q => Q (.int ds.length)
  | [.tup ds], Q => Q (.int ds.length)
  | [.scr ns], Q => Q (.int ns.length)
  | [.str z], Q => z.length ≤ sizeLine ∧ Q (.int z.length)
  | _, _ => False
def absD : List D → (D → Prop) → Prop
  | [.int i], Q => Q (.int (i.natAbs : Nat))
  | _, _ => False
def intD : List D → (D → Prop) → Prop
  | [.int i], Q => Q (.int i)
  | [.bl b], Q => Q (.int (if b = true then 1 else 0))
  | _, _ => False
def strD : List D → (D → Prop) → Prop
  | [.int i], Q => i.natAbs.log2 < 1920 ∧ Q (.str (toString i))
  | _, _ => False
def boolD : List D → (D → Prop) → Prop
  | [.int i], Q => Q (.bl (i != 0))
  | [.bl b], Q => Q (.bl b)
  | _, _ => False
/-- a text's signs, each as a text -/
def chD (z : Str) : List D := z.cps.toList.map fun c => .str ⟨#[c]⟩
def listD : List D → (D → Prop) → Prop
  | [.lst ds], Q => Q (.lst ds)
  | [.tup ds], Q => Q (.lst ds)
  | [.scr ns], Q => Q (.lst (ns.map .int))
  | _, _ => False
def listE : List D → (D → Prop) → Prop
  | [.str z], Q => z.length ≤ 1000 ∧ Q (.lst (chD z))
  | ds, Q => listD ds Q
def tupleD : List D → (D → Prop) → Prop
  | [.lst ds], Q => Q (.tup ds)
  | [.tup ds], Q => Q (.tup ds)
  | [.str z], Q => z.length ≤ 1000 ∧ Q (.tup (chD z))
  | _, _ => False
def sumD : List D → (D → Prop) → Prop
  | [.lst ds], Q => ∃ ns : List Int, ds = ns.map .int ∧ Q (.int ns.sum)
  | [.tup ds, .tup e], Q => ∃ xss : List (List D), ds = xss.map .tup ∧ e.length + xss.flatten.length ≤ sizeLine ∧ Q (.tup (e ++ xss.flatten))
  | _, _ => False
def allD : List D → (D → Prop) → Prop
  | [.lst ds], Q => ∃ bs : List Bool, ds = bs.map .bl ∧ Q (.bl (bs.all id))
  | _, _ => False
def anyD : List D → (D → Prop) → Prop
  | [.lst ds], Q => ∃ bs : List Bool, ds = bs.map .bl ∧ Q (.bl (bs.any id))
  | _, _ => False
def minD : List D → (D → Prop) → Prop
  | [.int i, .int j], Q => Q (.int (min i j))
  | [.lst ds], Q => ∃ ns : List Int, ds = ns.map .int ∧ 0 < ns.length ∧ ∀ m, m ∈ ns → (∀ y, y ∈ ns → m ≤ y) → Q (.int m)
  | _, _ => False
def maxD : List D → (D → Prop) → Prop
  | [.int i, .int j], Q => Q (.int (max i j))
  | [.lst ds], Q => ∃ ns : List Int, ds = ns.map .int ∧ 0 < ns.length ∧ ∀ m, m ∈ ns → (∀ y, y ∈ ns → y ≤ m) → Q (.int m)
  | _, _ => False
def rL (G : Gx) (op : List D → (D → Prop) → Prop) : List V → Hp → VK → Prop := fun vs H Q => ∃ B α O ds Q0, Own G B α O H ∧ Paired (Vw G.K (Mu B α O) H) vs ds ∧ op ds Q0 ∧
  ∀ z, Q0 z → ∀ v' H', Stp α O H α O H' → Own G B α O H' → At G.K (Mu B α O) H' v' z → Q v' H'
theorem paired1 {β γ : Type} {F : β → γ → Prop} {vs : List β} {d : γ} (h : Paired F vs [d]) : ∃ v, vs = [v] ∧ F v d := by
  cases h with
  | cons a r => cases r; exact ⟨_, rfl, a⟩
theorem paired2 {β γ : Type} {F : β → γ → Prop} {vs : List β} {d e : γ} (h : Paired F vs [d, e]) : ∃ v w, vs = [v, w] ∧ F v d ∧ F w e := by
  cases h with
  | cons a r =>
    obtain ⟨w, rfl, b⟩ := paired1 r
    exact ⟨_, w, rfl, a, b⟩
section
variable {X : Cx} {G : Gx} {K : PySem.W.Frag} {M : Addr → Prop} {H : Hp}
theorem Ats.toInts : ∀ {ns : List Int} {vs : List V}, Ats K M H vs (ns.map .int) → vs = ns.map V.int
  | [], _, h => by cases h; rfl
  | n :: ns, _, h => by
    cases h with
    | cons a r => cases a; rw [Ats.toInts r]; rfl
theorem Ats.toBls : ∀ {ns : List Bool} {vs : List V}, Ats K M H vs (ns.map .bl) → vs = ns.map V.bl
  | [], _, h => by cases h; rfl
  | n :: ns, _, h => by
    cases h with
    | cons a r => cases a; rw [Ats.toBls r]; rfl
theorem Ats.int1 (ns : List Int) : Ats K M H (ns.map V.int) (ns.map .int) := Ats.ints ns
theorem cb_len (hK : X.K = G.K) : CallR X (.builtin "len") (rL G lenD) := by
  intro pins s σ H vs us Q I r ⟨B, α, O, ds, Q0, ow, ap, h, hq⟩
  unfold lenD at h
  split at h
  · obtain ⟨v, rfl, a⟩ := paired1 ap
    obtain ⟨p, ws, rfl, e, q⟩ := a.lst
    exact call_len pins s σ H _ us Q I r ⟨_, _, rfl, .inl ⟨ws, SqL.of e, rfl⟩, by rw [q.length]; exact rb_new ow h hq (.int _)⟩
  · obtain ⟨v, rfl, a⟩ := paired1 ap
    obtain ⟨p, ws, rfl, e, q⟩ := a.tup
    exact call_len pins s σ H _ us Q I r ⟨_, _, rfl, .inr ⟨ws, by rw [hK]; exact e, rfl⟩, by rw [q.length]; exact rb_new ow h hq (.int _)⟩
  · obtain ⟨v, rfl, a⟩ := paired1 ap
    obtain ⟨p, rfl, e⟩ := a.scr
    exact call_len pins s σ H _ us Q I r ⟨_, _, rfl, .inl ⟨_, by rw [hK]; exact e, rfl⟩, by rw [List.length_map]; exact rb_new ow h hq (.int _)⟩
  · obtain ⟨v, rfl, a⟩ := paired1 ap
    obtain rfl := a.str
    exact call_len pins s σ H _ us Q I r ⟨_, _, rfl, ⟨h.1, rfl⟩, rb_new ow h.2 hq (.int _)⟩
  · exact h.elim
theorem cb_abs (hK : X.K = G.K) : CallR X (.builtin "abs") (rL G absD) := by
  intro pins s σ H vs us Q I r ⟨B, α, O, ds, Q0, ow, ap, h, hq⟩
  unfold absD at h
  split at h
  · rename_i i
    obtain ⟨v, rfl, a⟩ := paired1 ap
    obtain rfl := a.int
    refine call_abs pins s σ H _ us Q I r ⟨_, rfl, ?_⟩
    have e : (if i < 0 then -i else i) = ((i.natAbs : Nat) : Int) := by split <;> omega
    rw [e]
    exact rb_new ow h hq (.int _)
  · exact h.elim
theorem cb_int (hK : X.K = G.K) : CallR X (.type "int") (rL G intD) := by
  intro pins s σ H vs us Q I r ⟨B, α, O, ds, Q0, ow, ap, h, hq⟩
  unfold intD at h
  split at h
  · obtain ⟨v, rfl, a⟩ := paired1 ap
    obtain rfl := a.int
    exact call_int1 pins s σ H _ us Q I r (.inl ⟨_, rfl, rb_new ow h hq (.int _)⟩)
  · obtain ⟨v, rfl, a⟩ := paired1 ap
    obtain rfl := a.bl
    exact call_int1 pins s σ H _ us Q I r (.inr ⟨_, rfl, rb_new ow h hq (.int _)⟩)
  · exact h.elim
theorem cb_str (hK : X.K = G.K) : CallR X (.type "str") (rL G strD) := by
  intro pins s σ H vs us Q I r ⟨B, α, O, ds, Q0, ow, ap, h, hq⟩
  unfold strD at h
  split at h
  · obtain ⟨v, rfl, a⟩ := paired1 ap
    obtain rfl := a.int
    exact call_str_int pins s σ H _ us Q I r ⟨_, rfl, h.1, rb_new ow h.2 hq (.str _)⟩
  · exact h.elim
theorem cb_bool (hK : X.K = G.K) : CallR X (.type "bool") (rL G boolD) := by
  intro pins s σ H vs us Q I r ⟨B, α, O, ds, Q0, ow, ap, h, hq⟩
  unfold boolD at h
  split at h
  · obtain ⟨v, rfl, a⟩ := paired1 ap
    obtain rfl := a.int
    exact call_bool1 pins s σ H _ us Q I r (.inl ⟨_, rfl, rb_new ow h hq (.bl _)⟩)
  · obtain ⟨v, rfl, a⟩ := paired1 ap
    obtain rfl := a.bl
    exact call_bool1 pins s σ H _ us Q I r (.inr ⟨_, rfl, rb_new ow h hq (.bl _)⟩)
  · exact h.elim
def chV (z : Str) : List V := z.cps.toList.map fun c => .str ⟨#[c]⟩
theorem chs_at (z : Str) : Ats K M H (chV z) (chD z) := by
  unfold chV chD
  induction z.cps.toList with
  | nil => exact .nil
  | cons a l ih => exact .cons (.str _) ih
theorem paired_at {β γ : Type} {F : β → γ → Prop} : ∀ {xs : List β} {ys : List γ}, xs.length = ys.length → (∀ (i : Nat) x y, xs[i]? = some x → ys[i]? = some y → F x y) → Paired F xs ys
  | [], [], _, _ => .nil
  | [], _ :: _, h, _ => by cases h
  | _ :: _, [], h, _ => by cases h
  | x :: xs, y :: ys, h, g => .cons (g 0 x y rfl rfl) (paired_at (Nat.succ.inj h) fun i a b e1 e2 => g (i + 1) a b (by simpa using e1) (by simpa using e2))
theorem chs_of {z : Str} {acc : Array Value} (h : ItemsOf (SignAt z) acc z.cps.size) : Vals (chV z) acc.toList := by
  refine paired_at ?_ fun i x y e1 e2 => ?_
  · rw [chV, List.length_map, Array.length_toList, Array.length_toList, h.1]
  · obtain ⟨c, u, e3, rfl⟩ := h.2 i y (by simpa using e2)
    rw [chV, List.getElem?_map] at e1
    have e4 : z.cps.toList[i]? = some c := by simpa using e3
    rw [e4] at e1
    cases e1
    exact ⟨u, rfl⟩
theorem cb_list (hK : X.K = G.K) (hc : X.calm = true) : CallR X (.type "list") (rL G listE) := by
  intro pins s σ H vs us Q I r ⟨B, α, O, ds, Q0, ow, ap, h, hq⟩
  unfold listE listD at h
  split at h
  · rename_i z
    obtain ⟨v, rfl, a⟩ := paired1 ap
    obtain rfl := a.str
    obtain ⟨u, rfl, rx⟩ := vals1 r
    obtain ⟨t, rfl⟩ := rx
    refine call_list_str (I.ok.hd hc) z t (hn := Nat.le_trans h.1 (by rw [sizeLine_eq]; decide)) fun h' tk acc' c' hk hS hacc => ?_
    have hv := chs_of hacc
    exact ⟨.ref s.heap.objs.size, _, I.laid (t' := tk) hk (Nat.le_refl _) (show ObjOk X.prog X.w _ h' _ (.lst (chV z)) from ⟨by rw [chV, List.length_map]; exact Nat.le_trans h.1 (by rw [sizeLine_eq]; decide), acc'.toList, c', hv, by simpa using hS⟩), rfl, rb_lst ow h.2 hq (chs_at z) _ (I.hok.fresh (Nat.le_refl _))⟩
  split at h
  · obtain ⟨v, rfl, a⟩ := paired1 ap
    obtain ⟨p, ws, rfl, e, q⟩ := a.lst
    exact call_list_of pins s σ H _ us Q I r ⟨_, _, rfl, .inl (SqL.of e), rb_lst ow h hq q⟩
  · obtain ⟨v, rfl, a⟩ := paired1 ap
    obtain ⟨p, ws, rfl, e, q⟩ := a.tup
    exact call_list_of pins s σ H _ us Q I r ⟨_, _, rfl, .inr (by rw [hK]; exact e), rb_lst ow h hq q⟩
  · obtain ⟨v, rfl, a⟩ := paired1 ap
    obtain ⟨p, rfl, e⟩ := a.scr
    exact call_list_of pins s σ H _ us Q I r ⟨_, _, rfl, .inl (by rw [hK]; exact e), rb_lst ow h hq (Ats.ints _)⟩
  · exact h.elim
theorem cb_tuple (hK : X.K = G.K) (hc : X.calm = true) : CallR X (.type "tuple") (rL G tupleD) := by
  intro pins s σ H vs us Q I r ⟨B, α, O, ds, Q0, ow, ap, h, hq⟩
  unfold tupleD at h
  split at h
  · obtain ⟨v, rfl, a⟩ := paired1 ap
    obtain ⟨p, ws, rfl, e, q⟩ := a.lst
    exact call_tuple_of pins s σ H _ us Q I r ⟨_, _, rfl, .inl ⟨SqL.of e, rb_tup ow h hq q⟩⟩
  · obtain ⟨v, rfl, a⟩ := paired1 ap
    obtain ⟨p, ws, rfl, e, q⟩ := a.tup
    refine call_tuple_of pins s σ H _ us Q I r ⟨_, _, rfl, .inr ⟨by rw [hK]; exact e, ?_⟩⟩
    cases a with
    | at_ a => exact rb_new ow h hq a
  · rename_i z
    obtain ⟨v, rfl, a⟩ := paired1 ap
    obtain rfl := a.str
    obtain ⟨u, rfl, rx⟩ := vals1 r
    obtain ⟨t, rfl⟩ := rx
    refine call_tuple_str (I.ok.hd hc) z t (hsz := Nat.le_trans h.1 (by rw [sizeLine_eq]; decide)) fun h' tk acc' hk hacc => ?_
    have hv := chs_of hacc
    have I1 : Inv X pins σ H { s with heap := h', toks := tk } := I.kept (t' := tk) hk
    have I2 : Inv X pins σ (upd H h'.objs.size (.tup (chV z))) { s with heap := h'.push { cls := .type "tuple", data := .seq acc' }, toks := tk } :=
      I1.laid (t' := tk) (fun b o e => Heap.get?_push_of_some _ e) (Nat.le_refl _) (show ObjOk X.prog X.w _ _ _ (.tup (chV z)) from ⟨by rw [chV, List.length_map]; exact Nat.le_trans h.1 (by rw [sizeLine_eq]; decide), acc'.toList, hv, by simpa using IsTup.new h' acc'⟩)
    exact ⟨.ref h'.objs.size, _, I2, rfl, rb_tup ow h.2 hq (chs_at z) _ (I1.hok.fresh (Nat.le_refl _))⟩
  · exact h.elim
theorem flat_none {α : Type} : ∀ {xss : List (List α)}, (∀ k, k < xss.length → xss[k]? = some []) → xss.flatten = []
  | [], _ => rfl
  | x :: xss, h => by
    have h0 : x = [] := by simpa using h 0 (by simp)
    rw [List.flatten_cons, h0, flat_none fun k hk => by simpa using h (k + 1) (by simpa using hk)]
    rfl
theorem flat_one {α : Type} : ∀ {xss : List (List α)} {j : Nat} {x : List α}, xss[j]? = some x → (∀ k, k < xss.length → k ≠ j → xss[k]? = some []) → xss.flatten = x
  | [], _, _, e, _ => by simp at e
  | y :: xss, 0, x, e, h => by
    have h0 : y = x := by simpa using e
    rw [List.flatten_cons, flat_none fun k hk => by simpa using h (k + 1) (by simpa using hk) (by omega), h0, List.append_nil]
  | y :: xss, j + 1, x, e, h => by
    have h0 : y = [] := by simpa using h 0 (by simp) (by omega)
    rw [List.flatten_cons, h0, List.nil_append]
    exact flat_one (by simpa using e) fun k hk hkj => by simpa using h (k + 1) (by simpa using hk) (by omega)
theorem ats_flat {K : PySem.W.Frag} {M : Addr → Prop} {H : Hp} {yss : List (List V)} {xss : List (List D)} (h : Paired (Ats K M H) yss xss) : Ats K M H yss.flatten xss.flatten := by
  induction h with
  | nil => exact .nil
  | cons a r ih => rw [List.flatten_cons, List.flatten_cons]; exact a.append ih
theorem ats_tups {K : PySem.W.Frag} {M : Addr → Prop} {H : Hp} : ∀ {xss : List (List D)} {vs : List V}, Ats K M H vs (xss.map .tup) → ∃ (as : List Addr) (yss : List (List V)), vs = as.map V.ref ∧ Paired (fun b ys => SqT K H b ys) as yss ∧ Paired (Ats K M H) yss xss
  | [], _, .nil => ⟨[], [], rfl, .nil, .nil⟩
  | xs :: xss, _, .cons a r => by
    obtain ⟨as, yss, rfl, h1, h2⟩ := ats_tups r
    obtain ⟨p, ws, rfl, e, q⟩ := (Vw.at_ a).tup
    exact ⟨p :: as, ws :: yss, rfl, .cons e h1, .cons q h2⟩
theorem ats_lsts {K : PySem.W.Frag} {M : Addr → Prop} {H : Hp} : ∀ {xss : List (List D)} {vs : List V}, Ats K M H vs (xss.map .lst) → ∃ (as : List Addr) (yss : List (List V)), vs = as.map V.ref ∧ Paired (fun b ys => H b = some (.lst ys)) as yss ∧ Paired (Ats K M H) yss xss
  | [], _, .nil => ⟨[], [], rfl, .nil, .nil⟩
  | xs :: xss, _, .cons a r => by
    obtain ⟨as, yss, rfl, h1, h2⟩ := ats_lsts r
    obtain ⟨p, ws, rfl, e, q⟩ := (Vw.at_ a).lst
    exact ⟨p :: as, ws :: yss, rfl, .cons e h1, .cons q h2⟩
theorem paired_map {α β : Type} {F G : α → β → Prop} {xs : List α} {ys : List β} (h : Paired F xs ys) (f : ∀ x y, F x y → G x y) : Paired G xs ys := by
  induction h with
  | nil => exact .nil
  | cons a r ih => exact .cons (f _ _ a) ih
theorem ats_emp {K : PySem.W.Frag} {M : Addr → Prop} {H : Hp} {yss : List (List V)} {xss : List (List D)} (h : Paired (Ats K M H) yss xss) {k : Nat} (e : yss[k]? = some []) : xss[k]? = some [] := by
  have hk : k < yss.length := (List.getElem?_eq_some_iff.mp e).1
  have hk2 : k < xss.length := by rw [← paired_len h]; exact hk
  have hv := paired_get h e (List.getElem?_eq_getElem hk2)
  rw [List.getElem?_eq_getElem hk2]
  have := hv.length
  rw [List.length_nil] at this
  rw [List.length_eq_zero_iff.mp this.symm]
theorem ats_flen {K : PySem.W.Frag} {M : Addr → Prop} {H : Hp} {yss : List (List V)} {xss : List (List D)} (h : Paired (Ats K M H) yss xss) : yss.flatten.length = xss.flatten.length := (ats_flat h).length
theorem cb_sum (hK : X.K = G.K) (hc : X.calm = true) : CallR X (.builtin "sum") (rL G sumD) := by
  intro pins s σ H vs us Q I r ⟨B, α, O, ds, Q0, ow, ap, h, hq⟩
  unfold sumD at h
  split at h
  · obtain ⟨v, rfl, a⟩ := paired1 ap
    obtain ⟨p, ws, rfl, e, q⟩ := a.lst
    obtain ⟨ns, rfl, h⟩ := h
    obtain rfl := q.toInts
    exact cr_sum hc pins s σ H _ us Q I r ⟨_, ns, rfl, SqL.of e, rb_new ow h hq (.int _)⟩
  · obtain ⟨v, st, rfl, a, b⟩ := paired2 ap
    obtain ⟨xss, rfl, hz, h⟩ := h
    obtain ⟨p, ws, rfl, e, q⟩ := a.tup
    obtain ⟨p2, ws2, rfl, e2, r2⟩ := b.tup
    obtain ⟨as, yss, rfl, h1, h2⟩ := ats_tups q
    have hl : as.length = xss.length := (paired_len h1).trans (paired_len h2)
    refine cr_sumT hc pins s σ H _ us Q I r ⟨p, p2, as, yss, ws2, rfl, by rw [hK]; exact e, paired_map h1 fun _ _ z => by rw [hK]; exact z, by rw [hK]; exact e2, by rw [r2.length, ats_flen h2]; exact hz, fun z => ?_, fun j x ej z1 z2 => ?_, rb_tup ow h hq (r2.append (ats_flat h2))⟩
    · rw [flat_none fun k hk => ats_emp h2 (z k (by omega)), List.append_nil] at h
      cases b with
      | at_ b => exact rb_new ow h hq b
    · have hj : j < xss.length := by rw [← hl]; exact (List.getElem?_eq_some_iff.mp ej).1
      have ex := List.getElem?_eq_getElem hj
      have hl0 := r2.length
      rw [z1, List.length_nil] at hl0
      have he := List.length_eq_zero_iff.mp hl0.symm
      rw [he, List.nil_append, flat_one ex fun k hk hkj => ats_emp h2 (z2 k (by omega) hkj)] at h
      obtain ⟨v2, ev, av⟩ := q.get' (i := j) (d := .tup xss[j]) (by rw [List.getElem?_map, ex]; rfl)
      rw [List.getElem?_map, ej] at ev
      cases ev
      exact rb_new ow h hq av
  · exact h.elim
theorem cb_all (hK : X.K = G.K) (hc : X.calm = true) : CallR X (.builtin "all") (rL G allD) := by
  intro pins s σ H vs us Q I r ⟨B, α, O, ds, Q0, ow, ap, h, hq⟩
  unfold allD at h
  split at h
  · obtain ⟨v, rfl, a⟩ := paired1 ap
    obtain ⟨p, ws, rfl, e, q⟩ := a.lst
    obtain ⟨ns, rfl, h⟩ := h
    obtain rfl := q.toBls
    exact cr_all hc pins s σ H _ us Q I r ⟨_, ns, rfl, SqL.of e, rb_new ow h hq (.bl _)⟩
  · exact h.elim
theorem cb_any (hK : X.K = G.K) (hc : X.calm = true) : CallR X (.builtin "any") (rL G anyD) := by
  intro pins s σ H vs us Q I r ⟨B, α, O, ds, Q0, ow, ap, h, hq⟩
  unfold anyD at h
  split at h
  · obtain ⟨v, rfl, a⟩ := paired1 ap
    obtain ⟨p, ws, rfl, e, q⟩ := a.lst
    obtain ⟨ns, rfl, h⟩ := h
    obtain rfl := q.toBls
    exact cr_any hc pins s σ H _ us Q I r ⟨_, ns, rfl, SqL.of e, rb_new ow h hq (.bl _)⟩
  · exact h.elim
theorem cb_min (hK : X.K = G.K) (hc : X.calm = true) : CallR X (.builtin "min") (rL G minD) := by
  intro pins s σ H vs us Q I r ⟨B, α, O, ds, Q0, ow, ap, h, hq⟩
  unfold minD at h
  split at h
  · rename_i i j
    obtain ⟨v, w, rfl, a, b⟩ := paired2 ap
    obtain rfl := a.int
    obtain rfl := b.int
    refine call_min2 hc pins s σ H _ us Q I r ⟨_, _, rfl, ?_⟩
    have e : (if j < i then j else i) = min i j := by split <;> omega
    rw [e]
    exact rb_new ow h hq (.int _)
  · obtain ⟨v, rfl, a⟩ := paired1 ap
    obtain ⟨ns, rfl, hz, h⟩ := h
    obtain ⟨p, ws, rfl, e, r'⟩ := a.lst
    obtain rfl := r'.toInts
    exact cr_min hc pins s σ H _ us Q I r ⟨p, ns, rfl, SqL.of e, hz, fun m h1 h2 => rb_new ow (h m h1 h2) hq (.int _)⟩
  · exact h.elim
theorem cb_max (hK : X.K = G.K) (hc : X.calm = true) : CallR X (.builtin "max") (rL G maxD) := by
  intro pins s σ H vs us Q I r ⟨B, α, O, ds, Q0, ow, ap, h, hq⟩
  unfold maxD at h
  split at h
  · rename_i i j
    obtain ⟨v, w, rfl, a, b⟩ := paired2 ap
    obtain rfl := a.int
    obtain rfl := b.int
    refine call_max2 hc pins s σ H _ us Q I r ⟨_, _, rfl, ?_⟩
    have e : (if j > i then j else i) = max i j := by split <;> omega
    rw [e]
    exact rb_new ow h hq (.int _)
  · obtain ⟨v, rfl, a⟩ := paired1 ap
    obtain ⟨ns, rfl, hz, h⟩ := h
    obtain ⟨p, ws, rfl, e, r'⟩ := a.lst
    obtain rfl := r'.toInts
    exact cr_max hc pins s σ H _ us Q I r ⟨p, ns, rfl, SqL.of e, hz, fun m h1 h2 => rb_new ow (h m h1 h2) hq (.int _)⟩
  · exact h.elim
end
end Z

set_option Elab.async false
set_option linter.all false
set_option maxRecDepth 100000
set_option maxHeartbeats 4000000
namespace Z
open PySem PySem.Spec PyProof.Rows L2
/-! ### the def that tells an error's attributes: tests of the code, tuples of attributes -/
abbrev FT : Type := List (Bool × List Str × List Str)
def fldT : FT := [(true, ["InvalidNumber", "InvalidFraction", "InvalidDirections", "InvalidName", "InvalidKind"], ["value"]), (true, ["InvalidVector", "InvalidPlace", "InvalidTie", "InvalidDeed"], ["at"]),
  (true, ["DuplicateName", "Itself", "InvalidPictures", "Finite", "Taken", "Known", "UnknownName"], ["name"]), (true, ["TwiceTold", "UnknownTie"], ["tie"]), (false, ["InvalidText"], ["line", "why"]), (false, ["Unsteady"], ["one", "other"]),
  (false, ["UnknownSpot"], ["spot"]), (false, ["NotLeast"], ["shift"]), (false, ["Falls"], ["many"]), (false, ["TooMany"], ["most"])]
def pickF : FT → Str → List Str
  | [], _ => []
  | (_, cs, fs) :: r, c => if c ∈ cs then fs else pickF r c
def fldN : List Str := ["code", "value", "at", "name", "tie", "line", "why", "one", "other", "spot", "shift", "many", "most"]
theorem pickF_sub : ∀ {t : FT} {c f : Str}, f ∈ pickF t c → ∃ p ∈ t, f ∈ p.2.2
  | [], _, _, h => by cases h
  | (m, cs, fs) :: r, c, f, h => by
    rw [pickF] at h
    split at h
    · exact ⟨_, List.mem_cons_self, h⟩
    · obtain ⟨p, h1, h2⟩ := pickF_sub h
      exact ⟨p, List.mem_cons_of_mem _ h1, h2⟩
theorem fldT_sub : ∀ p ∈ fldT, ∀ f ∈ p.2.2, f ∈ fldN := by decide
def attC (x f : Str) : Expr → Bool
  | .Attribute (.Name y _) g _ => decide (y = x) && decide (g = f)
  | _ => false
def strsC : List Str → List Expr → Bool
  | [], [] => true
  | z :: zs, .Constant (.str y) _ _ :: es => decide (y = z) && strsC zs es
  | _, _ => false
def attsC (x : Str) : List Str → List Expr → Bool
  | [], [] => true
  | f :: fs, e :: es => attC x f e && attsC x fs es
  | _, _ => false
def testC (x : Str) (m : Bool) (cs : List Str) : Expr → Bool
  | .Compare l [.In] [.List es _] _ => m && attC x "code" l && strsC cs es
  | .Compare l [.Eq] [.Constant (.str y) _ _] _ => !m && attC x "code" l && decide (cs = [y])
  | _ => false
def retC (x : Str) (fs : List Str) : Stmt → Bool
  | .Return (some (.Tuple es _ _)) _ => attsC x fs es
  | _ => false
def lastC (x : Str) (m : Bool) (cs fs : List Str) : Stmt → Bool
  | .Return (some (.IfExp t (.Tuple es _ _) (.Tuple [] _ _) _)) _ => testC x m cs t && attsC x fs es
  | _ => false
def fldC (x : Str) : FT → List Stmt → Bool
  | [], _ => false
  | (m, cs, fs) :: [], [s] => lastC x m cs fs s
  | (m, cs, fs) :: r, .If t [s] [] _ :: ss => testC x m cs t && retC x fs s && fldC x r ss
  | _, _ => false
/-- nothing of the heap is lost -/
def ExtH (H H' : Hp) : Prop := ∀ b o, H b = some o → H' b = some o
theorem ExtH.refl {H : Hp} : ExtH H H := fun _ _ e => e
theorem ExtH.trans {H H1 H2 : Hp} (a : ExtH H H1) (b : ExtH H1 H2) : ExtH H H2 := fun c o e => b c o (a c o e)
theorem ExtH.new {H : Hp} {p : Addr} {o : HO} (h : H p = none) : ExtH H (upd H p o) := fun b u e => by rw [upd_ne (ne_of_none e h)]; exact e
/-- the context in which the handled exception a is looked at; slot j holds it -/
structure HotE (X : Cx) (j : Nat) (x : Str) (a C dd : Addr) (oe : Obj) : Prop where
  hN : X.N[j]? = some x
  vis : Vis X.env.scope x
  okd : (x == ("__debug__" : Str)) = false
  okc : (x == ("__classdict__" : Str)) = false
  T : XfC X.K C
  no : ∀ f ∈ fldN, PySem.W.findIn X.K (.ref C) f = some none
  pn : (a, oe) ∈ X.pn
  hz : Zc (.ref C) (some dd) oe
  hf : ∃ vs, oe.data = .fields vs
def fsAt (j : Nat) (a dd : Addr) (fs : List (Str × V)) (σ : L2.St) (H : Hp) : Prop := σ[j]? = some (some (.ref a)) ∧ H dd = some (.xd fs)
def lookAll (fs : List (Str × V)) : List Str → Option (List V)
  | [] => some []
  | n :: ns => match fs.lookup n, lookAll fs ns with
    | some v, some vs => some (v :: vs)
    | _, _ => none
section
variable {X : Cx} {j : Nat} {x : Str} {a C dd : Addr} {oe : Obj} {fs : List (Str × V)}
theorem hot_att (h : HotE X j x a C dd oe) {f : Str} {e : Expr} (hf : f ∈ fldN) (c : attC x f e = true) : PE X e (fun σ H Q => fsAt j a dd fs σ H ∧ ∃ v, fs.lookup f = some v ∧ Q v H) := by
  unfold attC at c
  split at c
  · rename_i y q g p
    obtain ⟨c1, c2⟩ := Bool.and_eq_true_iff.mp c
    cases of_decide_eq_true c1
    cases of_decide_eq_true c2
    refine ⟨fun pins s σ H Q I q => ?_⟩
    obtain ⟨⟨q1, q2⟩, v, q3, q4⟩ := q
    exact (pe_xfP (a := a) (C := C) (cls := .ref C) (d := some dd) h.T (h.no f hf) h.pn h.hz h.hf (pe_var (i := j) h.hN h.vis h.okd h.okc)).run pins s σ H Q I ⟨.ref a, q1, rfl, rfl, dd, fs, v, rfl, q2, q3, q4⟩
  · cases c
theorem hot_atts (h : HotE X j x a C dd oe) : ∀ {ns : List Str} {es : List Expr}, (∀ f ∈ ns, f ∈ fldN) → attsC x ns es = true → PA X es (fun σ H Q => fsAt j a dd fs σ H ∧ ∃ vs, lookAll fs ns = some vs ∧ Q vs H)
  | [], [], _, _ => ⟨fun pos pins s σ H Q I q => pa_nil.run pos pins s σ H Q I (by obtain ⟨_, vs, e, q⟩ := q; cases e; exact q)⟩
  | n :: ns, e :: es, hn, c => by
    obtain ⟨c1, c2⟩ := Bool.and_eq_true_iff.mp (show (attC x n e && attsC x ns es) = true from c)
    have st : starEach (e :: es) X.env = (false, eval e X.env) :: starEach es X.env := by
      unfold attC at c1
      split at c1
      · rfl
      · cases c1
    refine ⟨fun pos pins s σ H Q I q => (pa_cons (hot_att (fs := fs) h (hn n (by simp)) c1) (hot_atts h (fun f hf => hn f (by simp [hf])) c2) st).run pos pins s σ H Q I ?_⟩
    obtain ⟨q1, vs, e, q⟩ := q
    rw [lookAll] at e
    split at e
    · rename_i v ws e1 e2
      cases e
      exact ⟨q1, v, e1, q1, ws, e2, q⟩
    · cases e
  | [], _ :: _, _, c => by cases c
  | _ :: _, [], _, c => by cases c
theorem strs_pa : ∀ {zs : List Str} {es : List Expr}, strsC zs es = true → PA X es (fun _ H Q => Q (zs.map V.str) H)
  | [], [], _ => pa_nil
  | z :: zs, e :: es, c => by
    unfold strsC at c
    split at c
    · rename_i h1 h2; cases h1
    · rename_i h1 h2
      cases h1
      cases h2
      obtain ⟨c1, c2⟩ := Bool.and_eq_true_iff.mp c
      cases of_decide_eq_true c1
      exact ⟨fun pos pins s σ H Q I q => (pa_cons pe_str (strs_pa c2)).run pos pins s σ H Q I q⟩
    · cases c
  | [], _ :: _, c => by cases c
  | _ :: _, [], c => by cases c
theorem inV_str (c : Str) (cs : List Str) : inV (.str c) (cs.map V.str) = decide (c ∈ cs) := by
  unfold inV
  rw [Bool.eq_iff_iff, List.any_eq_true]
  simp only [List.mem_map, decide_eq_true_eq]
  constructor
  · rintro ⟨_, ⟨z, hz, rfl⟩, e⟩
    have e : z = c := by simpa [eqV] using e
    rw [← e]
    exact hz
  · intro h
    exact ⟨_, ⟨c, h, rfl⟩, by simp [eqV]⟩
theorem flat_strs (cs : List Str) : (cs.map V.str).all flatV = true := by
  rw [List.all_eq_true]
  intro v hv
  obtain ⟨z, _, rfl⟩ := List.mem_map.mp hv
  rfl
theorem hot_test (h : HotE X j x a C dd oe) {m : Bool} {cs : List Str} {t : Expr} (hl : cs.length ≤ 1000) (c : testC x m cs t = true) :
    PT X t (fun σ H Q => fsAt j a dd fs σ H ∧ ∃ code, fs.lookup ("code" : Str) = some (.str code) ∧ ∀ H', ExtH H H' → Q (decide (code ∈ cs)) H') := by
  unfold testC at c
  split at c
  · obtain ⟨c, c3⟩ := Bool.and_eq_true_iff.mp c
    obtain ⟨c1, c2⟩ := Bool.and_eq_true_iff.mp c
    refine ⟨fun pins s σ H Q I q => (pt_cmpR op_in_seq (hot_att (fs := fs) h (by decide) c2) (pe_lst (strs_pa c3)) rfl).run pins s σ H Q I ?_⟩
    obtain ⟨q1, code, q2, q3⟩ := q
    refine ⟨q1, _, q2, by rw [List.length_map, sizeLine_eq]; omega, fun p hp => ?_⟩
    refine ⟨p, cs.map V.str, rfl, .inl (SqL.of upd_same), rfl, flat_strs cs, ?_⟩
    rw [if_neg Bool.false_ne_true, inV_str]
    exact ⟨_, rfl, q3 _ (ExtH.new hp)⟩
  · rename_i l0 l y _ _ _
    obtain ⟨c, c3⟩ := Bool.and_eq_true_iff.mp c
    obtain ⟨c1, c2⟩ := Bool.and_eq_true_iff.mp c
    cases of_decide_eq_true c3
    refine ⟨fun pins s σ H Q I q => (pt_cmpR op_eq (hot_att (fs := fs) h (by decide) c2) pe_str rfl).run pins s σ H Q I ?_⟩
    obtain ⟨q1, code, q2, q3⟩ := q
    refine ⟨q1, _, q2, rfl, _, rfl, ?_⟩
    have e : decide (V.str code = V.str y) = decide (code ∈ [y]) := by
      rw [Bool.eq_iff_iff]
      simp
    rw [e]
    exact q3 _ ExtH.refl
  · cases c
def rdF (j : Nat) (fs : List (Str × V)) (a dd : Addr) (t : FT) : TS := fun D σ H => fsAt j a dd fs σ H ∧ ∃ code vs, fs.lookup ("code" : Str) = some (.str code) ∧ lookAll fs (pickF t code) = some vs ∧ vs.length ≤ 1000 ∧ ∀ H' p, ExtH H H' → H' p = none → D.rt (.ref p) (upd H' p (.tup vs))
theorem hot_ret (h : HotE X j x a C dd oe) {ns : List Str} {s : Stmt} (hn : ∀ f ∈ ns, f ∈ fldN) (c : retC x ns s = true) : PS X s (fun D σ H => fsAt j a dd fs σ H ∧ ∃ vs, lookAll fs ns = some vs ∧ vs.length ≤ 1000 ∧ ∀ p, H p = none → D.rt (.ref p) (upd H p (.tup vs))) := by
  unfold retC at c
  split at c
  · refine ⟨fun pins s σ H D I q => (ps_ret (pe_tup (hot_atts (fs := fs) h hn c))).run pins s σ H D I ?_⟩
    obtain ⟨q1, vs, q2, q3, q4⟩ := q
    exact ⟨q1, vs, q2, by rw [sizeLine_eq]; omega, q4⟩
  · cases c
theorem hot_fld (h : HotE X j x a C dd oe) : ∀ {t : FT} {ss : List Stmt}, (∀ p ∈ t, p.2.1.length ≤ 1000 ∧ ∀ f ∈ p.2.2, f ∈ fldN) → fldC x t ss = true → PSs X ss (rdF j fs a dd t)
  | [], _, _, c => by cases c
  | (m, cs, ns) :: r, [], ht, c => by cases r <;> cases c
  | (m, cs, ns) :: [], [s], ht, c => by
    have c' : lastC x m cs ns s = true := c
    unfold lastC at c'
    split at c'
    · obtain ⟨c1, c2⟩ := Bool.and_eq_true_iff.mp c'
      have hh := ht _ List.mem_cons_self
      refine ⟨fun pins s σ H D I q => (pss_one (ps_ret (pe_ifExp (hot_test (fs := fs) h hh.1 c1) (pe_tup (hot_atts (fs := fs) h hh.2 c2)) (pe_tup pa_nil)))).run pins s σ H D I ?_⟩
      obtain ⟨q1, code, vs, q2, q3, q4, q5⟩ := q
      refine ⟨q1, code, q2, fun H' x1 => ?_⟩
      rw [pickF] at q3
      by_cases hc : code ∈ cs
      · rw [if_pos hc] at q3
        rw [decide_eq_true hc, if_pos rfl]
        exact ⟨⟨q1.1, x1 _ _ q1.2⟩, vs, q3, by rw [sizeLine_eq]; omega, fun p hp => q5 H' p x1 hp⟩
      · rw [if_neg hc] at q3
        rw [decide_eq_false hc, if_neg Bool.false_ne_true]
        cases q3
        exact ⟨by rw [sizeLine_eq]; simp, fun p hp => q5 H' p x1 hp⟩
    · cases c'
  | (m, cs, ns) :: p2 :: r, s :: ss, ht, c => by
    cases s with
    | If t b o pos =>
      cases b with
      | nil => cases c
      | cons s1 b =>
        cases b with
        | cons _ _ => cases c
        | nil =>
          cases o with
          | cons _ _ => cases c
          | nil =>
            obtain ⟨c, c3⟩ := Bool.and_eq_true_iff.mp (show (testC x m cs t && retC x ns s1 && fldC x (p2 :: r) ss) = true from c)
            obtain ⟨c1, c2⟩ := Bool.and_eq_true_iff.mp c
            have hh := ht _ List.mem_cons_self
            refine ⟨fun pins s σ H D I q => (pss_cons (ps_if (hot_test (fs := fs) h hh.1 c1) (pss_one (hot_ret (fs := fs) h hh.2 c2)) pss_nil) (hot_fld h (fun p hp => ht p (List.mem_cons_of_mem _ hp)) c3)).run pins s σ H D I ?_⟩
            obtain ⟨q1, code, vs, q2, q3, q4, q5⟩ := q
            refine ⟨q1, code, q2, fun H' x1 => ?_⟩
            rw [pickF] at q3
            by_cases hc : code ∈ cs
            · rw [if_pos hc] at q3
              rw [decide_eq_true hc, if_pos rfl]
              exact ⟨⟨q1.1, x1 _ _ q1.2⟩, vs, q3, q4, fun p hp => q5 H' p x1 hp⟩
            · rw [if_neg hc] at q3
              rw [decide_eq_false hc, if_neg Bool.false_ne_true]
              exact ⟨⟨q1.1, x1 _ _ q1.2⟩, code, vs, q2, q3, q4, fun H2 p x2 hp => q5 H2 p (x1.trans x2) hp⟩
    | _ => cases c
  | (m, cs, ns) :: [], s :: s2 :: ss, ht, c => by
    unfold fldC at c
    split at c
    · cases c
    · rename_i e1 e2
      cases e2
    · rename_i e1 e2
      cases e1
      rename_i c
      obtain ⟨_, c3⟩ := Bool.and_eq_true_iff.mp c
      cases c3
    · cases c
end
end Z

set_option Elab.async false
set_option linter.all false
set_option maxRecDepth 100000
set_option maxHeartbeats 4000000
namespace Z
open PySem PySem.Spec PyProof.Rows L2
/-! ### a def run while an exception is handled (nothing is raised there) -/
theorem run_hot {CX : CXT} {P : Program} {w : World} {K : PySem.W.Frag} {mg : Str → Option Value} {base : Heap} {f : Addr} {x qual : Str} {params : Arguments} {body : List Stmt} {scope : Scope} {fd : FuncData} {N ps : List Str} {A : Around} {outer : List Env} {s : Shared} {H : Hp} {us : List Value} {vs : List V}
    {Q : VK} {E : XK} {p : Addr × Obj} (F : FunD K x qual params body scope [] [] f fd) (S : FnScope N ps scope) (hd : A.depth < recursionLimit) (e0 : Env0 P w K mg base A outer s H) (hpin : L2H.PinOk outer H s p) (hb : Binds K fd ps []) (r : Vals vs us) (hl : vs.length = ps.length)
    (hbody : ∀ cdv, ∃ t, PSs (L2H.cxH CX P w K mg base N qual scope f cdv A outer s H E p) body t ∧ t { nx := fun _ H' => Q .non H', rt := Q } (L2.start N vs) H) :
    codeAny (model P w) A (.call (.ref f) ⟨us, []⟩) (CR CX outer P w H s Q E) s := by
  obtain ⟨oc, od, dV, kV, doc, pm, an, cdv, ct, osl, rfl, lk, hcd, _, _⟩ := F.ex
  have KX : K.In s.heap := e0.mod.kin.keeps fun b o e => (e0.bs b o e).1
  have lim : s.heap.NoLimit := e0.mod.nolimit.keeps fun b o e => (e0.bs b o e).1
  have hk : ∀ y ∈ ps.zip us, scope.names.lookup y.1 = some .local ∨ (scope.names.lookup y.1 = some .cell ∧ ((cellsFrom (s.heap.objs.size + 1) scope.names []).lookup y.1).isSome = true) := by
    rintro ⟨n, v⟩ hy
    exact (S.par n (List.of_mem_zip hy).1).imp id fun q => ⟨q, PySem.W.cellsFrom_some _ _ _ (.inl q)⟩
  have b2 := hb s us KX (by rw [List.append_nil, ← r.length]; exact hl)
  rw [List.append_nil] at b2
  refine codeAny_call_function hd (KX _ _ lk) rfl S.co S.gen rfl (PySem.W.codeRec_of KX hcd) (b2 _ _ _ _ ?_)
  refine wpAny_newFunctionEnv_cells S.kind hk fun env he s1 y => ?_
  subst he
  obtain ⟨t, ht, hq⟩ := hbody cdv
  refine ⟨lim.keeps y.toInCall.keep, codeAny_func ?_⟩
  have I := L2H.inv_startH (CX := CX) (E := E) (cd := cdv) (qual := qual) (f := f) S hpin e0 hl r y
  refine wpAny_mono (ht.run [] s1 (L2.start N vs) H _ I hq) (fun fl s' hs => ?_) fun e s' hs => hs
  cases fl with
  | ret u =>
    obtain ⟨v, σ', H', J, rv, q⟩ := hs
    exact ⟨v, H', J.os, J.bare, J.base, J.hok, rv, q⟩
  | next =>
    obtain ⟨σ', H', J, q⟩ := hs
    exact ⟨V.non, H', J.os, J.bare, J.base, J.hok, (rfl : RelV .non .none), q⟩
  | brk =>
    obtain ⟨_, _, _, q⟩ := hs
    exact False.elim q
  | cont =>
    obtain ⟨_, _, _, q⟩ := hs
    exact False.elim q
/-! ### what stands written of the three defs -/
structure DefH (K : PySem.W.Frag) (mg : Str → Option Value) (x : Str) (N ps : List Str) (body : List Stmt) (scope : Scope) : Prop where
  ex : ∃ f fd params, FunD K x x params body scope [] [] f fd ∧ mg x = some (.ref f) ∧ Binds K fd ps []
  fs : FnScope N ps scope
def gloI (sc : Scope) (x : Str) : Bool := decide (sc.names.lookup x = some .globalImplicit)
def locI (sc : Scope) (x : Str) : Bool := decide (sc.names.lookup x = some .local)
def gotC (sc : Scope) : List Stmt → Bool
  | [.Try [.Return (some (.Tuple [.Constant (.str z) _ _, .Call (.Name a _) [] [] _] _ _)) _] [.ExceptHandler (some (.Tuple [.Name e1 _, .Name e2 _] _ _)) (some n) [.Return (some (.BinOp (.Tuple [at_] _ _) .Add (.Call (.Name g _) [.Name m _] [] _) _)) _] _] [] [] _] =>
    decide (z = "") && decide (a = "_law_ask") && decide (e1 = "NetError") && decide (e2 = "Missing") && decide (n = "_law_e") && attC "_law_e" "code" at_ && decide (g = "_law_fields") && decide (m = "_law_e") &&
      gloI sc "NetError" && gloI sc "Missing" && gloI sc "_law_fields" && locI sc "_law_ask" && locI sc "_law_e"
  | _ => false
def isC (sc : Scope) : List Stmt → Bool
  | [.Return (some (.Call (.Name s _) [.Call (.Name g _) [.Name a _] [] _, .Name d _] [] _)) _] => decide (s = "_law_same") && decide (g = "_law_got") && decide (a = "_law_ask") && decide (d = "_law_due") && gloI sc "_law_same" && gloI sc "_law_got" && locI sc "_law_ask" && locI sc "_law_due"
  | _ => false
/-- what an error's class must have to be told by them -/
structure ExcF (K : PySem.W.Frag) (C : Str) : Prop where
  xf : XfC K (He.ga K C)
  no : ∀ f ∈ fldN, PySem.W.findIn K (.ref (He.ga K C)) f = some none
  exm : PySem.W.exmAny K (.ref (He.ga K C)) [.ref (He.ga K "NetError"), .ref (He.ga K "Missing")] = some true
def excFB (K : PySem.W.Frag) (C : Str) : Bool := xfB K (He.ga K C) && (fldN.all fun f => decide (PySem.W.findIn K (.ref (He.ga K C)) f = some none)) && decide (PySem.W.exmAny K (.ref (He.ga K C)) [.ref (He.ga K "NetError"), .ref (He.ga K "Missing")] = some true)
theorem excFB_ok {K : PySem.W.Frag} {C : Str} (h : excFB K C = true) : ExcF K C := by
  obtain ⟨h, h3⟩ := Bool.and_eq_true_iff.mp h
  obtain ⟨h1, h2⟩ := Bool.and_eq_true_iff.mp h
  exact ⟨xfB_ok h1, fun f hf => of_decide_eq_true (List.all_eq_true.mp h2 f hf), of_decide_eq_true h3⟩
structure AskE (K : PySem.W.Frag) (mg : Str → Option Value) (xs : List Str) (isd : Bool := true) : Prop where
  fld : ∃ body sc, DefH K mg "_law_fields" ["_law_e"] ["_law_e"] body sc ∧ fldC "_law_e" fldT body = true ∧ locI sc "_law_e" = true
  got : ∃ body sc, DefH K mg "_law_got" ["_law_ask", "_law_e"] ["_law_ask"] body sc ∧ gotC sc body = true
  is_ : isd = true → ∃ body sc, DefH K mg "_law_is" ["_law_ask", "_law_due"] ["_law_ask", "_law_due"] body sc ∧ isC sc body = true
  ne : mg "NetError" = some (.ref (He.ga K "NetError"))
  mi : mg "Missing" = some (.ref (He.ga K "Missing"))
  exc : ∀ C ∈ xs, ExcF K C
/-! ### _law_fields(_law_e), in the suite -/
theorem pe_fields {X : Cx} {isd : Bool} {xs : List Str} {a dd : Addr} {C : Str} {oe : Obj} {pn : List (Addr × Obj)} {fs : List (Str × V)} {q1 q2 q3 : Pos} (W : AskE X.K X.mg xs isd) (hC : C ∈ xs) (hd : X.A.depth < recursionLimit) (hz : Zc (.ref (He.ga X.K C)) (some dd) oe) (hf : ∃ vs, oe.data = .fields vs)
    (hN : X.N[1]? = some ("_law_e" : Str)) (hl : X.env.kindOf "_law_e" = some .local) (hg : X.env.kindOf "_law_fields" = some .globalImplicit) :
    PE (X.suite a ((a, oe) :: pn)) (.Call (.Name "_law_fields" q1) [.Name "_law_e" q2] [] q3) (fun σ H Q => fsAt 1 a dd fs σ H ∧ ∃ code vs, fs.lookup ("code" : Str) = some (.str code) ∧ lookAll fs (pickF fldT code) = some vs ∧ vs.length ≤ 1000 ∧
      ∀ H' p, ExtH H H' → H' p = none → Q (.ref p) (upd H' p (.tup vs))) := by
  obtain ⟨body, sc, ⟨⟨f, fd, params, F, hm, hb⟩, fsc⟩, ck, lc⟩ := W.fld
  refine ⟨fun pins s σ H Q I q => ?_⟩
  obtain ⟨⟨q1, q2⟩, code, vs, q3, q4, q5, q6⟩ := q
  refine wpAny_Call_Name_kw (ld_glob (X := X.suite a ((a, oe) :: pn)) I hg hm ?_ (by decide))
  refine PySem.W.callWith_K (h₀ := X.base) I.ok.mod.kin F.kp (thn ((pa_cons (pe_var (X := X.suite a ((a, oe) :: pn)) (i := 1) hN (.inl hl) (by decide) (by decide)) pa_nil).run _ pins s σ H (fun ws H1 => ws = [.ref a] ∧ H1 = H) I ⟨.ref a, q1, rfl, rfl⟩) fun us s1 ⟨ws, H1, I1, r, e⟩ => ⟨I1.kIn, ?_⟩) rfl rfl
  obtain ⟨rfl, rfl⟩ := e
  have P1 := I1.pin (a, oe) (List.mem_append_left _ List.mem_cons_self)
  have hpin : L2H.PinOk X.stack H1 s1 (a, oe) := ⟨P1.1, P1.2.1, fun hm => (List.mem_cons.mp (I1.stkSub a hm)).elim P1.2.2.1 P1.2.2.2.1, P1.2.2.2.2⟩
  have key := run_hot (CX := C8.CX0) (E := C8.E0) (Q := Q) F fsc (A := (X.suite a ((a, oe) :: pn)).A) hd I1.env0 hpin hb r rfl fun cdv => ⟨_, hot_fld (X := L2H.cxH C8.CX0 X.prog X.w X.K X.mg X.base ["_law_e"] "_law_fields" sc f cdv (X.suite a ((a, oe) :: pn)).A X.stack s1 H1 C8.E0 (a, oe)) (a := a) (C := He.ga X.K C) (dd := dd) (oe := oe) (j := 0) (fs := fs)
      { hN := rfl, vis := .inl (of_decide_eq_true lc), okd := by decide, okc := by decide, T := (W.exc C hC).xf, no := (W.exc C hC).no, pn := List.mem_cons_self, hz := hz, hf := hf } (by
        intro p hp
        refine ⟨?_, fldT_sub p hp⟩
        revert p
        decide) ck, ⟨rfl, q2⟩, code, vs, q3, q4, q5, q6⟩
  refine wpAny_call (codeAny_mono key fun r2 t hq => ?_)
  cases r2 with
  | error e => exact (show False from hq).elim
  | ok fl =>
    cases fl with
    | ret u => exact I1.after hq
    | next => exact False.elim hq
    | brk => exact False.elim hq
    | cont => exact False.elim hq
end Z

set_option Elab.async false
set_option linter.all false
set_option maxRecDepth 100000
set_option maxHeartbeats 4000000
namespace Z
open PySem PySem.Spec PyProof.Rows L2
/-! ### errors that are values -/
theorem excB_xf {K : PySem.W.Frag} {C : Addr} (h : excB K C = true) : XfC K C := by
  unfold excB at h
  simp only [Bool.and_eq_true] at h
  exact xfB_ok h.1.1.1.1.1.1
theorem excB_ty {K : PySem.W.Frag} {C : Addr} (h : excB K C = true) {t : String} (m : t ∈ btys) : PySem.W.kitOne K (.ref C) (.type t) = some false := by
  unfold excB at h
  simp only [Bool.and_eq_true] at h
  exact of_decide_eq_true (List.all_eq_true.mp h.2 t m)
/-- o.f, o an instance of ours or an error -/
def tFldX (K : PySem.W.Frag) (ta : TE) (f : Str) : TE := fun σ H Q => ta σ H fun x H1 => (∃ a C dx fs v, x = .ref a ∧ H1 a = some (.ins C dx fs) ∧ Cls K C ∧ NoAttr K C f ∧ fs.lookup f = some v ∧ Q v H1) ∨
  ∃ a C dx fs v, x = .ref a ∧ H1 a = some (exo a C (some dx)) ∧ H1 dx = some (exd dx fs) ∧ XfC K C ∧ PySem.W.findIn K (.ref C) f = some none ∧ fs.lookup f = some v ∧ Q v H1
theorem pe_fldX {X : Cx} {e : Expr} {f : Str} {pos : Pos} {ta : TE} (he : PE X e ta) (hb : attributeBase e f X.env (eval e X.env) = eval e X.env) : PE X (.Attribute e f pos) (tFldX X.K ta f) := by
  refine ⟨fun pins s σ H Q I h => ?_⟩
  refine attr_of hb (thn (he.run pins s σ H _ I h) fun u s1 ⟨x, H1, I1, rx, q⟩ => ?_)
  rcases q with ⟨a, C, dx, fs, v, ex, ea, c, n, l, q⟩ | ⟨a, C, dx, fs, v, ex, ea, ed, T, hno, l, q⟩
  · subst ex
    obtain rfl : u = Value.ref a := rx
    exact getattr_ok I1 ea c n l fun u' s2 I2 ru => ⟨v, H1, I2, ru, q⟩
  · subst ex
    obtain rfl : u = Value.ref a := rx
    obtain ⟨t1, ho⟩ := exo_at I1.hok ea
    obtain ⟨mA, hns, rel⟩ := exd_at I1.hok ed
    obtain ⟨od, hod, hl⟩ := lookIn_ns hns
    obtain ⟨w, hu, ru⟩ := RelO.some_of (v := v) (o := mA f) (l ▸ rel f)
    have J : PySem.W.InstAt s1.heap a { cls := .ref C, dict := some dx, data := .fields #[.ref t1, .none, .none, .none, .bool false, .none] } C (some od) := ⟨ho, rfl, rfl, hod⟩
    refine HandSPX.exc_get I1.kIn J T.ga T.gg T.exC (PySem.W.findObj_own T.hdC hno rfl ?_) (handed_of ru) ⟨v, H1, I1.tok _, ru, q⟩
    rw [hl, hu]
/-- isinstance(x, C), x a value of a built-in kind or an error -/
def rIsX (K : PySem.W.Frag) : List V → Hp → VK → Prop := fun xs H Q => rIsi K xs H Q ∨
  ∃ (a C dx : Addr) (fs : List (Str × V)) (c : V) (t : String) (b : Bool), xs = [.ref a, c] ∧ H a = some (exo a C (some dx)) ∧ H dx = some (exd dx fs) ∧ excB K C = true ∧ (∀ u, RelV c u → u = .type t ∨ ∃ D, u = .ref D) ∧ (∀ u, RelV c u → PySem.W.kitOne K (.ref C) u = some b) ∧ Q (.bl b) H
theorem call_isX {X : Cx} : CallR X (.builtin "isinstance") (rIsX X.K) := by
  intro pins s σ H xs us Q I r h
  rcases h with h | ⟨a, C, dx, fs, c, t, b, rfl, ea, ed, hx, hc, hk, q⟩
  · exact call_isi pins s σ H xs us Q I r h
  · cases r with
    | cons rx rr =>
    cases rr with
    | cons rt rr =>
    cases rr
    cases rx
    obtain ⟨t1, ho⟩ := exo_at I.hok ea
    obtain ⟨mA, hns, rel⟩ := exd_at I.hok ed
    obtain ⟨od, hod, hl⟩ := lookIn_ns hns
    have J : PySem.W.InstAt s.heap a { cls := .ref C, dict := some dx, data := .fields #[.ref t1, .none, .none, .none, .bool false, .none] } C (some od) := ⟨ho, rfl, rfl, hod⟩
    unfold excB at hx
    simp only [Bool.and_eq_true] at hx
    obtain ⟨⟨⟨⟨⟨⟨x1, x2⟩, x3⟩, x4⟩, x5⟩, x6⟩, _⟩ := hx
    have T := xfB_ok x1
    exact PySem.W.kia_one (PySem.W.kitx_exc x2 T.ga T.gg T.exC (of_decide_eq_true x3) (of_decide_eq_true x4) (of_decide_eq_true x5) (of_decide_eq_true x6)) I.kIn J (hk _ rt) (fun z => nomatch z) fun tk => ⟨.bl b, H, I.kept (t' := tk) fun _ _ z => z, rfl, q⟩
/-- isinstance(x, (C1, ..)) -/
def rIsTX (K : PySem.W.Frag) : List V → Hp → VK → Prop := fun xs H Q => rIsiT K xs H Q ∨
  ∃ (a C dx : Addr) (fs : List (Str × V)) (tp : Addr) (cs : List V) (us : List Value) (b : Bool), xs = [.ref a, .ref tp] ∧ H a = some (exo a C (some dx)) ∧ H dx = some (exd dx fs) ∧ excB K C = true ∧ H tp = some (.tup cs) ∧ Paired ClsV cs us ∧ PySem.W.kitAny K (.ref C) us = some b ∧ Q (.bl b) H
theorem call_isiTX {X : Cx} : CallR X (.builtin "isinstance") (rIsTX X.K) := by
  intro pins s σ H xs us Q I r h
  rcases h with h | ⟨a, C, dx, fs, tp, cs, vs, b, rfl, ea, ed, hx, ht, hp, hk, q⟩
  · exact call_isiT pins s σ H xs us Q I r h
  · cases r with
    | cons rx rr =>
    cases rr with
    | cons rt rr =>
    cases rr
    cases rx
    cases rt
    obtain ⟨t1, ho⟩ := exo_at I.hok ea
    obtain ⟨mA, hns, rel⟩ := exd_at I.hok ed
    obtain ⟨od, hod, hl⟩ := lookIn_ns hns
    have J : PySem.W.InstAt s.heap a { cls := .ref C, dict := some dx, data := .fields #[.ref t1, .none, .none, .none, .bool false, .none] } C (some od) := ⟨ho, rfl, rfl, hod⟩
    unfold excB at hx
    simp only [Bool.and_eq_true] at hx
    obtain ⟨⟨⟨⟨⟨⟨x1, x2⟩, x3⟩, x4⟩, x5⟩, x6⟩, _⟩ := hx
    have T := xfB_ok x1
    obtain ⟨_, its, rv, o, h1, h2, n, h3⟩ := (show ObjOk X.prog X.w H s.heap tp (.tup cs) from I.hok tp _ ht)
    have e3 := ClsV.all hp rv
    subst e3
    obtain ⟨oc, od', dt, sl⟩ := o
    simp only at h2 h3
    subst h2 h3
    exact PySem.W.kia_tup (PySem.W.kitx_exc x2 T.ga T.gg T.exC (of_decide_eq_true x3) (of_decide_eq_true x4) (of_decide_eq_true x5) (of_decide_eq_true x6)) I.kIn J h1 hk (fun z => nomatch z) fun tk => ⟨.bl b, H, I.tok tk, rfl, q⟩
end Z

set_option Elab.async false
set_option linter.all false
set_option maxRecDepth 100000
set_option maxHeartbeats 4000000
namespace Z
open PySem PySem.Spec PyProof.Rows L2

/-! ### the resolved text -/
/-- a target: a slot; a tuple of targets -/
inductive T1 where
  | nm (i : Nat) | tp (r : T1) | nil | cons (a r : T1)
/-- where an error's attribute comes from: an argument, a text -/
inductive XSrc where
  | arg (i : Nat) | str (z : Str)
deriving DecidableEq
/-- an error class: its name, how many arguments, its attributes in the order of their stores -/
structure XcD where
  nm : Str
  n : Nat
  fl : List (Str × XSrc)
deriving DecidableEq
/-- an error's attributes out of its arguments, in the order of their stores -/
def initD (ds : List D) : List (Str × XSrc) → Option (List (Str × D))
  | [] => some []
  | (f, .arg i) :: r => (match ds[i]?, initD ds r with
    | some v, some fs => some ((f, v) :: fs)
    | _, _ => none)
  | (f, .str z) :: r => (match initD ds r with
    | some fs => some ((f, .str z) :: fs)
    | none => none)
/-- built-ins that take data -/
inductive BF where
  | len | abs | int | list | tuple | sum | all | any | min | max | str | bool
def BF.name : BF → Str
  | .len => "len" | .abs => "abs" | .int => "int" | .list => "list" | .tuple => "tuple" | .sum => "sum" | .all => "all" | .any => "any" | .min => "min" | .max => "max" | .str => "str" | .bool => "bool"
def BF.op : BF → List D → (D → Prop) → Prop
  | .len => lenD | .abs => absD | .int => intD | .list => listE | .tuple => tupleD | .sum => sumD | .all => allD | .any => anyD | .min => minD | .max => maxD | .str => strD | .bool => boolD
/-- operators on objects: x in o, x not in o (g: the promise of the method) -/
inductive Op2 where
  | has (g : Nat) (neg : Bool)
  /-- a == b, a != b, a an object -/
  | eqo (g : Nat) (neg : Bool)
  /-- .. b an object, a no object -/
  | eqr (g : Nat) (neg : Bool)
  /-- a + b, .., both objects of one class -/
  | bino (g : Nat) (op : Operator)
  /-- {a: b}, a a text -/
  | dck
  /-- {x: a, y: b} -/
  | dc2 (x y : Str)
/-- len(o), bool(o), repr(o), isinstance(x, C) -/
inductive Op1 where
  | len (g : Nat) | boo (g : Nat) | rep (g : Nat) | isc (g : Nat)
  /-- {x} in an f-string -/
  | fmt
inductive Y where
  | var (i : Nat) | int (i : Int) | bl (b : Bool) | non | str (x : Str) | gint (x : Str) (i : Int) | gstr (x z : Str)
  | bin (op : Operator) (a b : Y) | neg (a : Y) | not (a : Y) | and (a b : Y) | or (a b : Y) | one (a : Y)
  | cmp (op : CmpOp) (a b : Y) | chain (o p : CmpOp) (a b c : Y) | ite (c a b : Y)
  | tup (es : Y) | tupU (es : Y) | lst (own : Bool) (es : Y)
  | call (g : Nat) (es : Y) | blt (f : BF) (es : Y) | lis (z : Y) | isi (a : Y) (cs : List String)
  | ix (a b : Y) | sl (a lo hi : Y) | rep (a b : Y)
  | comp (own : Bool) (vs : List Nat) (tg : T1) (src tst elt : Y)
  | app (r z : Y) | fz (z : Y) | fdq (a b : Y) | ins (r i z : Y) | lnt (z : Y) | dic0 | dic1 (x : Str) (z : Y) | sml (z : Y) | compU (vs : List Nat) (tg : T1) (src elt : Y) | fzl (z : Y) | idx (r z : Y) | comp2 (own : Bool) (vs vs1 : List Nat) (tg tg1 : T1) (src src1 tst elt : Y) | fld (f : Str) (a : Y) | meth (g : Nat) (m : Str) (a es : Y) | mk (g : Nat) (al : List Str) (es ks : Y) | op2 (o : Op2) (a b : Y) | op1 (o : Op1) (a : Y) | vw (z : Y) | jst (es : Y) | jc (a r : Y) | xv (e : XcD) (es : Y) | sjn (j : Bool) (a b : Y) | mkk (g : Nat) (al : List Str) (ks : Y)
  | nil | cons (a r : Y) | star (a r : Y) | nop | sm (a : Y) | yes
  | ask (g : Nat) (xs : List Str) (b d : Y) | got (xs : List Str) (b : Y) | callk (g : Nat) (es ks : Y)
  | seq (z : Y) | rng (a : Y) | rng2 (a b : Y) | enm (z : Y) | zip (a b : Y) | rev (z : Y)

/-! ### calls of defs by data -/
/-- a def as it is called: its name, the names of the keywords behind the positional arguments -/
abbrev Fk : Type := Str × List Str
instance : Coe String Fk := ⟨fun s => (Str.ofString s, [])⟩
/-- keys: a def's are plain; a method's keywords begin with ".", then its class; a class that is called: with "@", its attributes, "." -/
def mDot : Str := "."
def mAt : Str := "@"
def mkd : List Str → Bool
  | [] => false
  | s :: _ => decide (s = mDot) || decide (s = mAt)
abbrev ZSp := List U → List DO → (U → List DO → Prop) → ZX → Prop
mutual
def shU (f : Nat → Nat) : U → U
  | .d x => .d x
  | .o k => .o (f k)
  | .t us => .t (shUs f us)
  | .l us => .l (shUs f us)
def shUs (f : Nat → Nat) : List U → List U
  | [] => []
  | u :: us => shU f u :: shUs f us
end
/-- the arguments of a call: owned places are lent (the first to be written, the others to be read), all else is data that stays -/
def lendU (O : List DO) : Bool → List U → Nat → Option (List U × List Nat × List DO)
  | _, [], _ => some ([], [], [])
  | fst, u :: us, j => match u with
    | .o k => (match go O k with
      | some (.lst ds) => (match lendU O false us (j + 1) with
        | some (r, ks, L) => some (.o j :: r, k :: ks, (if fst = true then .lst ds else .brw ds) :: L)
        | none => none)
      | some (.brw ds) => (match lendU O false us (j + 1) with
        | some (r, ks, L) => some (.o j :: r, k :: ks, .brw ds :: L)
        | none => none)
      | some (.frz ds) => (match lendU O false us j with
        | some (r, ks, L) => some (.d (.lst ds) :: r, ks, L)
        | none => none)
      | some (.ob _ _) => none
      | none => none)
    | u => (match toD O u with
      | some d => (match lendU O false us j with
        | some (r, ks, L) => some (.d d :: r, ks, L)
        | none => none)
      | none => none)
/-- the lent places come back -/
def mrg : List Nat → List DO → List DO → List DO → Option (List DO)
  | [], [], A, O => some (O ++ A)
  | k :: ks, .lst _ :: L, a :: A, O => mrg ks L A (so O k a)
  | _ :: ks, .brw _ :: L, .brw _ :: A, O => mrg ks L A O
  | _, _, _, _ => none
def ren : List Nat → Nat → Nat → Nat
  | [], n, j => n + j
  | k :: _, _, 0 => k
  | _ :: ks, n, j + 1 => ren ks n j
def callZ (P : ZSp) (us : List U) (O : List DO) (Q : U → List DO → Prop) (E : ZX) : Prop :=
  ∃ r ks L, lendU O true us 0 = some (r, ks, L) ∧ ks.Nodup ∧
    P r L (fun u O' => ∃ O2, mrg ks L O' O = some O2 ∧ Q (shU (ren ks O.length) u) O2) (fun x O' => ∃ O2, mrg ks L O' O = some O2 ∧ E x (O2.take O.length))

/-- an object is made: P is what __init__ keeps -/
def mkZ (c : Str × List Str) (P : ZSp) : ZSp := fun us O Q E => P (.o O.length :: us) (O ++ [.ob c []])
  (fun u O' => u = .d .non ∧ ∃ fs, go O' O.length = some (.ob c fs) ∧ Q (.d (.obj c.1 (fs.map (·.1)) (fs.map (·.2)))) (O'.take O.length)) (fun x O' => E x (O'.take O.length))
/-! ### what is to be shown -/
def oneK (us : List U) (k : U → Prop) : Prop := match us with
  | [u] => k u
  | _ => False
def boolK (us : List U) (k : Bool → Prop) : Prop := match us with
  | [.d (.bl b)] => k b
  | _ => False
def nrK (O : List DO) (u : U) (k : D → Prop) : Prop := match nrm O u with
  | some x => k x
  | none => False
def toK (O : List DO) (u : U) (k : D → Prop) : Prop := match toD O u with
  | some x => k x
  | none => False
def tosK (O : List DO) (us : List U) (k : List D → Prop) : Prop := match toDs O us with
  | some ds => k ds
  | none => False
def nrs (O : List DO) : List U → Option (List D)
  | [] => some []
  | u :: us => match nrm O u with
    | some d => (match nrs O us with
      | some ds => some (d :: ds)
      | none => none)
    | none => none
def nrsK (O : List DO) (us : List U) (k : List D → Prop) : Prop := match nrs O us with
  | some ds => k ds
  | none => False
/-- read for a walk: an owned list is borrowed -/
def brK (O : List DO) (u : U) (k : D → List DO → Prop) : Prop := match u with
  | .o j => (match go O j with
    | some (.lst ds) => k (.lst ds) (so O j (.brw ds))
    | some (.brw ds) => k (.lst ds) O
    | some (.frz ds) => k (.lst ds) O
    | some (.ob _ _) => False
    | none => False)
  | u => (match toD O u with
    | some x => k x O
    | none => False)
/-- .. and given back -/
def unb1 : DO → DO → DO
  | .lst _, .brw ds => .lst ds
  | _, x => x
def unb : List DO → List DO → List DO
  | [], s => s
  | _ :: _, [] => []
  | o :: r, x :: s => unb1 o x :: unb r s
/-- the kind of a value -/
def tyD : D → Option String
  | .non => some "NoneType" | .bl _ => some "bool" | .int _ => some "int" | .str _ => some "str" | .tup _ => some "tuple" | .lst _ => some "list" | .scr _ => none | .dct _ _ => some "dict" | .obj _ _ _ => none | .exc _ _ _ => none
def isEx : U → Bool
  | .d (.exc _ _ _) => true
  | _ => false
def tyU (O : List DO) : U → Option String
  | .d x => tyD x
  | .o k => match go O k with
    | some (.ob _ _) => none
    | some _ => some "list"
    | none => none
  | .t _ => some "tuple"
  | .l _ => some "list"
def isiB (t : String) (cs : List String) : Option Bool := match cs with
  | [] => some false
  | c :: r => match kitB t c with
    | some true => some true
    | some false => isiB t r
    | none => none
mutual
def bindT : T1 → D → List (Option U) → (List (Option U) → Prop) → Prop
  | .nm i, d, ρ, k => k (st ρ i (.d d))
  | .tp r, d, ρ, k => match d with
    | .tup ds => bindTs r ds ρ k
    | .lst ds => bindTs r ds ρ k
    | _ => False
  | .nil, _, _, _ => False
  | .cons _ _, _, _, _ => False
def bindTs : T1 → List D → List (Option U) → (List (Option U) → Prop) → Prop
  | .nil, ds, ρ, k => match ds with
    | [] => k ρ
    | _ :: _ => False
  | .cons a r, ds, ρ, k => match ds with
    | d :: ds => bindT a d ρ fun ρ1 => bindTs r ds ρ1 k
    | [] => False
  | .nm _, _, _, _ => False
  | .tp _, _, _, _ => False
end
def wipeR (ρ : List (Option U)) : List Nat → List (Option U)
  | [] => ρ
  | v :: vs => rm (wipeR ρ vs) v
where rm : List (Option U) → Nat → List (Option U)
  | [], _ => []
  | _ :: r, 0 => none :: r
  | x :: r, n + 1 => x :: rm r n
/-- a comprehension's turns -/
def compR (tg : T1) (vt ve : List (Option U) → List DO → ZQ → Prop) (ρ0 : List (Option U)) (n : Nat) : List D → List D → List DO → (List D → List DO → Prop) → Prop
  | [], acc, O, Q => Q acc O
  | d :: ds, acc, O, Q => bindT tg d ρ0 fun ρ1 => vt ρ1 O fun us O1 => boolK us fun b =>
    (b = true → ve ρ1 O1 fun ws O2 => oneK ws fun w => toK O2 w fun x => compR tg vt ve ρ0 n ds (acc ++ [x]) (O2.take n) Q) ∧
    (b = false → compR tg vt ve ρ0 n ds acc (O1.take n) Q)
/-- .. whose elements stay ours -/
def compUR (tg : T1) (ve : List (Option U) → List DO → ZQ → Prop) (ρ0 : List (Option U)) : List D → List U → List DO → (List U → List DO → Prop) → Prop
  | [], acc, O, Q => Q acc O
  | d :: ds, acc, O, Q => bindT tg d ρ0 fun ρ1 => ve ρ1 O fun ws O2 => oneK ws fun w => compUR tg ve ρ0 ds (acc ++ [w]) O2 Q
/-- .. with two loops: the new list is the k-th place -/
def compI (tg : T1) (vt ve : List (Option U) → List DO → ZQ → Prop) (ρ0 : List (Option U)) (k n : Nat) : List D → List DO → (List DO → Prop) → Prop
  | [], O, Q => Q O
  | d :: ds, O, Q => bindT tg d ρ0 fun ρ1 => vt ρ1 O fun us O1 => boolK us fun b =>
    (b = true → ve ρ1 O1 fun ws O2 => oneK ws fun w => toK O2 w fun x => match go O2 k with
      | some (.lst acc) => acc.length < sizeLine ∧ compI tg vt ve ρ0 k n ds ((so O2 k (.lst (acc ++ [x]))).take n) Q
      | _ => False) ∧
    (b = false → compI tg vt ve ρ0 k n ds (O1.take n) Q)
def compO (tg : T1) (v1 : List (Option U) → List DO → ZQ → Prop) (inn : List (Option U) → Nat → List D → List DO → (List DO → Prop) → Prop) (ρ0 : List (Option U)) (k : Nat) : List D → List DO → (List DO → Prop) → Prop
  | [], O, Q => Q O
  | d :: ds, O, Q => bindT tg d ρ0 fun ρ1 => v1 ρ1 O fun us O1 => ∃ es, us = es.map .d ∧ inn ρ1 O1.length es O1 fun O2 => compO tg v1 inn ρ0 k ds (O2.take (k + 1)) Q
/-- owned lists become data -/
def frzAll : List U → List DO → List DO
  | [], O => O
  | .o j :: us, O => (match go O j with
    | some (.lst ds) => frzAll us (so O j (.frz ds))
    | _ => frzAll us O)
  | _ :: us, O => frzAll us O
def newL (own : Bool) (ds : List D) (O : List DO) (Q : ZQ) : Prop := match own with
  | true => Q [.o O.length] (O ++ [.lst ds])
  | false => Q [.d (.lst ds)] O
/-- a place that holds a list -/
def noOb (O : List DO) (k : Nat) (P : Prop) : Prop := match go O k with
  | some (.ob _ _) => False
  | _ => P
def keyD : Key → D
  | .inl i => .int i
  | .inr x => .str x
/-- where a number stands first -/
def idxD (x y : D) (Q : Nat → Prop) : Prop := match x, y with
  | .lst ds, .int i => ∃ ns : List Int, ds = ns.map .int ∧ ∃ j : Nat, ns[j]? = some i ∧ (∀ m, m < j → ns[m]? ≠ some i) ∧ Q j
  | _, _ => False
/-- an end of a slice -/
def partK (us : List U) (k : Option Int → Prop) : Prop := match us with
  | [] => k none
  | [.d (.int i)] => k (some i)
  | _ => False
def ofInts (ns : List Int) : List D := ns.map .int
/-- what an error tells: its code, the attributes that go with it -/
def lookD (fs : List (Str × D)) : List Str → Option (List D)
  | [] => some []
  | n :: ns => match fs.lookup n, lookD fs ns with
    | some v, some vs => some (v :: vs)
    | _, _ => none
def lawFields (x : Exc) : Option D := match x.fs.lookup ("code" : Str) with
  | some (.str c) => (match lookD x.fs (pickF fldT c) with
    | some ds => some (.tup (.str c :: ds))
    | none => none)
  | _ => none
def mHas : Str := "__contains__"
def mEq : Str := "__eq__"
def mLen : Str := "__len__"
def mBool : Str := "__bool__"
def mRepr : Str := "__repr__"
def ltys : List String := "NoneType" :: btys
/-- what may stand behind == -/
def okR (O : List DO) (c : Str) (w : U) : Prop := match w with
  | .d (.obj c2 _ _) => c2 = c
  | w => ∃ t, tyU O w = some t ∧ t ∈ ltys
def Op2.rd (Γ : List (Fk × ZSp)) : Op2 → U → U → List DO → ZX → ZQ → Prop
  | .has g neg, u, w, O, E, Q => match w with
    | .d (.obj c ns ds) => (match Γ[g]? with
      | some (x, P) => x = (mHas, [mDot, c]) ∧ callZ P [.d (.obj c ns ds), u] O (fun r O2 => boolK [r] fun b => Q [.d (.bl (b != neg))] O2) E
      | none => False)
    | _ => False
  | .eqo g neg, u, w, O, E, Q => match u with
    | .d (.obj c ns ds) => (match Γ[g]? with
      | some (x, P) => x = (mEq, [mDot, c]) ∧ okR O c w ∧ callZ P [.d (.obj c ns ds), w] O (fun r O2 => boolK [r] fun b => Q [.d (.bl (b != neg))] O2) E
      | none => False)
    | _ => False
  | .eqr g neg, u, w, O, E, Q => match w with
    | .d (.obj c ns ds) => (match Γ[g]? with
      | some (x, P) => x = (mEq, [mDot, c]) ∧ (∃ t, tyU O u = some t ∧ t ∈ ltys) ∧ callZ P [.d (.obj c ns ds), u] O (fun r O2 => boolK [r] fun b => Q [.d (.bl (b != neg))] O2) E
      | none => False)
    | _ => False
  | .bino g op, u, w, O, E, Q => match u, w with
    | .d (.obj c ns ds), .d (.obj c2 ns2 ds2) => (match Γ[g]? with
      | some (x, P) => x = (dunder op.info.2, [mDot, c]) ∧ c2 = c ∧ callZ P [.d (.obj c ns ds), .d (.obj c2 ns2 ds2)] O (fun r O2 => Q [r] O2) E
      | none => False)
    | _, _ => False
  | .dck, u, w, O, E, Q => match u with
    | .d (.str x) => toK O w fun d => Q [.d (.dct [.inr x] [d])] O
    | _ => False
  | .dc2 x y, u, w, O, E, Q => (x == y) = false ∧ toK O u fun d => toK O w fun d2 => Q [.d (.dct [.inr x, .inr y] [d, d2])] O
/-- a place that is looked at as data for a while -/
def DO.vw : DO → DO
  | .lst ds => .frz ds
  | o => o
def vwO (O : List DO) : List DO := O.map DO.vw
def noObs (O : List DO) : Bool := O.all fun | .ob _ _ => false | _ => true
def scal : D → Bool
  | .non => true
  | .bl _ => true
  | .int _ => true
  | .str _ => true
  | _ => false
def Op1.rd (Γ : List (Fk × ZSp)) : Op1 → U → List DO → ZX → ZQ → Prop
  | .fmt, u, O, E, Q => match u with
    | .d (.str y) => y.length ≤ 65536 ∧ Q [.d (.str y)] O
    | .d (.int i) => i.natAbs.log2 < 1920 ∧ Q [.d (.str (toString i))] O
    | _ => False
  | .len g, u, O, E, Q => match u with
    | .d (.obj c ns ds) => (match Γ[g]? with
      | some (x, P) => x = (mLen, [mDot, c]) ∧ callZ P [.d (.obj c ns ds)] O (fun r O2 => ∃ n : Int, r = .d (.int n) ∧ (0 ≤ n ∧ n < 2 ^ 63) ∧ Q [.d (.int n)] O2) E
      | none => False)
    | _ => False
  | .boo g, u, O, E, Q => match u with
    | .d (.obj c ns ds) => (match Γ[g]? with
      | some (x, P) => x = (mBool, [mDot, c]) ∧ callZ P [.d (.obj c ns ds)] O (fun r O2 => boolK [r] fun b => Q [.d (.bl b)] O2) E
      | none => False)
    | _ => False
  | .rep g, u, O, E, Q => match u with
    | .d (.obj c ns ds) => (match Γ[g]? with
      | some (x, P) => x = (mRepr, [mDot, c]) ∧ callZ P [.d (.obj c ns ds)] O (fun r O2 => ∃ z : Str, r = .d (.str z) ∧ Q [.d (.str z)] O2) E
      | none => False)
    | _ => False
  | .isc g, u, O, E, Q => match Γ[g]? with
    | some (x, _) => (match u with
      | .d (.obj c _ _) => c = x.1 ∧ Q [.d (.bl true)] O
      | u => ∃ t, tyU O u = some t ∧ t ∈ ltys ∧ Q [.d (.bl false)] O)
    | none => False
/-- x.join(w), x.strip(w) -/
def sjnD (j : Bool) (x : Str) (w : U) (Q : Str → Prop) : Prop := match j, w with
  | true, .d (.lst ds) => ∃ ys : List Str, ds = ys.map .str ∧ (ys.map (·.length)).sum + ys.length * x.length ≤ 16777216 ∧ Q (Txt.join x ys)
  | false, .d (.str y) => x.length ≤ sizeLine ∧ Q (Txt.stripChars x y)
  | _, _ => False
def vc (Γ : List (Fk × ZSp)) : Y → ZE
  | .var i => fun _ ρ O Q => match gt ρ i with
    | some u => Q [u] O
    | none => False
  | .int i => fun _ _ O Q => Q [.d (.int i)] O
  | .bl b => fun _ _ O Q => Q [.d (.bl b)] O
  | .non => fun _ _ O Q => Q [.d .non] O
  | .str x => fun _ _ O Q => Q [.d (.str x)] O
  | .gint _ i => fun _ _ O Q => Q [.d (.int i)] O
  | .gstr _ z => fun _ _ O Q => Q [.d (.str z)] O
  | .bin op a b => fun E ρ O Q => vc Γ a E ρ O fun us O1 => oneK us fun u => vc Γ b E ρ O1 fun ws O2 => oneK ws fun w => nrK O2 u fun x => nrK O2 w fun y => binD op x y fun z => Q [.d z] O2
  | .neg a => fun E ρ O Q => vc Γ a E ρ O fun us O1 => oneK us fun u => nrK O1 u fun x => match x with
    | .int i => Q [.d (.int (-i))] O1
    | _ => False
  | .not a => fun E ρ O Q => vc Γ a E ρ O fun us O1 => boolK us fun b => Q [.d (.bl (!b))] O1
  | .and a b => fun E ρ O Q => vc Γ a E ρ O fun us O1 => boolK us fun t => (t = true → vc Γ b E ρ O1 Q) ∧ (t = false → Q [.d (.bl false)] O1)
  | .or a b => fun E ρ O Q => vc Γ a E ρ O fun us O1 => boolK us fun t => (t = true → Q [.d (.bl true)] O1) ∧ (t = false → vc Γ b E ρ O1 Q)
  | .one a => vc Γ a
  | .cmp op a b => fun E ρ O Q => vc Γ a E ρ O fun us O1 => oneK us fun u => vc Γ b E ρ O1 fun ws O2 => oneK ws fun w => nrK O2 u fun x => nrK O2 w fun y => cmpD op x y fun t => Q [.d (.bl t)] O2
  | .chain o p a b c => fun E ρ O Q => vc Γ a E ρ O fun us O1 => oneK us fun u => vc Γ b E ρ O1 fun ws O2 => oneK ws fun w => nrK O2 u fun x => nrK O2 w fun y => cmpD o x y fun t =>
    (t = true → vc Γ c E ρ O2 fun vs O3 => oneK vs fun v => nrK O3 w fun y2 => nrK O3 v fun z => cmpD p y2 z fun t2 => Q [.d (.bl t2)] O3) ∧ (t = false → Q [.d (.bl false)] O2)
  | .ite c a b => fun E ρ O Q => vc Γ c E ρ O fun us O1 => boolK us fun t => (t = true → vc Γ a E ρ O1 Q) ∧ (t = false → vc Γ b E ρ O1 Q)
  | .tup es => fun E ρ O Q => vc Γ es E ρ O fun us O1 => tosK O1 us fun ds => ds.length ≤ sizeLine ∧ Q [.d (.tup ds)] O1
  | .tupU es => fun E ρ O Q => vc Γ es E ρ O fun us O1 => us.length ≤ sizeLine ∧ Q [.t us] O1
  | .lst own es => fun E ρ O Q => vc Γ es E ρ O fun us O1 => tosK O1 us fun ds => ds.length ≤ sizeLine ∧ newL own ds O1 Q
  | .call g es => fun E ρ O Q => vc Γ es E ρ O fun us O1 => match Γ[g]? with
    | some (_, P) => callZ P us O1 (fun u O2 => Q [u] O2) E
    | none => False
  | .callk g es ks => fun E ρ O Q => vc Γ es E ρ O fun us O1 => vc Γ ks E ρ O1 fun ws O2 => match Γ[g]? with
    | some (x, P) => ws.length = x.2.length ∧ callZ P (us ++ ws) O2 (fun u O3 => Q [u] O3) E
    | none => False
  | .ask g xs b d => fun E ρ O Q => vc Γ d E ρ O fun us O1 => oneK us fun u => toK O1 u fun due =>
    vc Γ b (fun x O2 => x.cls ∈ xs ∧ ∃ f, lawFields x = some f ∧ (match Γ[g]? with
      | some (_, P) => callZ P [.d f, .d due] O2 (fun u O3 => Q [u] O3) fun _ _ => False
      | none => False)) ρ O1 fun ws O2 => oneK ws fun w => toK O2 w fun x => match Γ[g]? with
    | some (_, P) => callZ P [.d (.tup [.str "", x]), .d due] O2 (fun u O3 => Q [u] O3) fun _ _ => False
    | none => False
  | .got xs b => fun E ρ O Q => vc Γ b (fun x O2 => x.cls ∈ xs ∧ ∃ f, lawFields x = some f ∧ Q [.d f] O2) ρ O fun ws O2 => oneK ws fun w => toK O2 w fun x => Q [.d (.tup [.str "", x])] O2
  | .blt f es => fun E ρ O Q => vc Γ es E ρ O fun us O1 => nrsK O1 us fun ds => f.op ds fun z => Q [.d z] O1
  | .lis z => fun E ρ O Q => vc Γ z E ρ O fun us O1 => oneK us fun u => nrK O1 u fun x => listD [x] fun y => match y with
    | .lst ds => newL true ds O1 Q
    | _ => False
  | .sml z => fun E ρ O Q => vc Γ z E ρ O fun us O1 => oneK us fun u => nrK O1 u fun x => match x with
    | .lst ds => ∃ xss : List (List D), ds = xss.map .lst ∧ xss.flatten.length ≤ sizeLine ∧ Q [.d (.lst xss.flatten)] O1
    | _ => False
  | .isi a cs => fun E ρ O Q => vc Γ a E ρ O fun us O1 => oneK us fun u => match tyU O1 u with
    | some t => ∃ b, isiB t cs = some b ∧ Q [.d (.bl b)] O1
    | none => isEx u = true ∧ cs.length = 1 ∧ (∀ c ∈ cs, c ∈ btys) ∧ Q [.d (.bl false)] O1
  | .ix a b => fun E ρ O Q => vc Γ a E ρ O fun us O1 => oneK us fun u => vc Γ b E ρ O1 fun ws O2 => oneK ws fun w => nrK O2 w fun y => match u with
    | .t vs => (match y with
      | .int i => ∃ v, atI vs i = some v ∧ Q [v] O2
      | _ => False)
    | .l vs => (match y with
      | .int i => ∃ v, atI vs i = some v ∧ Q [v] O2
      | _ => False)
    | u => nrK O2 u fun x => ixD x y fun z => Q [.d z] O2
  | .sl a lo hi => fun E ρ O Q => vc Γ a E ρ O fun us O1 => oneK us fun u => vc Γ lo E ρ O1 fun ls O2 => partK ls fun l => vc Γ hi E ρ O2 fun hs O3 => partK hs fun h =>
    nrK O3 u fun x => slD x l h fun z => Q [.d z] O3
  | .rep a b => fun E ρ O Q => vc Γ a E ρ O fun us O1 => oneK us fun u => vc Γ b E ρ O1 fun ws O2 => oneK ws fun w => nrK O2 u fun x => nrK O2 w fun y => mulD x y fun z => match z with
    | .lst ds => newL true ds O2 Q
    | _ => False
  | .comp own vs tg src tst elt => fun E ρ O Q => vc Γ src E ρ O fun us O1 => ∃ ds, us = ds.map .d ∧ ds.length ≤ sizeLine ∧
    compR tg (vc Γ tst fun _ _ => False) (vc Γ elt fun _ _ => False) (wipeR ρ vs) O1.length ds [] O1 fun acc O2 => newL own acc (unb O O2) Q
  | .compU vs tg src elt => fun E ρ O Q => vc Γ src E ρ O fun us O1 => ∃ ds, us = ds.map .d ∧ ds.length ≤ sizeLine ∧
    compUR tg (vc Γ elt fun _ _ => False) (wipeR ρ vs) ds [] O1 fun acc O2 => Q [.l acc] (unb O O2)
  | .fld f a => fun E ρ O Q => vc Γ a E ρ O fun us O1 => oneK us fun u => match u with
    | .d (.obj _ ns ds) => ∃ d, (ns.zip ds).lookup f = some d ∧ Q [.d d] O1
    | .d (.exc _ ns ds) => ∃ d, (ns.zip ds).lookup f = some d ∧ Q [.d d] O1
    | .o k => (match go O1 k with
      | some (.ob _ fs) => ∃ d, fs.lookup f = some d ∧ Q [.d d] O1
      | _ => False)
    | _ => False
  | .meth g m a es => fun E ρ O Q => vc Γ a E ρ O fun us O1 => oneK us fun u => match u with
    | .d (.obj c ns ds) => m ∉ ns ∧ (match Γ[g]? with
      | some (x, P) => x = (m, [mDot, c]) ∧ vc Γ es E ρ O1 fun ws O2 => callZ P (.d (.obj c ns ds) :: ws) O2 (fun u O3 => Q [u] O3) E
      | none => False)
    | _ => False
  | .mk g al es ks => fun E ρ O Q => vc Γ es E ρ O fun us O1 => vc Γ ks E ρ O1 fun ws O2 => match Γ[g]? with
    | some (x, P) => callZ (mkZ (x.1, al) P) (us ++ ws) O2 (fun u O3 => Q [u] O3) E
    | none => False
  | .vw z => fun E ρ O Q => noObs O = true ∧ vc Γ z E ρ (vwO O) fun us _ => oneK us fun u => ∃ d, u = .d d ∧ scal d = true ∧ Q [.d d] O
  | .jst es => fun E ρ O Q => vc Γ es E ρ O fun us O1 => ∃ zs : List Str, us = zs.map (fun z => .d (.str z)) ∧ Q [.d (.str (zs.foldl (· ++ ·) Str.empty))] O1
  | .jc a r => fun E ρ O Q => vc Γ a E ρ O fun us O1 => oneK us fun u => ∃ y : Str, u = .d (.str y) ∧ y.length ≤ 65536 ∧ vc Γ r E ρ O1 fun ws O2 => Q (.d (.str y) :: ws) O2
  | .mkk g al ks => fun E ρ O Q => vc Γ ks E ρ O fun ws O2 => match Γ[g]? with
    | some (x, P) => ws.length + al.length + 2 = x.2.length ∧ callZ (mkZ (x.1, al) P) ws O2 (fun u O3 => Q [u] O3) E
    | none => False
  | .sjn j a b => fun E ρ O Q => vc Γ a E ρ O fun us O1 => oneK us fun u => ∃ x : Str, u = .d (.str x) ∧ vc Γ b E ρ O1 fun ws O2 => oneK ws fun w => sjnD j x w fun z => Q [.d (.str z)] O2
  | .xv e es => fun E ρ O Q => vc Γ es E ρ O fun us O1 => tosK O1 us fun ds => ds.length = e.n ∧ ∃ fs, initD ds e.fl = some fs ∧ Q [.d (.exc e.nm (fs.reverse.map (·.1)) (fs.reverse.map (·.2)))] O1
  | .op1 o a => fun E ρ O Q => vc Γ a E ρ O fun us O1 => oneK us fun u => o.rd Γ u O1 E Q
  | .op2 o a b => fun E ρ O Q => vc Γ a E ρ O fun us O1 => oneK us fun u => vc Γ b E ρ O1 fun ws O2 => oneK ws fun w => o.rd Γ u w O2 E Q
  | .comp2 own vs vs1 tg tg1 src src1 tst elt => fun E ρ O Q => vc Γ src E ρ O fun us O1 => ∃ ds, us = ds.map .d ∧
    compO tg (vc Γ src1 fun _ _ => False) (fun ρ1 n es O Q => compI tg1 (vc Γ tst fun _ _ => False) (vc Γ elt fun _ _ => False) (wipeR ρ1 vs1) O1.length n es O Q) (wipeR ρ vs) O1.length ds (O1 ++ [.lst []]) fun O2 => match go O2 O1.length with
      | some (.lst acc) => newL own acc (unb O (O2.take O1.length)) Q
      | _ => False
  | .idx r z => fun E ρ O Q => vc Γ r E ρ O fun us O0 => oneK us fun u => nrK O0 u fun x0 => match x0 with
    | .lst _ => vc Γ z E ρ O0 fun ws O1 => oneK ws fun w => nrK O1 u fun x => nrK O1 w fun y => idxD x y fun j => Q [.d (.int (j : Int))] O1
    | _ => False
  | .fzl z => fun E ρ O Q => vc Γ z E ρ O fun us O1 => oneK us fun u => match u with
    | .l ws => toK (frzAll ws O1) (.l ws) fun d => Q [.d d] (frzAll ws O1)
    | _ => False
  | .app r z => fun E ρ O Q => vc Γ r E ρ O fun rs O0 => oneK rs fun r => match r with
    | .o k => noOb O0 k <| vc Γ z E ρ O0 fun us O1 => oneK us fun u => toK O1 u fun x => (match go O1 k with
      | some (.lst ds) => ds.length < sizeLine ∧ Q [.d .non] (so O1 k (.lst (ds ++ [x])))
      | _ => False)
    | _ => False
  | .fdq a b => fun E ρ O Q => vc Γ a E ρ O fun us O1 => oneK us fun u => vc Γ b E ρ O1 fun ws O2 => oneK ws fun w => nrK O2 u fun x => nrK O2 w fun y => fdqD x y fun z => Q [.d z] O2
  | .ins r i z => fun E ρ O Q => vc Γ r E ρ O fun rs O0 => oneK rs fun r => match r with
    | .o k => noOb O0 k <| vc Γ i E ρ O0 fun is O1 => oneK is fun i => vc Γ z E ρ O1 fun us O2 => oneK us fun u => toK O2 u fun x => (match go O2 k, i with
      | some (.lst ds), .d (.int j) => (ds.length < sizeLine ∧ 0 ≤ j ∧ j < 2 ^ 63) ∧ Q [.d .non] (so O2 k (.lst (ds.take j.toNat ++ [x] ++ ds.drop j.toNat)))
      | _, _ => False)
    | _ => False
  | .lnt z => fun E ρ O Q => vc Γ z E ρ O fun us O1 => oneK us fun u => match u with
    | .t vs => Q [.d (.int vs.length)] O1
    | _ => False
  | .dic0 => fun _ _ O Q => Q [.d (.dct [] [])] O
  | .dic1 x z => fun E ρ O Q => vc Γ z E ρ O fun us O1 => oneK us fun u => toK O1 u fun d => Q [.d (.dct [.inr x] [d])] O1
  | .fz z => fun E ρ O Q => vc Γ z E ρ O fun us O1 => oneK us fun u => match u with
    | .o k => (match go O1 k with
      | some (.lst ds) => Q [.d (.lst ds)] (so O1 k (.frz ds))
      | _ => False)
    | u => Q [u] O1
  | .nil => fun _ _ O Q => Q [] O
  | .cons a r => fun E ρ O Q => vc Γ a E ρ O fun us O1 => oneK us fun u => vc Γ r E ρ O1 fun ws O2 => Q (u :: ws) O2
  | .star a r => fun E ρ O Q => vc Γ a E ρ O fun us O1 => oneK us fun u => nrK O1 u fun x => match x with
    | .lst ds => vc Γ r E ρ O1 fun ws O2 => Q (ds.map .d ++ ws) O2
    | .tup ds => vc Γ r E ρ O1 fun ws O2 => Q (ds.map .d ++ ws) O2
    | _ => False
  | .nop => fun _ _ O Q => Q [] O
  | .sm a => fun E ρ O Q => vc Γ a E ρ O fun us O1 => oneK us fun u => Q [u] O1
  | .yes => fun _ _ O Q => Q [.d (.bl true)] O
  | .seq z => fun E ρ O Q => vc Γ z E ρ O fun us O1 => oneK us fun u => brK O1 u fun x O2 => match x with
    | .lst ds => Q (ds.map .d) O2
    | .tup ds => Q (ds.map .d) O2
    | .dct ks _ => Q ((ks.map keyD).map .d) O2
    | .str z => Q ((chD z).map .d) O2
    | _ => False
  | .rng a => fun E ρ O Q => vc Γ a E ρ O fun us O1 => oneK us fun u => nrK O1 u fun x => match x with
    | .int j => (-(2 ^ 62) ≤ j ∧ j < 2 ^ 62) ∧ Q (((List.range j.toNat).map fun (i : Nat) => D.int (0 + (i : Int))).map .d) O1
    | _ => False
  | .rng2 a b => fun E ρ O Q => vc Γ a E ρ O fun us O1 => oneK us fun u => vc Γ b E ρ O1 fun ws O2 => oneK ws fun w => nrK O2 u fun x => nrK O2 w fun y => match x, y with
    | .int i, .int j => (-(2 ^ 62) ≤ i ∧ i < 2 ^ 62 ∧ -(2 ^ 62) ≤ j ∧ j < 2 ^ 62) ∧ Q (((List.range (j - i).toNat).map fun (m : Nat) => D.int (i + (m : Int))).map .d) O2
    | _, _ => False
  | .enm z => fun E ρ O Q => vc Γ z E ρ O fun us O1 => oneK us fun u => brK O1 u fun x O2 => match x with
    | .lst ds => Q ((ds.mapIdx fun (i : Nat) d => D.tup [.int (i : Int), d]).map .d) O2
    | .tup ds => Q ((ds.mapIdx fun (i : Nat) d => D.tup [.int (i : Int), d]).map .d) O2
    | _ => False
  | .zip a b => fun E ρ O Q => vc Γ a E ρ O fun us O1 => oneK us fun u => vc Γ b E ρ O1 fun ws O2 => oneK ws fun w => brK O2 u fun x O3 => brK O3 w fun y O4 => match x, y with
    | .lst ds, .lst es => Q ((List.zipWith (fun d e => D.tup [d, e]) ds es).map .d) O4
    | .tup ds, .tup es => Q ((List.zipWith (fun d e => D.tup [d, e]) ds es).map .d) O4
    | .lst ds, .tup es => Q ((List.zipWith (fun d e => D.tup [d, e]) ds es).map .d) O4
    | .tup ds, .lst es => Q ((List.zipWith (fun d e => D.tup [d, e]) ds es).map .d) O4
    | _, _ => False
  | .rev z => fun E ρ O Q => vc Γ z E ρ O fun us O1 => oneK us fun u => brK O1 u fun x O2 => match x with
    | .lst ds => Q (ds.reverse.map .d) O2
    | _ => False
end Z

set_option Elab.async false
set_option linter.all false
set_option maxRecDepth 100000
set_option maxHeartbeats 4000000
namespace Z
open PySem PySem.Spec PyProof.Rows L2

/-! ### the text is the resolved one -/
structure Sx where
  N : List Str
  sc : Scope
  so : Scope
  lam : Bool := false
  ex : List Str := []
  gi : List (Str × Int) := []
  gs : List (Str × Str) := []
  xs : List XcD := []
  /-- the law has _law_is -/
  isd : Bool := true
  /-- errors are made here -/
  mkx : Bool := true
/-- within a block or a lambda: no lambdas there -/
def Sx.inn (S : Sx) (sc so : Scope) : Sx := { S with sc := sc, so := so, lam := false, mkx := false }
structure Ck where
  E : Expr → Bool := fun _ => false
  T : Expr → Bool := fun _ => false
  A : List Expr → Bool := fun _ => false
  I : Expr → Expr → Bool := fun _ _ => false
  O : Option Expr → Bool := fun _ => false
def visB (sc : Scope) (x : Str) : Bool := match sc.names.lookup x with
  | some .local => true
  | some .cell => true
  | some .free => true
  | _ => false
def gloB (sc : Scope) (x : Str) : Bool := decide (sc.names.lookup x = some .globalImplicit)
def oknB (x : Str) : Bool := !(x == ("__debug__" : Str)) && !(x == ("__classdict__" : Str))
def ownB (sc : Scope) (x : Str) : Bool := match sc.names.lookup x with
  | some .local => true
  | some .cell => true
  | _ => false
def plainT : Expr → Bool
  | .UnaryOp .Not _ _ => false
  | .BoolOp _ _ _ => false
  | .IfExp _ _ _ _ => false
  | .Compare _ _ _ _ => false
  | _ => true
def noStar : Expr → Bool
  | .Starred _ _ => false
  | _ => true
def noSet : Expr → Bool
  | .Set _ _ _ => false
  | _ => true
def noSlice : Expr → Bool
  | .Slice _ _ _ _ => false
  | _ => true
def plainO : Expr → Bool
  | .Name _ _ => true
  | .Subscript _ _ _ => true
  | _ => false
def plainS : Expr → Bool
  | .Name _ _ => true
  | .Subscript _ _ _ => true
  | .Constant _ _ _ => true
  | _ => false
/-- what a method may be asked of -/
def plainM : Expr → Bool
  | .Name _ _ => true
  | .Subscript _ _ _ => true
  | .Call (.Name f _) (_ :: _) _ _ => decide (f ≠ "super")
  | .Call (.Attribute _ _ _) _ _ _ => true
  | _ => false
def isTup : Expr → Bool
  | .Tuple _ _ _ => true
  | _ => false
mutual
def ckG (S : Sx) : T1 → Expr → Bool
  | .nm i, .Name x _ => decide (S.N[i]? = some x) && ownB S.so x
  | .tp r, .Tuple es _ _ => ckGs S r es
  | _, _ => false
def ckGs (S : Sx) : T1 → List Expr → Bool
  | .nil, [] => true
  | .cons a r, e :: es => noStar e && ckG S a e && ckGs S r es
  | _, _ => false
end
mutual
def slots : T1 → List Nat
  | .nm i => [i]
  | .tp r => slots r
  | .nil => []
  | .cons a r => slots a ++ slots r
end
def cE (f : Expr → Bool) : Ck := { E := f, T := fun e => plainT e && f e, O := fun _ => false }
def ownN (N : List Str) (vs : List Nat) : List (Str × Nat) := vs.map fun i => (N.getD i Str.empty, i)
def tyB (sc : Scope) (t : Str) (n : String) : Bool := decide (t = Str.ofString n) && gloB sc t && ["int", "bool", "str", "list", "tuple", "dict"].contains n
def tysB (sc : Scope) : List Expr → List String → Bool
  | [], [] => true
  | .Name t _ :: ts, n :: ns => tyB sc t n && tysB sc ts ns
  | _, _ => false
def isiC (sc : Scope) : Expr → List String → Bool
  | .Name t _, [n] => tyB sc t n
  | .Tuple ts _ _, ns => tysB sc ts ns
  | _, _ => false
def compC (Γt Γe : Sx → Ck) (Γs : Ck) (S : Sx) (vs : List Nat) (tg : T1) (yes : Bool) : Expr → Bool
  | .ListComp e [⟨t, it, ifs, 0⟩] scope _ => blkC S.N S.sc scope (ownN S.N vs) && ckG (S.inn (relS scope S.sc) scope) tg t && (slots tg).all (fun i => vs.contains i) && Γs.I t it && noSet it &&
      (match ifs with
        | [] => yes
        | [c] => !yes && (Γt (S.inn (relS scope S.sc) scope)).T c
        | _ => false) && (Γe (S.inn (relS scope S.sc) scope)).E e
  | _ => false
def comp2C (Γ1 Γt Γe : Sx → Ck) (Γs : Ck) (S : Sx) (vs vs1 : List Nat) (tg tg1 : T1) (yes : Bool) : Expr → Bool
  | .ListComp e [⟨t, it, [], 0⟩, ⟨t1, it1, ifs, 0⟩] scope _ => blkC S.N S.sc scope (ownN S.N vs) && ckG (S.inn (relS scope S.sc) scope) tg t && (slots tg).all (fun i => vs.contains i) && Γs.I t it && noSet it &&
      ckG (S.inn (relS scope S.sc) scope) tg1 t1 && (slots tg1).all (fun i => vs1.contains i) && vs1.all (fun i => vs.contains i) && (Γ1 (S.inn (relS scope S.sc) scope)).I t1 it1 && noSet it1 &&
      (match ifs with
        | [] => yes
        | [c] => !yes && (Γt (S.inn (relS scope S.sc) scope)).T c
        | _ => false) && (Γe (S.inn (relS scope S.sc) scope)).E e
  | _ => false
def isNilY : Y → Bool
  | .nil => true
  | _ => false
def isYes : Y → Bool
  | .yes => true
  | _ => false
def notC (f : Expr → Bool) : Expr → Bool
  | .UnaryOp .Not x _ => f x
  | _ => false
def andC (f g : Expr → Bool) : Expr → Bool
  | .BoolOp .And (x :: y :: r) p => f x && g (.BoolOp .And (y :: r) p)
  | _ => false
def orC (f g : Expr → Bool) : Expr → Bool
  | .BoolOp .Or (x :: y :: r) p => f x && g (.BoolOp .Or (y :: r) p)
  | _ => false
def oneC (f : Expr → Bool) : Expr → Bool
  | .BoolOp _ [x] _ => f x
  | _ => false
def cmpC (op : CmpOp) (f g : Expr → Bool) : Expr → Bool
  | .Compare l [o] [r] _ => decide (op = o) && f l && g r && noSet r
  | _ => false
def chainC (o p : CmpOp) (f g h : Expr → Bool) : Expr → Bool
  | .Compare l [o1, p1] [m, r] _ => decide (o = o1) && decide (p = p1) && f l && g m && h r && noSet m && noSet r
  | _ => false
def iteC (f g h : Expr → Bool) : Expr → Bool
  | .IfExp t x y _ => f t && g x && h y
  | _ => false
def nilC : List Expr → Bool
  | [] => true
  | _ => false
def consC (f : Expr → Bool) (g : List Expr → Bool) : List Expr → Bool
  | e :: es => noStar e && f e && g es
  | _ => false
def starC (f : Expr → Bool) (g : List Expr → Bool) : List Expr → Bool
  | .Starred e _ :: es => f e && g es
  | _ => false
def nopC : Option Expr → Bool
  | none => true
  | _ => false
def smC (f : Expr → Bool) : Option Expr → Bool
  | some e => f e
  | _ => false
def rngC (sc : Scope) (f : Expr → Bool) : Expr → Bool
  | .Call (.Name n _) [x] [] _ => decide (n = "range") && gloB sc n && noStar x && f x
  | _ => false
def rng2C (sc : Scope) (f g : Expr → Bool) : Expr → Bool
  | .Call (.Name n _) [x, y] [] _ => decide (n = "range") && gloB sc n && noStar x && noStar y && f x && g y
  | _ => false
def enmC (sc : Scope) (f : Expr → Bool) (t : Expr) : Expr → Bool
  | .Call (.Name n _) [x] [] _ => isTup t && decide (n = "enumerate") && gloB sc n && noStar x && f x
  | _ => false
def zipC (sc : Scope) (f g : Expr → Bool) (t : Expr) : Expr → Bool
  | .Call (.Name n _) [x, y] [] _ => isTup t && decide (n = "zip") && gloB sc n && noStar x && noStar y && f x && g y
  | _ => false
def revC (sc : Scope) (f : Expr → Bool) : Expr → Bool
  | .Call (.Name n _) [x] [] _ => decide (n = "reversed") && gloB sc n && noStar x && f x
  | _ => false
/-- _law_is(lambda: body, due), _law_got(lambda: body) -/
def noArgs : Arguments → Bool
  | ⟨[], [], none, [], [], none, []⟩ => true
  | _ => false
def askC (S : Sx) (xs : List Str) (fb : Sx → Expr → Bool) (fd : Expr → Bool) : Expr → Bool
  | .Call (.Name f _) [.Lambda ps body scope _, e] [] _ => (S.lam && S.isd) && decide (f = "_law_is") && gloB S.sc f && noArgs ps && LamX.lamSB S.sc scope && xs.all (fun x => decide (x ∈ S.ex)) && fb (S.inn scope scope) body && noStar e && fd e
  | _ => false
def gotEC (S : Sx) (xs : List Str) (fb : Sx → Expr → Bool) : Expr → Bool
  | .Call (.Name f _) [.Lambda ps body scope _] [] _ => S.lam && decide (f = "_law_got") && gloB S.sc f && noArgs ps && LamX.lamSB S.sc scope && xs.all (fun x => decide (x ∈ S.ex)) && fb (S.inn scope scope) body
  | _ => false
def kwC : List Str → (List Expr → Bool) → List Keyword → Bool
  | ks, f, kws => !mkd ks && kws.all (fun k => k.arg.isSome) && decide (kws.filterMap (·.arg) = ks) && f (kws.map (·.value)) && kws.all fun k => noStar k.value
/-- o.m(e) -/
def m1C (n : Str) (f g : Expr → Bool) : Expr → Bool
  | .Call (.Attribute o m ap) [e] [] cp => (ap.endLine == cp.line) && decide (m = n) && plainS o && noStar e && f o && g e
  | _ => false
def dckC (f g : Expr → Bool) : Expr → Bool
  | .Dict [some x] [v] _ => f x && g v
  | _ => false
def dc2C (x y : Str) (f g : Expr → Bool) : Expr → Bool
  | .Dict [some (.Constant (.str p) _ _), some (.Constant (.str q) _ _)] [v, w] _ => decide (x = p) && decide (y = q) && f v && g w
  | _ => false
def Op2.C (f g : Expr → Bool) : Op2 → Ck
  | .has _ neg => { E := cmpC (if neg = true then .NotIn else .In) f g, T := cmpC (if neg = true then .NotIn else .In) f g }
  | .eqo _ neg => { E := cmpC (if neg = true then .NotEq else .Eq) f g, T := cmpC (if neg = true then .NotEq else .Eq) f g }
  | .eqr _ neg => { E := fun e => !neg && cmpC .Eq f g e, T := fun e => !neg && cmpC .Eq f g e }
  | .bino _ op => {}
  | .dc2 x y => cE (dc2C x y f g)
  | .dck => cE (dckC f g)
def Op1.nm : Op1 → Str
  | .len _ => "len" | .boo _ => "bool" | .rep _ => "repr" | .isc _ => "isinstance" | .fmt => ""
def isMk (Γn : List Fk) (g : Nat) (C : Str) : Bool := match Γn[g]? with
  | some (c, a :: al) => decide (c = C) && decide (a = mAt) && decide (al.getLast? = some mDot) && !al.dropLast.contains mDot
  | _ => false
def Op1.C (Γn : List Fk) (sc : Scope) (f : Expr → Bool) : Op1 → Expr → Bool
  | .isc g, .Call (.Name x _) [a, .Name C _] [] _ => decide (x = "isinstance") && gloB sc x && noStar a && f a && gloB sc C && oknB C && isMk Γn g C
  | .isc _, _ => false
  | .fmt, .FormattedValue e (-1) none _ => f e
  | .fmt, _ => false
  | o, .Call (.Name x _) [a] [] _ => decide (x = o.nm) && gloB sc x && noStar a && f a
  | _, _ => false
def partsJ : Y → Bool
  | .nil => true
  | .jc _ r => partsJ r
  | _ => false
def ck (Γn : List Fk) : Y → Sx → Ck
  | .vw z, S => cE (ck Γn z S).E
  | .jst es, S => cE (fun
    | .JoinedStr (x :: y :: xs) _ => partsJ es && decide (xs.length ≤ 62) && (ck Γn es S).A (x :: y :: xs)
    | _ => false)
  | .jc a r, S => { A := consC (ck Γn a S).E (ck Γn r S).A }
  | .mkk g al ks, S => cE (fun
    | .Call (.Name f _) [] (k :: kws) _ => decide (Γn[g]? = some (f, mAt :: (al ++ mDot :: (k :: kws).filterMap (·.arg)))) && !al.contains mDot && gloB S.sc f && oknB f && kwC ((k :: kws).filterMap (·.arg)) (ck Γn ks S).A (k :: kws)
    | _ => false)
  | .sjn j a b, S => cE (m1C (if j = true then "join" else "strip") (ck Γn a S).E (ck Γn b S).E)
  | .xv e es, S => cE (fun
    | .Call (.Name f _) (x :: xs) [] _ => S.mkx && decide (f = e.nm) && decide (e ∈ S.xs) && gloB S.sc f && oknB f && noStar x && xs.all noStar && (ck Γn es S).A (x :: xs)
    | .Call (.Name f _) [] [] _ => S.mkx && decide (f = e.nm) && decide (e ∈ S.xs) && gloB S.sc f && oknB f && isNilY es
    | _ => false)
  | .var i, S => cE (fun | .Name x _ => decide (S.N[i]? = some x) && visB S.sc x && oknB x | _ => false)
  | .int i, S => cE (fun | .Constant (.int j) _ _ => decide (i = j) | _ => false)
  | .bl b, S => cE (fun | .Constant (.bool c) _ _ => decide (b = c) | _ => false)
  | .non, S => cE (fun | .Constant .none _ _ => true | _ => false)
  | .str x, S => cE (fun | .Constant (.str y) _ _ => decide (x = y) | _ => false)
  | .gint x i, S => cE (fun | .Name y _ => decide (x = y) && decide ((x, i) ∈ S.gi) && gloB S.sc x && oknB x | _ => false)
  | .gstr x z, S => cE (fun | .Name y _ => decide (x = y) && decide ((x, z) ∈ S.gs) && gloB S.sc x && oknB x | _ => false)
  | .bin op a b, S => cE (fun | .BinOp l o r _ => decide (op = o) && (ck Γn a S).E l && (ck Γn b S).E r | _ => false)
  | .neg a, S => cE (fun | .UnaryOp .USub x _ => (ck Γn a S).E x | _ => false)
  | .not a, S => { E := notC (ck Γn a S).E, T := notC (ck Γn a S).T }
  | .and a b, S => { E := andC (ck Γn a S).E (ck Γn b S).E, T := andC (ck Γn a S).T (ck Γn b S).T }
  | .or a b, S => { E := orC (ck Γn a S).E (ck Γn b S).E, T := orC (ck Γn a S).T (ck Γn b S).T }
  | .one a, S => { E := oneC (ck Γn a S).E, T := oneC (ck Γn a S).T }
  | .cmp op a b, S => { E := cmpC op (ck Γn a S).E (ck Γn b S).E, T := cmpC op (ck Γn a S).E (ck Γn b S).E }
  | .chain o p a b c, S => { E := chainC o p (ck Γn a S).E (ck Γn b S).E (ck Γn c S).E, T := chainC o p (ck Γn a S).E (ck Γn b S).E (ck Γn c S).E }
  | .ite c a b, S => { E := iteC (ck Γn c S).T (ck Γn a S).E (ck Γn b S).E }
  | .tup es, S => cE (fun | .Tuple xs _ _ => (ck Γn es S).A xs | _ => false)
  | .tupU es, S => cE (fun | .Tuple xs _ _ => (ck Γn es S).A xs | _ => false)
  | .lst _ es, S => cE (fun | .List xs _ => (ck Γn es S).A xs | _ => false)
  | .call g es, S => cE (fun | .Call (.Name f _) (x :: xs) [] _ => decide (Γn[g]? = some (f, [])) && gloB S.sc f && oknB f && noStar x && xs.all noStar && (ck Γn es S).A (x :: xs) | .Call (.Name f _) [] [] _ => decide (Γn[g]? = some (f, [])) && gloB S.sc f && oknB f && isNilY es | _ => false)
  | .callk g es ks, S => cE (fun
    | .Call (.Name f _) [] (k :: kws) _ => decide (Γn[g]? = some (f, (k :: kws).filterMap (·.arg))) && gloB S.sc f && oknB f && isNilY es && kwC ((k :: kws).filterMap (·.arg)) (ck Γn ks S).A (k :: kws)
    | .Call (.Name f _) (x :: xs) (k :: kws) _ => decide (Γn[g]? = some (f, (k :: kws).filterMap (·.arg))) && gloB S.sc f && oknB f && noStar x && xs.all noStar && (ck Γn es S).A (x :: xs) && kwC ((k :: kws).filterMap (·.arg)) (ck Γn ks S).A (k :: kws)
    | _ => false)
  | .ask g xs b d, S => cE (fun e => (match Γn[g]? with
    | some (f, []) => decide (f = "_law_same")
    | _ => false) && askC S xs (fun S2 => (ck Γn b S2).E) (ck Γn d S).E e)
  | .got xs b, S => cE (gotEC S xs fun S2 => (ck Γn b S2).E)
  | .blt b es, S => cE (fun | .Call (.Name f _) (x :: xs) [] _ => decide (f = b.name) && gloB S.sc f && noStar x && xs.all noStar && (ck Γn es S).A (x :: xs) | _ => false)
  | .lis z, S => cE (fun | .Call (.Name f _) [x] [] _ => decide (f = "list") && gloB S.sc f && noStar x && (ck Γn z S).E x | _ => false)
  | .sml z, S => cE (fun | .Call (.Name f _) [x, .List [] _] [] _ => decide (f = "sum") && gloB S.sc f && noStar x && (ck Γn z S).E x | _ => false)
  | .isi a cs, S => cE (fun | .Call (.Name f _) [x, c] [] _ => decide (f = "isinstance") && gloB S.sc f && noStar x && noStar c && (ck Γn a S).E x && isiC S.sc c cs && decide (cs.length ≤ 20) | _ => false)
  | .ix a b, S => cE (fun | .Subscript x i _ => (ck Γn a S).E x && (ck Γn b S).E i && noSlice i | _ => false)
  | .sl a lo hi, S => cE (fun | .Subscript x (.Slice l h none _) _ => (ck Γn a S).E x && (ck Γn lo S).O l && (ck Γn hi S).O h | _ => false)
  | .rep a b, S => cE (fun | .BinOp l .Mult r _ => (ck Γn a S).E l && (ck Γn b S).E r | _ => false)
  | .comp _ vs tg src tst elt, S => cE (compC (ck Γn tst) (ck Γn elt) (ck Γn src S) S vs tg (isYes tst))
  | .compU vs tg src elt, S => cE (compC (fun _ => {}) (ck Γn elt) (ck Γn src S) S vs tg true)
  | .comp2 _ vs vs1 tg tg1 src src1 tst elt, S => cE (comp2C (ck Γn src1) (ck Γn tst) (ck Γn elt) (ck Γn src S) S vs vs1 tg tg1 (isYes tst))
  | .idx r z, S => cE (fun | .Call (.Attribute o m ap) [e] [] cp => (ap.endLine == cp.line) && decide (m = "index") && plainO o && noStar e && (ck Γn r S).E o && (ck Γn z S).E e | _ => false)
  | .fzl z, S => cE (ck Γn z S).E
  | .fld f a, S => cE (fun | .Attribute o n _ => decide (n = f) && plainO o && (ck Γn a S).E o | _ => false)
  | .meth _ m a es, S => cE (fun
    | .Call (.Attribute o n ap) (x :: xs) [] cp => decide (n = m) && plainM o && noStar x && xs.all noStar && decide ((x :: xs).length < 30) && (ap.endLine == cp.line) && (ck Γn a S).E o && (ck Γn es S).A (x :: xs)
    | .Call (.Attribute o n ap) [] [] cp => decide (n = m) && plainM o && isNilY es && (ap.endLine == cp.line) && (ck Γn a S).E o
    | _ => false)
  | .mk g al es ks, S => cE (fun
    | .Call (.Name f _) (x :: xs) [] _ => decide (Γn[g]? = some (f, mAt :: (al ++ [mDot]))) && !al.contains mDot && gloB S.sc f && oknB f && noStar x && xs.all noStar && (ck Γn es S).A (x :: xs) && isNilY ks
    | .Call (.Name f _) [] [] _ => decide (Γn[g]? = some (f, mAt :: (al ++ [mDot]))) && !al.contains mDot && gloB S.sc f && oknB f && isNilY es && isNilY ks
    | _ => false)
  | .op1 o a, S => cE (o.C Γn S.sc (ck Γn a S).E)
  | .op2 o a b, S => o.C (ck Γn a S).E (ck Γn b S).E
  | .app r z, S => cE (fun | .Call (.Attribute o m ap) [e] [] cp => (ap.endLine == cp.line) && decide (m = "append") && plainO o && noStar e && (ck Γn r S).E o && (ck Γn z S).E e | _ => false)
  | .fdq a b, S => cE (fun | .BinOp l o r _ => decide (Operator.FloorDiv = o) && (ck Γn a S).E l && (ck Γn b S).E r | _ => false)
  | .ins r i z, S => cE (fun | .Call (.Attribute o m ap) [x, e] [] cp => (ap.endLine == cp.line) && decide (m = "insert") && plainO o && noStar x && noStar e && (ck Γn r S).E o && (ck Γn i S).E x && (ck Γn z S).E e | _ => false)
  | .dic0, S => cE (fun | .Dict [] [] _ => true | _ => false)
  | .dic1 x z, S => cE (fun | .Dict [some (.Constant (.str y) _ _)] [v] _ => decide (x = y) && (ck Γn z S).E v | _ => false)
  | .lnt z, S => cE (fun | .Call (.Name f _) [x] [] _ => decide (f = "len") && gloB S.sc f && noStar x && (ck Γn z S).E x | _ => false)
  | .fz z, S => cE (ck Γn z S).E
  | .nil, _ => { A := nilC }
  | .cons a r, S => { A := consC (ck Γn a S).E (ck Γn r S).A }
  | .star a r, S => { A := starC (ck Γn a S).E (ck Γn r S).A }
  | .nop, _ => { O := nopC }
  | .sm a, S => { O := smC (ck Γn a S).E }
  | .yes, _ => {}
  | .seq z, S => { I := fun _ e => (ck Γn z S).E e }
  | .rng a, S => { I := fun _ e => rngC S.sc (ck Γn a S).E e }
  | .rng2 a b, S => { I := fun _ e => rng2C S.sc (ck Γn a S).E (ck Γn b S).E e }
  | .enm z, S => { I := fun t e => enmC S.sc (ck Γn z S).E t e }
  | .zip a b, S => { I := fun t e => zipC S.sc (ck Γn a S).E (ck Γn b S).E t e }
  | .rev z, S => { I := fun _ e => revC S.sc (ck Γn z S).E e }
end Z

set_option Elab.async false
set_option linter.all false
set_option maxRecDepth 100000
set_option maxHeartbeats 4000000
namespace Z
open PySem PySem.Spec PyProof.Rows L2

/-- a def's promise by data, as a promise of the layer -/
def lowSp (G : Gx) (P : ZSp) : Sp := fun vs H Q E => ∃ B α O us Q0 E0, Own G B α O H ∧ AtUs G.K B α O H vs us ∧ P us O Q0 E0 ∧
  (∀ u O', Q0 u O' → ∀ α' v H', Stp α O H α' O' H' → Own G B α' O' H' → AtU G.K B α' O' H' v u → Q v H') ∧ ELow G B E α O H E0
section
variable {G : Gx} {B : Addr → Prop} {α α' β : List Addr} {O O' N : List DO} {H H' : Hp} {W0 : XK} {E0 : ZX}
theorem Own.tracked (w : Own G B α O H) {a : Addr} (h : a ∈ α) : ∃ o, H a = some o := by
  cases q : H a with
  | some o => exact ⟨o, rfl⟩
  | none => exact absurd h (own_fresh w q)
theorem ow_app (hl : α.length = O.length) {b : Addr} (m : Ow (α ++ β) (O ++ N) b) : Ow α O b ∨ Ow β N b := by
  obtain ⟨k, o, e1, e2, l⟩ := m
  by_cases hk : k < α.length
  · rw [List.getElem?_append_left hk] at e1
    rw [List.getElem?_append_left (by omega)] at e2
    exact .inl ⟨k, o, e1, e2, l⟩
  · rw [List.getElem?_append_right (by omega)] at e1
    rw [List.getElem?_append_right (by omega)] at e2
    rw [hl] at e1
    exact .inr ⟨k - O.length, o, e1, e2, l⟩
theorem ow_appL {b : Addr} (m : Ow α O b) : Ow (α ++ β) (O ++ N) b := by
  obtain ⟨k, o, e1, e2, l⟩ := m
  exact ⟨k, o, by rw [List.getElem?_append_left (List.getElem?_eq_some_iff.mp e1).1]; exact e1, by rw [List.getElem?_append_left (List.getElem?_eq_some_iff.mp e2).1]; exact e2, l⟩
theorem ow_appR (hl : α.length = O.length) {b : Addr} (m : Ow β N b) : Ow (α ++ β) (O ++ N) b := by
  obtain ⟨k, o, e1, e2, l⟩ := m
  refine ⟨O.length + k, o, ?_, ?_, l⟩
  · rw [List.getElem?_append_right (by omega), hl]
    rw [show O.length + k - O.length = k by omega]
    exact e1
  · rw [List.getElem?_append_right (by omega)]
    rw [show O.length + k - O.length = k by omega]
    exact e2
mutual
theorem AtU.sh {B2 : Addr → Prop} {α2 : List Addr} {O2 : List DO} {f : Nat → Nat} (hm : ∀ a, Mu B2 α2 O2 a → Mu B α O a) (hi : ∀ k a, α[k]? = some a → α2[f k]? = some a) : ∀ {u : U} {v : V}, AtU G.K B α O H v u → AtU G.K B2 α2 O2 H v (shU f u)
  | .d x, _, .d a => by rw [shU]; exact .d (a.less hm)
  | .o k, _, .o e => by rw [shU]; exact .o (hi _ _ e)
  | .t us, _, .t e m r => by rw [shU]; exact .t e (fun z => m (hm _ z)) (AtUs.sh hm hi r)
  | .l us, _, .l e m r => by rw [shU]; exact .l e (fun z => m (hm _ z)) (AtUs.sh hm hi r)
theorem AtUs.sh {B2 : Addr → Prop} {α2 : List Addr} {O2 : List DO} {f : Nat → Nat} (hm : ∀ a, Mu B2 α2 O2 a → Mu B α O a) (hi : ∀ k a, α[k]? = some a → α2[f k]? = some a) : ∀ {us : List U} {vs : List V}, AtUs G.K B α O H vs us → AtUs G.K B2 α2 O2 H vs (shUs f us)
  | [], _, .nil => by rw [shUs]; exact .nil
  | _ :: _, _, .cons a r => by rw [shUs]; exact .cons (AtU.sh hm hi a) (AtUs.sh hm hi r)
end

/-- what is lent: places of ours, in some order -/
structure Lent (α : List Addr) (O : List DO) (ks : List Nat) (L : List DO) : Prop where
  len : ks.length = L.length
  ok : ∀ (j k : Nat), ks[j]? = some k → ∃ o o', O[k]? = some o ∧ L[j]? = some o' ∧ live o = true ∧ live o' = true ∧ (hot o' = true → hot o = true) ∧ (o' = o ∨ ∃ ds, o = .lst ds ∧ o' = .brw ds)
theorem lendU_ok (w : Own G B α O H) : ∀ {us r : List U} {vs : List V} {ks : List Nat} {L : List DO} {f : Bool} {j0 : Nat}, lendU O f us j0 = some (r, ks, L) → AtUs G.K B α O H vs us → Lent α O ks L ∧
    ∀ (B2 : Addr → Prop) (α2 : List Addr) (O2 : List DO), (∀ a, Mu B2 α2 O2 a → Mu B α O a) → (∀ (i k : Nat) a, ks[i]? = some k → α[k]? = some a → α2[j0 + i]? = some a) → AtUs G.K B2 α2 O2 H vs r
  | [], r, [], ks, L, f, j0, e, a => by
    rw [lendU] at e
    cases e
    exact ⟨⟨rfl, fun j k e => by simp at e⟩, fun _ _ _ _ _ => .nil⟩
  | u :: us, r, _ :: vs, ks, L, f, j0, e, .cons au ar => by
    have cons1 : ∀ {k : Nat} {o o' : DO} {r' : List U} {ks' : List Nat} {L' : List DO} {vs' : List V} {p : Addr}, O[k]? = some o → live o = true → live o' = true → (hot o' = true → hot o = true) → (o' = o ∨ ∃ ds, o = .lst ds ∧ o' = .brw ds) → α[k]? = some p →
        (Lent α O ks' L' ∧ ∀ (B2 : Addr → Prop) (α2 : List Addr) (O2 : List DO), (∀ a, Mu B2 α2 O2 a → Mu B α O a) → (∀ (i k : Nat) a, ks'[i]? = some k → α[k]? = some a → α2[(j0 + 1) + i]? = some a) → AtUs G.K B2 α2 O2 H vs' r') →
        Lent α O (k :: ks') (o' :: L') ∧ ∀ (B2 : Addr → Prop) (α2 : List Addr) (O2 : List DO), (∀ a, Mu B2 α2 O2 a → Mu B α O a) → (∀ (i k' : Nat) a, (k :: ks')[i]? = some k' → α[k']? = some a → α2[j0 + i]? = some a) → AtUs G.K B2 α2 O2 H (.ref p :: vs') (.o j0 :: r') := by
      intro k o o' r' ks' L' vs' p h1 h2 h3 h4 h5 h6 ⟨ih1, ih2⟩
      refine ⟨⟨by rw [List.length_cons, List.length_cons, ih1.len], fun j k' e => ?_⟩, fun B2 α2 O2 hm hi => .cons (.o (hi 0 k p rfl h6)) (ih2 B2 α2 O2 hm fun i k' a e1 e2 => ?_)⟩
      · cases j with
        | zero =>
          cases e
          exact ⟨o, o', h1, rfl, h2, h3, h4, h5⟩
        | succ j =>
          obtain ⟨o1, o2, g⟩ := ih1.ok j k' (by simpa using e)
          exact ⟨o1, o2, g.1, by simpa using g.2.1, g.2.2⟩
      · have := hi (i + 1) k' a (by simpa using e1) e2
        rw [← this]
        congr 1
        omega
    have cons0 : ∀ {d : D} {r' : List U} {ks' : List Nat} {L' : List DO} {v : V} {vs' : List V}, At G.K (Mu B α O) H v d →
        (Lent α O ks' L' ∧ ∀ (B2 : Addr → Prop) (α2 : List Addr) (O2 : List DO), (∀ a, Mu B2 α2 O2 a → Mu B α O a) → (∀ (i k : Nat) a, ks'[i]? = some k → α[k]? = some a → α2[j0 + i]? = some a) → AtUs G.K B2 α2 O2 H vs' r') →
        Lent α O ks' L' ∧ ∀ (B2 : Addr → Prop) (α2 : List Addr) (O2 : List DO), (∀ a, Mu B2 α2 O2 a → Mu B α O a) → (∀ (i k' : Nat) a, ks'[i]? = some k' → α[k']? = some a → α2[j0 + i]? = some a) → AtUs G.K B2 α2 O2 H (v :: vs') (.d d :: r') := by
      intro d r' ks' L' v vs' ha ⟨ih1, ih2⟩
      exact ⟨ih1, fun B2 α2 O2 hm hi => .cons (.d (ha.less hm)) (ih2 B2 α2 O2 hm hi)⟩
    have dat : (match toD O u with
      | some d => (match lendU O false us j0 with
        | some (r, ks, L) => some (.d d :: r, ks, L)
        | none => none)
      | none => none) = some (r, ks, L) → Lent α O ks L ∧ ∀ (B2 : Addr → Prop) (α2 : List Addr) (O2 : List DO), (∀ a, Mu B2 α2 O2 a → Mu B α O a) → (∀ (i k : Nat) a, ks[i]? = some k → α[k]? = some a → α2[j0 + i]? = some a) → AtUs G.K B2 α2 O2 H _ r := fun e => by
      cases q : toD O u with
      | none => rw [q] at e; cases e
      | some d =>
        rw [q] at e
        cases q2 : lendU O false us j0 with
        | none => rw [q2] at e; cases e
        | some p =>
          rw [q2] at e
          obtain ⟨r', ks', L'⟩ := p
          cases e
          exact cons0 (At.of w au q) (lendU_ok w q2 ar)
    cases u with
    | d x => exact dat e
    | t x => exact dat e
    | l x => exact dat e
    | o k =>
      rw [lendU] at e
      cases au with
      | @o _ p ep =>
      rw [go_eq] at e
      cases q : O[k]? with
      | none => rw [q] at e; cases e
      | some o =>
        rw [q] at e
        cases o with
        | lst ds =>
          cases q2 : lendU O false us (j0 + 1) with
          | none => simp only [q2] at e; cases e
          | some t =>
            obtain ⟨r', ks', L'⟩ := t
            simp only [q2] at e
            cases e
            refine cons1 q rfl ?_ (fun _ => rfl) ?_ ep (lendU_ok w q2 ar)
            · cases f <;> rfl
            · cases f
              · exact .inr ⟨ds, rfl, rfl⟩
              · exact .inl rfl
        | brw ds =>
          cases q2 : lendU O false us (j0 + 1) with
          | none => simp only [q2] at e; cases e
          | some t =>
            obtain ⟨r', ks', L'⟩ := t
            simp only [q2] at e
            cases e
            exact cons1 q rfl rfl id (.inl rfl) ep (lendU_ok w q2 ar)
        | ob _ _ => cases e
        | frz ds =>
          cases q2 : lendU O false us j0 with
          | none => simp only [q2] at e; cases e
          | some t =>
            obtain ⟨r', ks', L'⟩ := t
            simp only [q2] at e
            cases e
            have h := w.at_ k p _ ep q
            exact cons0 h (lendU_ok w q2 ar)
/-- what comes back -/
theorem mrg_ok : ∀ {ks : List Nat} {L A O O2 : List DO}, mrg ks L A O = some O2 → ks.Nodup → (∀ k ∈ ks, k < O.length) →
    ∃ A0 rest M, A = A0 ++ rest ∧ A0.length = ks.length ∧ O2 = M ++ rest ∧ M.length = O.length ∧ (∀ i, i ∉ ks → M[i]? = O[i]?) ∧
      ∀ (j k : Nat), ks[j]? = some k → M[k]? = A0[j]? ∨ (M[k]? = O[k]? ∧ ∃ ds ds', L[j]? = some (.brw ds) ∧ A0[j]? = some (.brw ds'))
  | [], [], A, O, O2, e, _, _ => by
    rw [mrg] at e
    cases e
    exact ⟨[], A, O, rfl, rfl, rfl, rfl, fun _ _ => rfl, fun j k e => by simp at e⟩
  | [], _ :: _, A, O, O2, e, _, _ => by simp [mrg] at e
  | k :: ks, [], A, O, O2, e, _, _ => by simp [mrg] at e
  | k :: ks, .frz _ :: L, A, O, O2, e, _, _ => by simp [mrg] at e
  | k :: ks, .lst _ :: L, [], O, O2, e, _, _ => by simp [mrg] at e
  | k :: ks, .brw _ :: L, [], O, O2, e, _, _ => by simp [mrg] at e
  | k :: ks, .brw _ :: L, .lst _ :: A, O, O2, e, _, _ => by simp [mrg] at e
  | k :: ks, .brw _ :: L, .frz _ :: A, O, O2, e, _, _ => by simp [mrg] at e
  | k :: ks, .lst d0 :: L, a :: A, O, O2, e, nd, hk => by
    rw [mrg, so_eq] at e
    have nd' := List.nodup_cons.mp nd
    obtain ⟨A0, rest, M, h1, h2, h3, h4, h5, h6⟩ := mrg_ok e nd'.2 (fun k' hk' => by rw [List.length_set]; exact hk k' (List.mem_cons_of_mem _ hk'))
    refine ⟨a :: A0, rest, M, by rw [h1]; rfl, by rw [List.length_cons, h2]; rfl, h3, by rw [h4, List.length_set], fun i hi => ?_, fun j k' ej => ?_⟩
    · rw [h5 i (fun z => hi (List.mem_cons_of_mem _ z)), List.getElem?_set_ne (fun z => hi (by rw [z]; exact List.mem_cons_self))]
    · cases j with
      | zero =>
        have ej : k = k' := by simpa using ej
        subst ej
        left
        rw [h5 k nd'.1, List.getElem?_set_self (hk k List.mem_cons_self)]
        rfl
      | succ j =>
        have ej : ks[j]? = some k' := by simpa using ej
        have hne : k ≠ k' := fun z => nd'.1 (by rw [z]; exact List.mem_of_getElem? ej)
        rcases h6 j k' ej with g | ⟨g, ds, ds', g2, g3⟩
        · exact .inl (by rw [g]; simp)
        · exact .inr ⟨by rw [g, List.getElem?_set_ne hne], ds, ds', by simpa using g2, by simpa using g3⟩
  | k :: ks, .brw d0 :: L, .brw d1 :: A, O, O2, e, nd, hk => by
    rw [mrg] at e
    have nd' := List.nodup_cons.mp nd
    obtain ⟨A0, rest, M, h1, h2, h3, h4, h5, h6⟩ := mrg_ok e nd'.2 (fun k' hk' => hk k' (List.mem_cons_of_mem _ hk'))
    refine ⟨.brw d1 :: A0, rest, M, by rw [h1]; rfl, by rw [List.length_cons, h2]; rfl, h3, h4, fun i hi => h5 i (fun z => hi (List.mem_cons_of_mem _ z)), fun j k' ej => ?_⟩
    cases j with
    | zero =>
      have ej : k = k' := by simpa using ej
      subst ej
      exact .inr ⟨h5 k nd'.1, d0, d1, rfl, rfl⟩
    | succ j =>
      have ej : ks[j]? = some k' := by simpa using ej
      rcases h6 j k' ej with g | ⟨g, ds, ds', g2, g3⟩
      · exact .inl (by rw [g]; simp)
      · exact .inr ⟨g, ds, ds', by simpa using g2, by simpa using g3⟩
theorem ren_lt : ∀ {ks : List Nat} {n j k : Nat}, ks[j]? = some k → ren ks n j = k
  | [], _, _, _, h => by simp at h
  | _ :: _, _, 0, _, h => by simpa [ren] using h
  | _ :: ks, n, j + 1, k, h => by
    rw [ren]
    exact ren_lt (by simpa using h)
theorem ren_ge : ∀ {ks : List Nat} {n j : Nat}, ks.length ≤ j → ren ks n j = n + (j - ks.length)
  | [], _, _, _ => rfl
  | _ :: _, _, 0, h => by simp at h
  | _ :: ks, n, j + 1, h => by
    rw [ren, ren_ge (by simpa using h), List.length_cons]
    congr 1
    omega
/-- our places, those that are lent -/
def pick (α : List Addr) (ks : List Nat) : List Addr := ks.map fun k => α.getD k 0
theorem pick_at {α : List Addr} {ks : List Nat} {j k : Nat} {a : Addr} (h : ks[j]? = some k) (e : α[k]? = some a) : (pick α ks)[j]? = some a := by
  unfold pick
  rw [List.getElem?_map, h]
  show some (α.getD k 0) = some a
  rw [List.getD_eq_getElem?_getD, e]
  rfl
theorem call_key {ks : List Nat} {L : List DO} (w : Own G B α O H) (nd : ks.Nodup) (l : Lent α O ks L) : ∃ B' : Addr → Prop, Own G B' (pick α ks) L H ∧ (∀ b, Mu B' (pick α ks) L b → Mu B α O b) ∧
    ∀ {γ : List Addr} {N O2 : List DO} {H' : Hp}, mrg ks L N O = some O2 → Stp (pick α ks) L H γ N H' → Own G B' γ N H' → ∃ α2, Stp α O H α2 O2 H' ∧ Own G B α2 O2 H' ∧ (∀ b, Mu B α2 O2 b → Mu B' γ N b) ∧ (∀ (j : Nat) a, γ[j]? = some a → α2[ren ks O.length j]? = some a) := by
  have hk : ∀ (j k : Nat), ks[j]? = some k → ∃ a, α[k]? = some a ∧ (pick α ks)[j]? = some a := fun j k e => by
    obtain ⟨o, o', h1, _⟩ := l.ok j k e
    have hlt : k < α.length := by rw [w.len]; exact (List.getElem?_eq_some_iff.mp h1).1
    exact ⟨α[k], List.getElem?_eq_getElem hlt, pick_at e (List.getElem?_eq_getElem hlt)⟩
  have hpl : (pick α ks).length = ks.length := by unfold pick; rw [List.length_map]
  have hpk : ∀ (j : Nat) a, (pick α ks)[j]? = some a → ∃ k, ks[j]? = some k ∧ α[k]? = some a := fun j a e => by
    have hlt := (List.getElem?_eq_some_iff.mp e).1
    rw [hpl] at hlt
    have e1 : ks[j]? = some ks[j] := List.getElem?_eq_getElem hlt
    obtain ⟨b, h1, h2⟩ := hk j _ e1
    rw [e] at h2
    cases h2
    exact ⟨_, e1, h1⟩
  have hmem : ∀ a, a ∈ pick α ks → ∃ j k, ks[j]? = some k ∧ α[k]? = some a := fun a m => by
    obtain ⟨j, hj, e⟩ := List.mem_iff_getElem.mp m
    obtain ⟨k, h1, h2⟩ := hpk j a (by rw [List.getElem?_eq_getElem hj, e])
    exact ⟨j, k, h1, h2⟩
  have owp : ∀ a, a ∈ pick α ks → Ow α O a := fun a m => by
    obtain ⟨j, k, h1, h2⟩ := hmem a m
    obtain ⟨o, o', g1, _, g3, _⟩ := l.ok j k h1
    exact ⟨k, o, h2, g1, g3⟩
  have owL : ∀ a, a ∈ pick α ks → Ow (pick α ks) L a := fun a m => by
    obtain ⟨j, k, h1, h2⟩ := hmem a m
    obtain ⟨o, o', g1, g2, g3, g4, _⟩ := l.ok j k h1
    exact ⟨j, o', pick_at h1 h2, g2, g4⟩
  have owm : ∀ a, Ow (pick α ks) L a → a ∈ pick α ks := fun a ⟨j, o, e1, _⟩ => List.mem_of_getElem? e1
  have hoL : ∀ a, Ho (pick α ks) L a → Ho α O a := fun a ⟨j, o', e1, e2, h⟩ => by
    obtain ⟨k, h1, h2⟩ := hpk j a e1
    obtain ⟨o, o2, g1, g2, _, _, g5, _⟩ := l.ok j k h1
    rw [e2] at g2
    cases g2
    exact ⟨k, o, h2, g1, g5 h⟩
  obtain ⟨B', hB⟩ : ∃ B' : Addr → Prop, B' = fun b => Mu B α O b ∧ b ∉ pick α ks := ⟨_, rfl⟩
  have hm : ∀ b, Mu B' (pick α ks) L b → Mu B α O b := fun b m => by
    rw [hB] at m
    rcases m with m | m
    · exact m.1
    · exact .inr (owp b (owm b m))
  have ndp : (pick α ks).Nodup := by
    refine List.pairwise_iff_getElem.mpr fun i j hi hj hij e => ?_
    obtain ⟨k1, h1, h2⟩ := hpk i _ (List.getElem?_eq_getElem hi)
    obtain ⟨k2, h3, h4⟩ := hpk j _ (List.getElem?_eq_getElem hj)
    rw [← e] at h4
    have := nodup_at w.nd h2 h4
    subst this
    obtain ⟨a1, b1⟩ := List.getElem?_eq_some_iff.mp h1
    obtain ⟨a2, b2⟩ := List.getElem?_eq_some_iff.mp h3
    have := (List.getElem_inj nd).mp (b1.trans b2.symm)
    omega
  have W1 : Own G B' (pick α ks) L H := by
    refine ⟨by rw [hpl, l.len], ndp, fun j a o' e1 e2 => ?_, fun b m => ?_, fun b m z => ?_, w.tabs⟩
    · obtain ⟨k, h1, h2⟩ := hpk j a e1
      obtain ⟨o, o2, g1, g2, _, _, _, g6⟩ := l.ok j k h1
      rw [e2] at g2
      cases g2
      have h := (w.at_ k a o h2 g1).less hm
      rcases g6 with rfl | ⟨ds, rfl, rfl⟩
      · exact h
      · exact h
    · rw [hB] at m
      rcases m.1 with m | m
      · exact w.bt b m
      · exact m.some w
    · rw [hB] at z
      exact z.2 (owm b m)
  refine ⟨B', W1, hm, fun {γ N O2 H'} e s w' => ?_⟩
  obtain ⟨A0, rest, M, rfl, hA, rfl, hM, hMi, hMk⟩ := mrg_ok e nd fun k hk' => by
    obtain ⟨j, hj, ej⟩ := List.mem_iff_getElem.mp hk'
    obtain ⟨o, _, h1, _⟩ := l.ok j k (by rw [List.getElem?_eq_getElem hj, ej])
    exact (List.getElem?_eq_some_iff.mp h1).1
  obtain ⟨more, rfl⟩ := s.pre
  have hAp : A0.length = (pick α ks).length := by rw [hA, hpl]
  have hlm : more.length = rest.length := by
    have := w'.len
    rw [List.length_append, List.length_append] at this
    omega
  have hMα : α.length = M.length := by rw [hM]; exact w.len
  have nf : ∀ b, b ∈ more → H b = none := fun b hb => by
    rcases s.fresh b (List.mem_append_right _ hb) with z | z
    · have := (List.nodup_append.mp w'.nd).2.2 b z b hb
      exact absurd rfl this
    · exact z
  -- places of the new state
  have here : ∀ (i : Nat) (a : Addr) (o : DO), (α ++ more)[i]? = some a → (M ++ rest)[i]? = some o →
      (i ∉ ks ∧ α[i]? = some a ∧ O[i]? = some o ∧ a ∉ pick α ks) ∨
      (∃ j : Nat, ks[j]? = some i ∧ α[i]? = some a ∧ (pick α ks ++ more)[j]? = some a ∧ (A0 ++ rest)[j]? = some o) ∨
      (∃ j : Nat, ks[j]? = some i ∧ α[i]? = some a ∧ O[i]? = some o ∧ ∃ ds ds', L[j]? = some (DO.brw ds) ∧ (pick α ks ++ more)[j]? = some a ∧ (A0 ++ rest)[j]? = some (DO.brw ds')) ∨
      (∃ j : Nat, (pick α ks ++ more)[j]? = some a ∧ (A0 ++ rest)[j]? = some o ∧ a ∈ more) := by
    intro i a o e1 e2
    by_cases hi : i < α.length
    · rw [List.getElem?_append_left hi] at e1
      rw [List.getElem?_append_left (by rw [← hMα]; exact hi)] at e2
      by_cases hk' : i ∈ ks
      · obtain ⟨j, hj, ej⟩ := List.mem_iff_getElem.mp hk'
        have ej : ks[j]? = some i := by rw [List.getElem?_eq_getElem hj, ej]
        have hjp : j < (pick α ks).length := by rw [hpl]; exact hj
        have p1 : (pick α ks ++ more)[j]? = some a := by rw [List.getElem?_append_left hjp]; exact pick_at ej e1
        rcases hMk j i ej with g | ⟨g, ds, ds', g2, g3⟩
        · refine .inr (.inl ⟨j, ej, e1, p1, ?_⟩)
          rw [List.getElem?_append_left (by rw [hAp]; exact hjp), ← g]
          exact e2
        · refine .inr (.inr (.inl ⟨j, ej, e1, by rw [← g]; exact e2, ds, ds', g2, p1, ?_⟩))
          rw [List.getElem?_append_left (by rw [hAp]; exact hjp)]
          exact g3
      · refine .inl ⟨hk', e1, by rw [← hMi i hk']; exact e2, fun m => ?_⟩
        obtain ⟨j, k, h1, h2⟩ := hmem a m
        exact hk' (by rw [nodup_at w.nd e1 h2]; exact List.mem_of_getElem? h1)
    · rw [List.getElem?_append_right (by omega)] at e1
      rw [List.getElem?_append_right (by omega), ← hMα] at e2
      refine .inr (.inr (.inr ⟨(pick α ks).length + (i - α.length), ?_, ?_, List.mem_of_getElem? e1⟩))
      · rw [List.getElem?_append_right (by omega), show (pick α ks).length + (i - α.length) - (pick α ks).length = i - α.length by omega]; exact e1
      · rw [List.getElem?_append_right (by omega), show (pick α ks).length + (i - α.length) - A0.length = i - α.length by omega]; exact e2
  have nL : ∀ b, ¬ Ho α O b → ¬ Ho (pick α ks) L b := fun b m z => m (hoL b z)
  have S : Stp α O H (α ++ more) (M ++ rest) H' := by
    refine ⟨⟨more, rfl⟩, fun b o e m n => s.keep b o e (nL b m) n, s.there, fun b ⟨i, o, e1, e2, lo⟩ => ?_, fun b ⟨i, o, e1, e2, lo⟩ => ?_, fun b m => ?_⟩
    · rcases here i b o e1 e2 with ⟨_, g1, g2, _⟩ | ⟨j, _, g1, g2, g3⟩ | ⟨j, _, g1, g2, _⟩ | ⟨j, g1, g2, g3⟩
      · exact .inl ⟨i, o, g1, g2, lo⟩
      · rcases s.new b ⟨j, o, g2, g3, lo⟩ with z | z
        · exact .inl (owp b (owm b z))
        · exact .inr z
      · exact .inl ⟨i, o, g1, g2, lo⟩
      · exact .inr (nf b g3)
    · rcases here i b o e1 e2 with ⟨_, g1, g2, _⟩ | ⟨j, _, g1, g2, g3⟩ | ⟨j, _, g1, g2, _⟩ | ⟨j, g1, g2, g3⟩
      · exact .inl ⟨i, o, g1, g2, lo⟩
      · rcases s.hnew b ⟨j, o, g2, g3, lo⟩ with z | z
        · exact .inl (hoL b z)
        · exact .inr z
      · exact .inl ⟨i, o, g1, g2, lo⟩
      · exact .inr (nf b g3)
    · rcases List.mem_append.mp m with m | m
      · exact .inl m
      · exact .inr (nf b m)
  have hm2 : ∀ b, Mu B (α ++ more) (M ++ rest) b → Mu B' (pick α ks ++ more) (A0 ++ rest) b := fun b m => by
    rcases m with m | ⟨i, o, e1, e2, lo⟩
    · exact .inl (by rw [hB]; exact ⟨.inl m, fun z => w.nb b (owp b z) m⟩)
    · rcases here i b o e1 e2 with ⟨_, g1, g2, g3⟩ | ⟨j, _, g1, g2, g3⟩ | ⟨j, _, g1, g2, ds, ds', _, g4, g5⟩ | ⟨j, g1, g2, g3⟩
      · exact .inl (by rw [hB]; exact ⟨.inr ⟨i, o, g1, g2, lo⟩, g3⟩)
      · exact .inr ⟨j, o, g2, g3, lo⟩
      · exact .inr ⟨j, _, g4, g5, rfl⟩
      · exact .inr ⟨j, o, g1, g2, lo⟩
  have same : ∀ (i : Nat) (a : Addr) (o : DO), α[i]? = some a → O[i]? = some o → live o = true → ¬ Ho (pick α ks) L a → H' a = H a := fun i a o e1 e2 lo nh => by
    obtain ⟨q, e⟩ := Ow.some w ⟨i, o, e1, e2, lo⟩
    rw [e]
    refine s.keep a q e nh fun ps z => ?_
    have h := w.at_ i a o e1 e2
    cases o with
    | lst ds =>
      obtain ⟨vs, h, _⟩ := h
      rw [e, z] at h; cases h
    | brw ds =>
      obtain ⟨vs, h, _⟩ := h
      rw [e, z] at h; cases h
    | ob _ _ =>
      obtain ⟨_, _, h, _⟩ := h
      rw [e, z] at h; cases h
    | frz ds => cases lo
  have W2 : Own G B (α ++ more) (M ++ rest) H' := by
    refine ⟨by rw [List.length_append, List.length_append, hMα, hlm], ?_, fun i a o e1 e2 => ?_, fun b m => ?_, fun b ⟨i, o, e1, e2, lo⟩ => ?_, w'.tabs⟩
    · rw [List.nodup_append]
      refine ⟨w.nd, (List.nodup_append.mp w'.nd).2.1, fun x hx y hy z => ?_⟩
      obtain ⟨o, q⟩ := w.tracked hx
      rw [z, nf y hy] at q; cases q
    · rcases here i a o e1 e2 with ⟨_, g1, g2, g3⟩ | ⟨j, _, g1, g2, g3⟩ | ⟨j, hj, g1, g2, ds, ds', gL, g4, g5⟩ | ⟨j, g1, g2, g3⟩
      · exact (w.at_ i a o g1 g2).stp S fun lo => same i a o g1 g2 lo fun z => g3 (owm a z.ow)
      · exact (w'.at_ j a o g2 g3).less hm2
      · refine (w.at_ i a o g1 g2).stp S fun lo => same i a o g1 g2 lo fun ⟨j', o', z1, z2, z3⟩ => ?_
        have : (pick α ks)[j]? = some a := pick_at hj g1
        have := nodup_at ndp z1 this
        subst this
        rw [gL] at z2
        cases z2
        cases z3
      · exact (w'.at_ j a o g1 g2).less hm2
    · obtain ⟨o, e⟩ := w.bt b m
      cases q : H' b with
      | some o => exact ⟨o, rfl⟩
      | none => rw [s.there b q] at e; cases e
    · rcases here i b o e1 e2 with ⟨_, g1, g2, g3⟩ | ⟨j, _, g1, g2, g3⟩ | ⟨j, _, g1, g2, _⟩ | ⟨j, g1, g2, g3⟩
      · exact w.nb b ⟨i, o, g1, g2, lo⟩
      · obtain ⟨o1, _, k1, _, k3, _⟩ := l.ok j i (by assumption)
        exact w.nb b ⟨i, o1, g1, k1, k3⟩
      · exact w.nb b ⟨i, o, g1, g2, lo⟩
      · intro z
        obtain ⟨q, e⟩ := w.bt b z
        rw [nf b g3] at e; cases e
  refine ⟨α ++ more, S, W2, hm2, fun j a e => ?_⟩
  by_cases hj : j < (pick α ks).length
  · rw [List.getElem?_append_left hj] at e
    obtain ⟨k, h1, h2⟩ := hpk j a e
    rw [ren_lt h1, List.getElem?_append_left (List.getElem?_eq_some_iff.mp h2).1]
    exact h2
  · rw [List.getElem?_append_right (by omega)] at e
    rw [ren_ge (by omega), ← w.len, List.getElem?_append_right (by omega), show α.length + (j - ks.length) - α.length = j - ks.length by omega, ← hpl]
    exact e
/-- a call by data is a call -/
theorem call_low {P : ZSp} {us : List U} {vs : List V} {Q0 : U → List DO → Prop} {Q : VK} (w : Own G B α O H) (a : AtUs G.K B α O H vs us) (h : callZ P us O Q0 E0)
    (hq : ∀ u O', Q0 u O' → ∀ α' v H', Stp α O H α' O' H' → Own G B α' O' H' → AtU G.K B α' O' H' v u → Q v H') (he : ELow G B W0 α O H E0) : lowSp G P vs H Q W0 := by
  obtain ⟨r, ks, L, e, nd, h⟩ := h
  obtain ⟨l, hr⟩ := lendU_ok w e a
  obtain ⟨B', W1, hm, key⟩ := call_key w nd l
  refine ⟨B', pick α ks, L, r, _, _, W1, hr B' _ L hm fun i k a e1 e2 => by rw [Nat.zero_add]; exact pick_at e1 e2, h, fun u N q γ v H' s w' a' => ?_, fun x N q γ cls dd H' s w' a' => ?_⟩
  · obtain ⟨O2, e2, q⟩ := q
    obtain ⟨α2, S, W2, hm2, hi⟩ := key e2 s w'
    exact hq _ _ q _ _ _ S W2 (a'.sh hm2 hi)
  · obtain ⟨O2, e2, q⟩ := q
    obtain ⟨α2, S, W2, hm2, hi⟩ := key e2 s w'
    have S3 := stp_take S w
    have W3 := own_take W2 α.length
    rw [S3.2] at W3
    have S3 := S3.1
    rw [w.len] at S3 W3
    refine he x _ q α cls dd H' S3 W3 ?_
    obtain ⟨h1, dx, fs, h2, h3, h4, h5, h6⟩ := a'
    have hm3 : ∀ b, Mu B α (O2.take O.length) b → Mu B' γ N b := fun b m => hm2 b (by
      rcases m with m | ⟨j, o, e1, e2, lo⟩
      · exact .inl m
      · obtain ⟨mm, e⟩ := S.pre
        refine .inr ⟨j, o, ?_, take_some e2, lo⟩
        rw [e, List.getElem?_append_left (List.getElem?_eq_some_iff.mp e1).1]; exact e1)
    exact ⟨h1, dx, fs, h2, h3, fun m => h4 (hm3 _ m), h5, h6.less hm3⟩
end
end Z

set_option Elab.async false
set_option linter.all false
set_option maxRecDepth 100000
set_option maxHeartbeats 4000000
namespace Z
open PySem PySem.Spec PyProof.Rows L2

/-- a promise by the values in the order in which they are written, ks the names of the keywords behind -/
def FnRK (P : Program) (w : World) (K : PySem.W.Frag) (mg : Str → Option Value) (base : Heap) (k : Nat) (f : Addr) (ks : List Str) (sp : Sp) : Prop :=
  ∀ (A : Around) (outer : List Env) (s : Shared) (H : Hp) (us ws : List Value) (vs zs : List V) (Q : VK) (E : XK), Room k A → Env0 P w K mg base A outer s H → Vals vs us → Vals zs ws → ws.length = ks.length → sp (vs ++ zs) H Q E →
    codeAny (model P w) A (.call (.ref f) ⟨us, ks.zip ws⟩) (CR (L2.CX P w) outer P w H s Q E) s
theorem FnRK.mono {P : Program} {w : World} {K : PySem.W.Frag} {mg : Str → Option Value} {base : Heap} {j k : Nat} {f : Addr} {ks : List Str} {sp : Sp} (h : FnRK P w K mg base j f ks sp) (l : j ≤ k) : FnRK P w K mg base k f ks sp :=
  fun A outer s H us ws vs zs Q E hr => h A outer s H us ws vs zs Q E (hr.mono l)
theorem FnRK.imp {P : Program} {w : World} {K : PySem.W.Frag} {mg : Str → Option Value} {base : Heap} {k : Nat} {f : Addr} {ks : List Str} {sp sp' : Sp} (h : FnRK P w K mg base k f ks sp) (l : ∀ vs H Q E, sp' vs H Q E → sp vs H Q E) : FnRK P w K mg base k f ks sp' :=
  fun A outer s H us ws vs zs Q E hr e0 r1 r2 hl q => h A outer s H us ws vs zs Q E hr e0 r1 r2 hl (l _ _ _ _ q)
theorem FnRK.of {P : Program} {w : World} {K : PySem.W.Frag} {mg : Str → Option Value} {base : Heap} {k : Nat} {f : Addr} {fd : FuncData} {ps : List Str} {sp : Sp} {ds : List Value} {dvs : List V} (F : FnOk P w K mg base (L2.CX P w) k f fd ps sp) (hb : Binds K fd ps ds) (hd : Vals dvs ds) :
    FnRK P w K mg base k f [] (fun vs H Q E => sp (vs ++ dvs) H Q E) := by
  intro A outer s H us ws vs zs Q E hr e0 r1 r2 hl q
  cases ws with
  | cons _ _ => cases hl
  | nil =>
    cases r2
    rw [List.append_nil] at q
    exact F.raw hb hd A outer s H us vs Q E hr e0 r1 q
def FnX (P : Program) (w : World) (K : PySem.W.Frag) (mg : Str → Option Value) (base : Heap) (G : Gx) (k : Nat) (x : Fk) (S : ZSp) : Prop :=
  (mkd x.2 = false ∧ ∃ f, mg x.1 = some (.ref f) ∧ PySem.W.keepIn K (.ref f) = true ∧ FnRK P w K mg base k f x.2 (lowSp G S)) ∨
  (∃ c f ks j, x.2 = mDot :: c :: ks ∧ Meth K (He.ga K c) x.1 f ∧ j + 1 ≤ k ∧ FnRK P w K mg base j f ks (lowSp G S)) ∨
  (∃ f al ks j, x.2 = mAt :: (al ++ mDot :: ks) ∧ mDot ∉ al ∧ mg x.1 = some (.ref (He.ga K x.1)) ∧ Mk K (He.ga K x.1) f ∧ OkC K x.1 al ∧ j + 1 ≤ k ∧ FnRK P w K mg base j f ks (lowSp G S))
section
variable {P : Program} {w : World} {K : PySem.W.Frag} {mg : Str → Option Value} {base : Heap} {G : Gx} {j k : Nat} {x : Fk} {S T : ZSp}
theorem FnX.glo (h : FnX P w K mg base G k x S) (hk : mkd x.2 = false) : ∃ f, mg x.1 = some (.ref f) ∧ PySem.W.keepIn K (.ref f) = true ∧ FnRK P w K mg base k f x.2 (lowSp G S) := by
  rcases h with h | ⟨c, f, ks, j, e, _⟩ | ⟨f, al, ks, j, e, _⟩
  · exact h.2
  · rw [e] at hk; exact absurd hk (by rw [mkd]; decide)
  · rw [e] at hk; exact absurd hk (by rw [mkd]; decide)
theorem FnX.met {m c : Str} {ks : List Str} (h : FnX P w K mg base G k (m, mDot :: c :: ks) S) : ∃ f, Meth K (He.ga K c) m f ∧ FnRK P w K mg base k f ks (lowSp G S) := by
  rcases h with h | ⟨c', f, ks', j, e, h1, hj, h2⟩ | ⟨f, al, ks', j, e, _⟩
  · exact absurd h.1 (by show ¬ mkd _ = false; rw [mkd]; decide)
  · cases e; exact ⟨f, h1, h2.mono (by omega)⟩
  · exact absurd (List.cons.inj e).1 (by decide)
theorem FnX.met1 {m c : Str} {ks : List Str} (h : FnX P w K mg base G k (m, mDot :: c :: ks) S) : ∃ f j, j + 1 ≤ k ∧ Meth K (He.ga K c) m f ∧ FnRK P w K mg base j f ks (lowSp G S) := by
  rcases h with h | ⟨c', f, ks', j, e, h1, hj, h2⟩ | ⟨f, al, ks', j, e, _⟩
  · exact absurd h.1 (by show ¬ mkd _ = false; rw [mkd]; decide)
  · cases e; exact ⟨f, j, hj, h1, h2⟩
  · exact absurd (List.cons.inj e).1 (by decide)
theorem app_dot {d : Str} : ∀ {a b ks ls : List Str}, d ∉ a → d ∉ b → a ++ d :: ks = b ++ d :: ls → a = b ∧ ks = ls
  | [], [], _, _, _, _, h => ⟨rfl, (List.cons.inj h).2⟩
  | [], y :: b, _, _, _, h2, h => absurd (List.cons.inj h).1 (fun e => h2 (by rw [e]; exact List.mem_cons_self))
  | x :: a, [], _, _, h1, _, h => absurd (List.cons.inj h).1 (fun e => h1 (by rw [e]; exact List.mem_cons_self))
  | x :: a, y :: b, _, _, h1, h2, h => by
    obtain ⟨e1, e2⟩ := List.cons.inj h
    obtain ⟨e3, e4⟩ := app_dot (fun m => h1 (List.mem_cons_of_mem _ m)) (fun m => h2 (List.mem_cons_of_mem _ m)) e2
    exact ⟨by rw [e1, e3], e4⟩
theorem FnX.mk {c : Str} {al ks : List Str} (h : FnX P w K mg base G k (c, mAt :: (al ++ mDot :: ks)) S) (ha : mDot ∉ al) : ∃ f j, mg c = some (.ref (He.ga K c)) ∧ Mk K (He.ga K c) f ∧ OkC K c al ∧ j + 1 ≤ k ∧ FnRK P w K mg base j f ks (lowSp G S) := by
  rcases h with h | ⟨c', f, ks', j, e, h1, _, h2⟩ | ⟨f, al', ks', j, e, h0, h1, h2, h3, h4, h5⟩
  · exact absurd h.1 (by show ¬ mkd _ = false; rw [mkd]; decide)
  · exact absurd (List.cons.inj e).1 (by decide)
  · obtain ⟨rfl, rfl⟩ := app_dot ha h0 (List.cons.inj e).2
    exact ⟨f, j, h1, h2, h3, h4, h5⟩
theorem FnX.mono (h : FnX P w K mg base G j x S) (l : j ≤ k) : FnX P w K mg base G k x S := by
  rcases h with ⟨h0, f, h1, h2, h3⟩ | ⟨c, f, ks, i, e, h1, hj, h2⟩ | ⟨f, al, ks, i, e, g1, h1, h2, h3, h4, h5⟩
  · exact .inl ⟨h0, f, h1, h2, h3.mono l⟩
  · exact .inr (.inl ⟨c, f, ks, i, e, h1, by omega, h2⟩)
  · exact .inr (.inr ⟨f, al, ks, i, e, g1, h1, h2, h3, by omega, h5⟩)
theorem lowSp_mono {G : Gx} {P S : ZSp} (h : ∀ us O Q E, P us O Q E → S us O Q E) {vs : List V} {H : Hp} {Q : VK} {E : XK} : lowSp G P vs H Q E → lowSp G S vs H Q E :=
  fun ⟨B, α, O, us, Q0, E0, ow, ha, p, r⟩ => ⟨B, α, O, us, Q0, E0, ow, ha, h _ _ _ _ p, r⟩
/-- a lesser promise -/
theorem FnX.weak (h : FnX P w K mg base G k x S) (l : ∀ us O Q E, T us O Q E → S us O Q E) : FnX P w K mg base G k x T := by
  rcases h with ⟨h0, f, h1, h2, h3⟩ | ⟨c, f, ks, i, e, h1, hj, h2⟩ | ⟨f, al, ks, i, e, g1, h1, h2, h3, h4, h5⟩
  · exact .inl ⟨h0, f, h1, h2, h3.imp fun _ _ _ _ z => lowSp_mono l z⟩
  · exact .inr (.inl ⟨c, f, ks, i, e, h1, hj, h2.imp fun _ _ _ _ z => lowSp_mono l z⟩)
  · exact .inr (.inr ⟨f, al, ks, i, e, g1, h1, h2, h3, h4, h5.imp fun _ _ _ _ z => lowSp_mono l z⟩)
end
/-- the def x keeps the promise P -/
def FnK (X : Cx) (G : Gx) (k : Nat) (x : Fk) (P : ZSp) : Prop := FnX X.prog X.w X.K X.mg X.base G k x P
def bnames : List Str := ["len", "abs", "int", "list", "tuple", "sum", "all", "any", "min", "max", "isinstance", "range", "enumerate", "zip", "reversed", "bool", "str", "dict", "sorted", "repr"]
/-! ### errors that are made -/
def initFs (ws : List V) : List (Str × XSrc) → Option (List (Str × V))
  | [] => some []
  | (f, .arg i) :: r => (match ws[i]?, initFs ws r with
    | some v, some fs => some ((f, v) :: fs)
    | _, _ => none)
  | (f, .str z) :: r => (match initFs ws r with
    | some fs => some ((f, .str z) :: fs)
    | none => none)
structure InitH (H : Hp) (a dx C : Addr) (fs : List (Str × V)) (H' : Hp) : Prop where
  ea : H' a = some (exo a C (some dx))
  ed : H' dx = some (exd dx fs)
  all : ∀ b, b ≠ a → b ≠ dx → H' b = H b
/-- what __init__ of such a class does -/
def initSp (C : Addr) (e : XcD) : Sp := fun vs H Q _ => ∃ a ws fs, vs = .ref a :: ws ∧ ws.length = e.n ∧ initFs ws e.fl = some fs ∧ H a = some (exo a C none) ∧ ∀ dx H', H dx = none → InitH H a dx C fs.reverse H' → Q .non H'
structure XcF (P : Program) (w : World) (K : PySem.W.Frag) (mg : Str → Option Value) (base : Heap) (e : XcD) : Prop where
  T : OexC K (He.ga K e.nm)
  hm : mg e.nm = some (.ref (He.ga K e.nm))
  ini : ∃ fI fd ps, PySem.W.findIn K (.ref (He.ga K e.nm)) "__init__" = some (some (.ref fI)) ∧ PySem.W.typeIn K (.ref fI) = some (.type "function") ∧ FnOk P w K mg base (L2.CX P w) 1 fI fd ps (initSp (He.ga K e.nm) e) ∧ Binds K fd ps []
  n : e.n ≤ 1000
  ok : OkX K e.nm (e.fl.map (·.1))
/-- the lambdas of a def: its code object, the code's table -/
def LamF (X : Cx) (G : Gx) : Prop := ∃ c P, LamX.TabB X.base X.mg c P ∧ X.env.code = .ref c ∧ (P, X.env.qual ++ "<lambda>") ∈ G.T ∧ ∀ p ∈ G.T, p.1 = P → p.2 = X.env.qual ++ "<lambda>"
structure Good (X : Cx) (G : Gx) (W0 : XK) (k : Nat) (S : Sx) (Γ : List (Fk × ZSp)) : Prop where
  hN : X.N = S.N
  nd : X.N.Nodup
  sc : X.env.scope = S.sc
  calm : X.calm = true
  hK : X.K = G.K
  takes : Takes X fun c d _ H => W0 c d H
  rm : Room (if S.lam = true then k + 3 else k) X.A
  fns : ∀ (i : Nat) (x : Fk) (P : ZSp), Γ[i]? = some (x, P) → FnK X G k x P
  free : ∀ x ∈ bnames, X.mg x = none
  sto : ∀ x, ownB S.so x = true → Loc X.env.scope x ∧ (X.fn x = true ∨ X.env.scope.names.lookup x = some .local)
  gi : ∀ p ∈ S.gi, ∃ t, X.mg p.1 = some (.int p.2 t)
  gs : ∀ p ∈ S.gs, ∃ t, X.mg p.1 = some (.str p.2 t)
  xs : ∀ e ∈ S.xs, XcF X.prog X.w X.K X.mg X.base e
  mkx : S.mkx = true → Room 2 X.A
  lam : S.lam = true → LamF X G ∧ AskE X.K X.mg S.ex S.isd ∧ X.stack = X.env :: X.outer
theorem Good.room {X : Cx} {G : Gx} {W0 : XK} {k : Nat} {S : Sx} {Γ : List (Fk × ZSp)} (g : Good X G W0 k S Γ) : Room k X.A := g.rm.mono (by split <;> omega)
def LfO (G : Gx) (W0 : XK) (t : ZE) : TO := fun σ H Q => ∃ B α ρ O Q0 E0, Rep G B α σ H ρ O ∧ t E0 ρ O Q0 ∧
  (∀ us O', Q0 us O' → ∃ l, ((us = [] ∧ l = none) ∨ ∃ i, us = [.d (.int i)] ∧ l = some i) ∧ ∀ α' H', Stp α O H α' O' H' → Own G B α' O' H' → Q l H') ∧ ELow G B W0 α O H E0
/-- what a loop walks, by data -/
structure WalkD (G : Gx) (B : Addr → Prop) (α : List Addr) (O : List DO) (H : Hp) (J : It) (ds : List D) : Prop where
  ex : ∃ Gd Yy, L2.Walk J ds.length Gd Yy ∧
    ∀ (B2 : Addr → Prop) (α2 : List Addr) (O2 : List DO) (H2 : Hp), (∀ b, Mu B2 α2 O2 b → Mu B α O b ∨ H b = none) → (∀ b o, H b = some o → ¬ Ho α O b → (∀ ps, o ≠ .tbl ps) → H2 b = some o) → Own G B2 α2 O2 H2 →
      Gd H2 ∧ ∀ (i : Nat) x H3, i < ds.length → Yy i H2 x H3 → ∃ d, ds[i]? = some d ∧ (H3 = H2 ∨ ∃ p vs, H2 p = none ∧ H3 = upd H2 p (.tup vs)) ∧ At G.K (Mu B2 α2 O2) H3 x d
def LfI (G : Gx) (W0 : XK) (t : ZE) : TI := fun σ H R => ∃ B α ρ O Q0 E0, Rep G B α σ H ρ O ∧ t E0 ρ O Q0 ∧
  (∀ us O', Q0 us O' → ∃ ds, us = List.map U.d ds ∧ ∀ α' H' J, Stp α O H α' O' H' → Own G B α' O' H' → WalkD G B α' O' H' J ds → R J H') ∧ ELow G B W0 α O H E0
theorem pi_imp {X : Cx} {tg e : Expr} {t t' : TI} (h : PI X tg e t) (i : ∀ σ H Q, t' σ H Q → t σ H Q) : PI X tg e t' := ⟨fun pins s σ H Q I q => h.run pins s σ H Q I (i σ H Q q)⟩
theorem po_imp {X : Cx} {e : Option Expr} {t t' : TO} (h : PO X e t) (i : ∀ σ H Q, t' σ H Q → t σ H Q) : PO X e t' := ⟨fun pins s σ H Q I q => h.run pins s σ H Q I (i σ H Q q)⟩

structure Sd (G : Gx) (k : Nat) (Γ : List (Fk × ZSp)) (z : Y) : Prop where
  E : ∀ X W0 S, Good X G W0 k S Γ → ∀ e, (ck (Γ.map (·.1)) z S).E e = true → SE X G W0 e (vc Γ z)
  T : ∀ X W0 S, Good X G W0 k S Γ → ∀ e, (ck (Γ.map (·.1)) z S).T e = true → ST X G W0 e (vc Γ z)
  W : ∀ X W0 S, Good X G W0 k S Γ → ∀ op xs p, (ck (Γ.map (·.1)) z S).T (.BoolOp op xs p) = true → PW X (.BoolOp op xs p) (LfT G W0 (vc Γ z))
  A : ∀ X W0 S, Good X G W0 k S Γ → ∀ es, (ck (Γ.map (·.1)) z S).A es = true → SA X G W0 es (vc Γ z)
  I : ∀ X W0 S, Good X G W0 k S Γ → ∀ tg e, (ck (Γ.map (·.1)) z S).I tg e = true → PI X tg e (LfI G W0 (vc Γ z))
  O : ∀ X W0 S, Good X G W0 k S Γ → ∀ e, (ck (Γ.map (·.1)) z S).O e = true → PO X e (LfO G W0 (vc Γ z))

section
variable {G : Gx} {B : Addr → Prop} {α : List Addr} {O : List DO} {H : Hp} {σ : L2.St} {ρ : List (Option U)} {W0 : XK} {E0 : ZX} {t : ZE}
theorem oneK_of {us : List U} {k : U → Prop} (h : oneK us k) : ∃ u, us = [u] ∧ k u := by
  unfold oneK at h
  split at h
  · exact ⟨_, rfl, h⟩
  · exact h.elim
theorem boolK_of {us : List U} {k : Bool → Prop} (h : boolK us k) : ∃ b, us = [.d (.bl b)] ∧ k b := by
  unfold boolK at h
  split at h
  · exact ⟨_, rfl, h⟩
  · exact h.elim
theorem nrK_of {u : U} {k : D → Prop} (h : nrK O u k) : ∃ x, nrm O u = some x ∧ k x := by
  unfold nrK at h
  split at h
  · exact ⟨_, by assumption, h⟩
  · exact h.elim
theorem toK_of {u : U} {k : D → Prop} (h : toK O u k) : ∃ x, toD O u = some x ∧ k x := by
  unfold toK at h
  split at h
  · exact ⟨_, by assumption, h⟩
  · exact h.elim
theorem tosK_of {us : List U} {k : List D → Prop} (h : tosK O us k) : ∃ x, toDs O us = some x ∧ k x := by
  unfold tosK at h
  split at h
  · exact ⟨_, by assumption, h⟩
  · exact h.elim
theorem nrsK_of {us : List U} {k : List D → Prop} (h : nrsK O us k) : ∃ x, nrs O us = some x ∧ k x := by
  unfold nrsK at h
  split at h
  · exact ⟨_, by assumption, h⟩
  · exact h.elim
theorem seqE {F : U → List DO → Prop} {Q : VK} (R : Rep G B α σ H ρ O) (h : t E0 ρ O fun us O1 => oneK us fun u => F u O1) (he : ELow G B W0 α O H E0)
    (k : ∀ u O1, F u O1 → ∀ α1 v H1, Stp α O H α1 O1 H1 → Own G B α1 O1 H1 → AtU G.K B α1 O1 H1 v u → Q v H1) : LfE G W0 t σ H Q :=
  ⟨B, α, ρ, O, _, E0, R, h, fun us O1 q => by
    obtain ⟨u, e, q⟩ := oneK_of q
    exact ⟨u, e, k u O1 q⟩, he⟩
theorem seqB {F : Bool → List DO → Prop} {Q : VK} (R : Rep G B α σ H ρ O) (h : t E0 ρ O fun us O1 => boolK us fun u => F u O1) (he : ELow G B W0 α O H E0)
    (k : ∀ b O1, F b O1 → ∀ α1 H1, Stp α O H α1 O1 H1 → Own G B α1 O1 H1 → Q (.bl b) H1) : LfE G W0 t σ H Q :=
  ⟨B, α, ρ, O, _, E0, R, h, fun us O1 q => by
    obtain ⟨b, e, q⟩ := boolK_of q
    refine ⟨_, e, fun α1 v H1 s w a => ?_⟩
    cases a with
    | d a => cases a; exact k b O1 q α1 H1 s w, he⟩
theorem seqT {F : Bool → List DO → Prop} {Q : Bool → Hp → Prop} (R : Rep G B α σ H ρ O) (h : t E0 ρ O fun us O1 => boolK us fun u => F u O1) (he : ELow G B W0 α O H E0)
    (k : ∀ b O1, F b O1 → ∀ α1 H1, Stp α O H α1 O1 H1 → Own G B α1 O1 H1 → Q b H1) : LfT G W0 t σ H Q :=
  ⟨B, α, ρ, O, _, E0, R, h, fun us O1 q => by
    obtain ⟨b, e, q⟩ := boolK_of q
    exact ⟨_, e, k b O1 q⟩, he⟩
theorem seqA {F : List U → List DO → Prop} {Q : List V → Hp → Prop} (R : Rep G B α σ H ρ O) (h : t E0 ρ O F) (he : ELow G B W0 α O H E0)
    (k : ∀ us O1, F us O1 → ∀ α1 vs H1, Stp α O H α1 O1 H1 → Own G B α1 O1 H1 → AtUs G.K B α1 O1 H1 vs us → Q vs H1) : LfA G W0 t σ H Q :=
  ⟨B, α, ρ, O, F, E0, R, h, k, he⟩
/-- the end: a value -/
theorem QLow.to {Q0 : ZQ} {Q : VK} (hq : QLow G B α O H Q0 Q) {u : U} {O' : List DO} (h : Q0 [u] O') {α' : List Addr} {v : V} {H' : Hp} (s : Stp α O H α' O' H') (w : Own G B α' O' H') (a : AtU G.K B α' O' H' v u) : Q v H' := by
  obtain ⟨u', e, k⟩ := hq _ _ h
  cases e
  exact k α' v H' s w a
theorem QLow.stp {Q0 : ZQ} {Q : VK} (hq : QLow G B α O H Q0 Q) {α' : List Addr} {O' : List DO} {H' : Hp} (s : Stp α O H α' O' H') : QLow G B α' O' H' Q0 Q := fun us O2 h =>
  let ⟨u, e, k⟩ := hq us O2 h; ⟨u, e, fun α2 v H2 s2 w a => k α2 v H2 (s.trans s2) w a⟩
theorem BLow.stp {Q0 : ZQ} {Q : Bool → Hp → Prop} (hq : BLow G B α O H Q0 Q) {α' : List Addr} {O' : List DO} {H' : Hp} (s : Stp α O H α' O' H') : BLow G B α' O' H' Q0 Q := fun us O2 h =>
  let ⟨u, e, k⟩ := hq us O2 h; ⟨u, e, fun α2 H2 s2 w => k α2 H2 (s.trans s2) w⟩
theorem BLow.to {Q0 : ZQ} {Q : Bool → Hp → Prop} (hq : BLow G B α O H Q0 Q) {b : Bool} {O' : List DO} (h : Q0 [.d (.bl b)] O') {α' : List Addr} {H' : Hp} (s : Stp α O H α' O' H') (w : Own G B α' O' H') : Q b H' := by
  obtain ⟨u', e, k⟩ := hq _ _ h
  cases e
  exact k α' H' s w
/-- a test by its value -/
theorem st_of {X : Cx} {e : Expr} (h : SE X G W0 e t) (p : plainT e = true) : ST X G W0 e t := by
  have he : ∀ whole, isTrue e X.env whole = (do let v ← whole; standAt e.pos; holding [v] (truthy v)) := by
    intro whole
    cases e with
    | UnaryOp op a pos => cases op <;> first | rfl | cases p
    | BoolOp _ _ _ => cases p
    | IfExp _ _ _ _ => cases p
    | Compare _ _ _ _ => cases p
    | _ => rfl
  refine pt_imp (pt_truth h he) fun σ H Q ⟨B, α, ρ, O, Q0, E0, R, h, hq, hl⟩ => ⟨B, α, ρ, O, Q0, E0, R, h, fun us O' q => ?_, hl⟩
  obtain ⟨b, e, k⟩ := hq us O' q
  refine ⟨_, e, fun α' v H' s w a => ?_⟩
  cases a with
  | d a => cases a; exact ⟨b, rfl, k α' H' s w⟩
end
section
variable {G : Gx} {k : Nat} {Γ : List (Fk × ZSp)} {z : Y}
theorem Sd.ofE (f : Sx → Expr → Bool) (hf : ∀ S, ck (Γ.map (·.1)) z S = cE (f S)) (h : ∀ X W0 S, Good X G W0 k S Γ → ∀ e, f S e = true → SE X G W0 e (vc Γ z)) : Sd G k Γ z where
  E := fun X W0 S g e c => h X W0 S g e (by rw [hf S] at c; exact c)
  T := fun X W0 S g e c => by
    rw [hf S] at c
    have c' : (plainT e && f S e) = true := c
    rw [Bool.and_eq_true] at c'
    exact st_of (h X W0 S g e c'.2) c'.1
  W := fun X W0 S g op xs p c => by
    rw [hf S] at c
    have c' : (false && f S (.BoolOp op xs p)) = true := c
    cases c'
  A := fun X W0 S g es c => by rw [hf S] at c; cases c
  I := fun X W0 S g tg e c => by rw [hf S] at c; cases c
  O := fun X W0 S g e c => by rw [hf S] at c; cases c
end
theorem ba {a b : Bool} (h : (a && b) = true) : a = true ∧ b = true := Bool.and_eq_true_iff.mp h
theorem vis_of {sc : Scope} {x : Str} (h : visB sc x = true) : Vis sc x := by
  unfold visB at h
  split at h
  · exact .inl (by assumption)
  · exact .inr (.inl (by assumption))
  · exact .inr (.inr (by assumption))
  · cases h
theorem okn_of {x : Str} (h : oknB x = true) : (x == ("__debug__" : Str)) = false ∧ (x == ("__classdict__" : Str)) = false := by
  obtain ⟨a, b⟩ := ba h
  exact ⟨by simpa using a, by simpa using b⟩
section
variable {G : Gx} {k : Nat} {Γ : List (Fk × ZSp)}
theorem pe_name {X : Cx} {W0 : XK} {S : Sx} (g : Good X G W0 k S Γ) {x : Str} {i : Nat} {pos : Pos} (c : (decide (S.N[i]? = some x) && visB S.sc x && oknB x) = true) : PE X (.Name x pos) (tVar i) := by
  obtain ⟨c1, c3⟩ := ba c
  obtain ⟨c1, c2⟩ := ba c1
  exact pe_var (by rw [g.hN]; exact of_decide_eq_true c1) (by rw [g.sc]; exact vis_of c2) (okn_of c3).1 (okn_of c3).2
theorem sd_var (i : Nat) : Sd G k Γ (.var i) := .ofE _ (fun _ => rfl) fun X W0 S g e c => by
  split at c
  · refine pe_imp (pe_name g c) fun σ H Q ⟨B, α, ρ, O, Q0, E0, R, h, hq, hl⟩ => ?_
    have h' : (match gt ρ i with | some u => Q0 [u] O | none => False) := h
    cases q : gt ρ i with
    | none => rw [q] at h'; exact h'.elim
    | some u =>
      rw [q] at h'
      obtain ⟨v, e, a⟩ := R.vars i u q
      exact ⟨v, e, hq.to h' Stp.refl R.own a⟩
  · cases c
theorem sd_int (i : Int) : Sd G k Γ (.int i) := .ofE _ (fun _ => rfl) fun X W0 S g e c => by
  split at c
  · rw [of_decide_eq_true c]
    exact pe_imp pe_int fun σ H Q ⟨B, α, ρ, O, Q0, E0, R, h, hq, hl⟩ => hq.to h Stp.refl R.own (.d (.int _))
  · cases c
theorem sd_bl (i : Bool) : Sd G k Γ (.bl i) := .ofE _ (fun _ => rfl) fun X W0 S g e c => by
  split at c
  · rw [of_decide_eq_true c]
    exact pe_imp pe_bl fun σ H Q ⟨B, α, ρ, O, Q0, E0, R, h, hq, hl⟩ => hq.to h Stp.refl R.own (.d (.bl _))
  · cases c
theorem sd_non : Sd G k Γ .non := .ofE _ (fun _ => rfl) fun X W0 S g e c => by
  split at c
  · exact pe_imp pe_non fun σ H Q ⟨B, α, ρ, O, Q0, E0, R, h, hq, hl⟩ => hq.to h Stp.refl R.own (.d .non)
  · cases c
theorem sd_str (i : Str) : Sd G k Γ (.str i) := .ofE _ (fun _ => rfl) fun X W0 S g e c => by
  split at c
  · rw [of_decide_eq_true c]
    exact pe_imp pe_str fun σ H Q ⟨B, α, ρ, O, Q0, E0, R, h, hq, hl⟩ => hq.to h Stp.refl R.own (.d (.str _))
  · cases c
theorem sd_gint (y : Str) (i : Int) : Sd G k Γ (.gint y i) := .ofE _ (fun _ => rfl) fun X W0 S g e c => by
  split at c
  · obtain ⟨c, c4⟩ := ba c
    obtain ⟨c, c3⟩ := ba c
    obtain ⟨c1, c2⟩ := ba c
    cases of_decide_eq_true c1
    obtain ⟨t, hm⟩ := g.gi _ (of_decide_eq_true c2)
    have hg : Gl X y := by
      have h' := of_decide_eq_true c3
      rw [← g.sc] at h'
      exact h'
    refine ⟨fun pins s σ H Q I ⟨B, α, ρ, O, Q0, E0, R, h, hq, hl⟩ => ld_glob I hg hm ⟨.int i, H, I, ⟨t, rfl⟩, hq.to h Stp.refl R.own (.d (.int _))⟩ (okn_of c4).1⟩
  · cases c
theorem sd_gstr (y z : Str) : Sd G k Γ (.gstr y z) := .ofE _ (fun _ => rfl) fun X W0 S g e c => by
  split at c
  · obtain ⟨c, c4⟩ := ba c
    obtain ⟨c, c3⟩ := ba c
    obtain ⟨c1, c2⟩ := ba c
    cases of_decide_eq_true c1
    obtain ⟨t, hm⟩ := g.gs _ (of_decide_eq_true c2)
    have hg : Gl X y := by
      have h' := of_decide_eq_true c3
      rw [← g.sc] at h'
      exact h'
    refine ⟨fun pins s σ H Q I ⟨B, α, ρ, O, Q0, E0, R, h, hq, hl⟩ => ld_glob I hg hm ⟨.str z, H, I, ⟨t, rfl⟩, hq.to h Stp.refl R.own (.d (.str _))⟩ (okn_of c4).1⟩
  · cases c
theorem sd_none (z : Y) (h : ∀ S, ck (Γ.map (·.1)) z S = {}) : Sd G k Γ z where
  E := fun X W0 S g e c => by rw [h S] at c; cases c
  T := fun X W0 S g e c => by rw [h S] at c; cases c
  W := fun X W0 S g op xs p c => by rw [h S] at c; cases c
  A := fun X W0 S g es c => by rw [h S] at c; cases c
  I := fun X W0 S g tg e c => by rw [h S] at c; cases c
  O := fun X W0 S g e c => by rw [h S] at c; cases c
/-- two operands -/
theorem seq2 {W0 : XK} {ta tb : ZE} {B : Addr → Prop} {α : List Addr} {O : List DO} {H : Hp} {σ : L2.St} {ρ : List (Option U)} {E0 : ZX} {F : U → U → List DO → Prop} {Q : V → V → Hp → Prop} (R : Rep G B α σ H ρ O)
    (h : ta E0 ρ O fun us O1 => oneK us fun u => tb E0 ρ O1 fun ws O2 => oneK ws fun w => F u w O2) (he : ELow G B W0 α O H E0)
    (kk : ∀ u w O2, F u w O2 → ∀ α2 v v2 H2, Stp α O H α2 O2 H2 → Own G B α2 O2 H2 → AtU G.K B α2 O2 H2 v u → AtU G.K B α2 O2 H2 v2 w → Q v v2 H2) :
    LfE G W0 ta σ H fun v H1 => LfE G W0 tb σ H1 fun v2 H2 => Q v v2 H2 :=
  seqE R h he fun u O1 f α1 v H1 s1 w1 a1 => seqE (R.stp s1 w1) f (he.stp s1) fun w O2 f2 α2 v2 H2 s2 w2 a2 => kk u w O2 f2 α2 v v2 H2 (s1.trans s2) w2 (s2.atU a1) a2
theorem sd_bin (op : Operator) {a b : Y} (da : Sd G k Γ a) (db : Sd G k Γ b) : Sd G k Γ (.bin op a b) := .ofE _ (fun _ => rfl) fun X W0 S g e c => by
  split at c
  · obtain ⟨c, c3⟩ := ba c
    obtain ⟨c1, c2⟩ := ba c
    rw [← of_decide_eq_true c1]
    refine pe_imp (pe_op (opr_bin g.hK op) (da.E X W0 S g _ c2) (db.E X W0 S g _ c3)) fun σ H Q ⟨B, α, ρ, O, Q0, E0, R, h, hq, hl⟩ => ?_
    refine seq2 R h hl fun u w O2 f α2 v v2 H2 s2 w2 a1 a2 => ?_
    obtain ⟨x, e1, f⟩ := nrK_of f
    obtain ⟨y, e2, f⟩ := nrK_of f
    exact ⟨B, α2, O2, x, y, _, w2, Vw.of w2 a1 e1, Vw.of w2 a2 e2, f, fun z q v' H' s' w' a' => hq.to q (s2.trans s') w' (.d a')⟩
  · cases c
theorem sd_fdq {a b : Y} (da : Sd G k Γ a) (db : Sd G k Γ b) : Sd G k Γ (.fdq a b) := .ofE _ (fun _ => rfl) fun X W0 S g e c => by
  split at c
  · obtain ⟨c, c3⟩ := ba c
    obtain ⟨c1, c2⟩ := ba c
    rw [← of_decide_eq_true c1]
    refine pe_imp (pe_op (opr_fdq g.hK) (da.E X W0 S g _ c2) (db.E X W0 S g _ c3)) fun σ H Q ⟨B, α, ρ, O, Q0, E0, R, h, hq, hl⟩ => ?_
    refine seq2 R h hl fun u w O2 f α2 v v2 H2 s2 w2 a1 a2 => ?_
    obtain ⟨x, e1, f⟩ := nrK_of f
    obtain ⟨y, e2, f⟩ := nrK_of f
    exact ⟨B, α2, O2, x, y, _, w2, Vw.of w2 a1 e1, Vw.of w2 a2 e2, f, fun z q v' H' s' w' a' => hq.to q (s2.trans s') w' (.d a')⟩
  · cases c
theorem sd_neg {a : Y} (da : Sd G k Γ a) : Sd G k Γ (.neg a) := .ofE _ (fun _ => rfl) fun X W0 S g e c => by
  split at c
  · refine pe_imp (pe_un un_neg (da.E X W0 S g _ c)) fun σ H Q ⟨B, α, ρ, O, Q0, E0, R, h, hq, hl⟩ => ?_
    refine seqE R h hl fun u O1 f α1 v H1 s1 w1 a1 => ?_
    obtain ⟨x, e1, f⟩ := nrK_of f
    have av := Vw.of w1 a1 e1
    cases x with
    | int i =>
      obtain rfl := av.int
      exact ⟨i, rfl, hq.to f s1 w1 (.d (.int _))⟩
    | _ => exact f.elim
  · cases c
theorem marks_of {op : CmpOp} {r : Expr} (h : noSet r = true) : behindInMarks op r = false := by
  cases r <;> first | rfl | cases h
theorem sd_cmp (op : CmpOp) {a b : Y} (da : Sd G k Γ a) (db : Sd G k Γ b) : Sd G k Γ (.cmp op a b) where
  E := fun X W0 S g e c => by
    have c' : cmpC op (ck (Γ.map (·.1)) a S).E (ck (Γ.map (·.1)) b S).E e = true := c
    unfold cmpC at c'
    split at c'
    · obtain ⟨c, c4⟩ := ba c'
      obtain ⟨c, c3⟩ := ba c
      obtain ⟨c1, c2⟩ := ba c
      rw [← of_decide_eq_true c1]
      refine pe_imp (pe_cmpR (opc_all g.room.units g.hK op) (da.E X W0 S g _ c2) (db.E X W0 S g _ c3) (marks_of c4)) fun σ H Q ⟨B, α, ρ, O, Q0, E0, R, h, hq, hl⟩ => ?_
      refine seq2 R h hl fun u w O2 f α2 v v2 H2 s2 w2 a1 a2 => ?_
      obtain ⟨x, e1, f⟩ := nrK_of f
      obtain ⟨y, e2, f⟩ := nrK_of f
      exact ⟨B, α2, O2, x, y, _, w2, Vw.of w2 a1 e1, Vw.of w2 a2 e2, f, fun t q => hq.to q s2 w2 (.d (.bl _))⟩
    · cases c'
  T := fun X W0 S g e c => by
    have c' : cmpC op (ck (Γ.map (·.1)) a S).E (ck (Γ.map (·.1)) b S).E e = true := c
    unfold cmpC at c'
    split at c'
    · obtain ⟨c, c4⟩ := ba c'
      obtain ⟨c, c3⟩ := ba c
      obtain ⟨c1, c2⟩ := ba c
      rw [← of_decide_eq_true c1]
      refine pt_imp (pt_cmpR (opc_all g.room.units g.hK op) (da.E X W0 S g _ c2) (db.E X W0 S g _ c3) (marks_of c4)) fun σ H Q ⟨B, α, ρ, O, Q0, E0, R, h, hq, hl⟩ => ?_
      refine seq2 R h hl fun u w O2 f α2 v v2 H2 s2 w2 a1 a2 => ?_
      obtain ⟨x, e1, f⟩ := nrK_of f
      obtain ⟨y, e2, f⟩ := nrK_of f
      exact ⟨B, α2, O2, x, y, _, w2, Vw.of w2 a1 e1, Vw.of w2 a2 e2, f, fun t q => ⟨t, rfl, hq.to q s2 w2⟩⟩
    · cases c'
  W := fun X W0 S g op xs p c => by cases c
  A := fun X W0 S g es c => by cases c
  I := fun X W0 S g tg e c => by cases c
  O := fun X W0 S g e c => by cases c
/-- a op b op c, the reading -/
theorem chain_low {o p : CmpOp} {X : Cx} {W0 : XK} {a b c : Y} {σ : L2.St} {H : Hp} {Q : VK} {B : Addr → Prop} {α : List Addr} {ρ : List (Option U)} {O : List DO} {Q0 : ZQ} {E0 : ZX} (hK : X.K = G.K) (R : Rep G B α σ H ρ O) (h : vc Γ (.chain o p a b c) E0 ρ O Q0)
    (hq : ∀ b O', Q0 [.d (.bl b)] O' → ∀ α' H', Stp α O H α' O' H' → Own G B α' O' H' → Q (.bl b) H') (hl : ELow G B W0 α O H E0) : tChain (rC G (cmpD o)) (rC G (cmpD p)) (LfE G W0 (vc Γ a)) (LfE G W0 (vc Γ b)) (LfE G W0 (vc Γ c)) σ H Q := by
  refine seq2 R h hl fun u w O2 f α2 v v2 H2 s2 w2 a1 a2 => ?_
  obtain ⟨x, e1, f⟩ := nrK_of f
  obtain ⟨y, e2, f⟩ := nrK_of f
  refine ⟨B, α2, O2, x, y, _, w2, Vw.of w2 a1 e1, Vw.of w2 a2 e2, f, fun t f => ⟨t, rfl, ?_⟩⟩
  cases t with
  | true =>
    rw [if_pos rfl]
    refine seqE (R.stp s2 w2) (f.1 rfl) (hl.stp s2) fun u3 O3 f3 α3 v3 H3 s3 w3 a3 => ?_
    obtain ⟨y2, e3, f3⟩ := nrK_of f3
    obtain ⟨z, e4, f3⟩ := nrK_of f3
    exact ⟨B, α3, O3, y2, z, _, w3, Vw.of w3 (s3.atU a2) e3, Vw.of w3 a3 e4, f3, fun t q => hq t O3 q α3 H3 (s2.trans s3) w3⟩
  | false =>
    rw [if_neg (by decide)]
    exact hq false O2 (f.2 rfl) α2 H2 s2 w2
theorem sd_chain (o p : CmpOp) {a b c : Y} (da : Sd G k Γ a) (db : Sd G k Γ b) (dc : Sd G k Γ c) : Sd G k Γ (.chain o p a b c) where
  E := fun X W0 S g e ch => by
    have c' : chainC o p (ck (Γ.map (·.1)) a S).E (ck (Γ.map (·.1)) b S).E (ck (Γ.map (·.1)) c S).E e = true := ch
    unfold chainC at c'
    split at c'
    · obtain ⟨c', c7⟩ := ba c'
      obtain ⟨c', c6⟩ := ba c'
      obtain ⟨c', c5⟩ := ba c'
      obtain ⟨c', c4⟩ := ba c'
      obtain ⟨c', c3⟩ := ba c'
      obtain ⟨c1, c2⟩ := ba c'
      rw [← of_decide_eq_true c1, ← of_decide_eq_true c2]
      refine pe_imp (pe_chain (opc_all g.room.units g.hK o) (opc_all g.room.units g.hK p) (da.E X W0 S g _ c3) (db.E X W0 S g _ c4) (dc.E X W0 S g _ c5) (marks_of c7)) fun σ H Q ⟨B, α, ρ, O, Q0, E0, R, h, hq, hl⟩ => ?_
      exact chain_low (X := X) g.hK R h (fun b O' q α' H' s w => hq.to q s w (.d (.bl _))) hl
    · cases c'
  T := fun X W0 S g e ch => by
    have c' : chainC o p (ck (Γ.map (·.1)) a S).E (ck (Γ.map (·.1)) b S).E (ck (Γ.map (·.1)) c S).E e = true := ch
    unfold chainC at c'
    split at c'
    · obtain ⟨c', c7⟩ := ba c'
      obtain ⟨c', c6⟩ := ba c'
      obtain ⟨c', c5⟩ := ba c'
      obtain ⟨c', c4⟩ := ba c'
      obtain ⟨c', c3⟩ := ba c'
      obtain ⟨c1, c2⟩ := ba c'
      rw [← of_decide_eq_true c1, ← of_decide_eq_true c2]
      refine pt_imp (pt_chain (opc_all g.room.units g.hK o) (opc_all g.room.units g.hK p) (da.E X W0 S g _ c3) (db.E X W0 S g _ c4) (dc.E X W0 S g _ c5) (marks_of c7)) fun σ H Q ⟨B, α, ρ, O, Q0, E0, R, h, hq, hl⟩ => ?_
      exact chain_low (X := X) g.hK R h (fun b O' q α' H' s w => ⟨b, rfl, hq.to q s w⟩) hl
    · cases c'
  W := fun X W0 S g op xs p c => by cases c
  A := fun X W0 S g es c => by cases c
  I := fun X W0 S g tg e c => by cases c
  O := fun X W0 S g e c => by cases c
theorem sd_not {a : Y} (da : Sd G k Γ a) : Sd G k Γ (.not a) where
  E := fun X W0 S g e c => by
    have c' : notC (ck (Γ.map (·.1)) a S).E e = true := c
    unfold notC at c'
    split at c'
    · refine pe_imp (pe_not (da.E X W0 S g _ c')) fun σ H Q ⟨B, α, ρ, O, Q0, E0, R, h, hq, hl⟩ => ?_
      exact seqB R h hl fun b O1 f α1 H1 s1 w1 => ⟨b, rfl, hq.to f s1 w1 (.d (.bl _))⟩
    · cases c'
  T := fun X W0 S g e c => by
    have c' : notC (ck (Γ.map (·.1)) a S).T e = true := c
    unfold notC at c'
    split at c'
    · refine pt_imp (pt_not (da.T X W0 S g _ c')) fun σ H Q ⟨B, α, ρ, O, Q0, E0, R, h, hq, hl⟩ => ?_
      exact seqT R h hl fun b O1 f α1 H1 s1 w1 => hq.to f s1 w1
    · cases c'
  W := fun X W0 S g op xs p c => by cases c
  A := fun X W0 S g es c => by cases c
  I := fun X W0 S g tg e c => by cases c
  O := fun X W0 S g e c => by cases c
theorem sd_one {a : Y} (da : Sd G k Γ a) : Sd G k Γ (.one a) where
  E := fun X W0 S g e c => by
    have c' : oneC (ck (Γ.map (·.1)) a S).E e = true := c
    unfold oneC at c'
    split at c'
    · exact pe_one (da.E X W0 S g _ c')
    · cases c'
  T := fun X W0 S g e c => by
    have c' : oneC (ck (Γ.map (·.1)) a S).T e = true := c
    unfold oneC at c'
    split at c'
    · rename_i op x p
      cases op with
      | And => exact (pw_and1 (da.T X W0 S g _ c')).pt
      | Or => exact (pw_or1 (da.T X W0 S g _ c')).pt
    · cases c'
  W := fun X W0 S g op xs p c => by
    have c' : oneC (ck (Γ.map (·.1)) a S).T (.BoolOp op xs p) = true := c
    unfold oneC at c'
    split at c'
    · rename_i e
      cases e
      cases op with
      | And => exact pw_and1 (da.T X W0 S g _ c')
      | Or => exact pw_or1 (da.T X W0 S g _ c')
    · cases c'
  A := fun X W0 S g es c => by cases c
  I := fun X W0 S g tg e c => by cases c
  O := fun X W0 S g e c => by cases c
theorem and_low {W0 : XK} {a b : Y} {σ : L2.St} {H : Hp} {Q : Bool → Hp → Prop} (h : LfT G W0 (vc Γ (.and a b)) σ H Q) : tAnd (LfT G W0 (vc Γ a)) (LfT G W0 (vc Γ b)) σ H Q := by
  obtain ⟨B, α, ρ, O, Q0, E0, R, h, hq, hl⟩ := h
  refine seqT R h hl fun t O1 f α1 H1 s1 w1 => ?_
  cases t with
  | true => rw [if_pos rfl]; exact ⟨B, α1, ρ, O1, Q0, E0, R.stp s1 w1, f.1 rfl, hq.stp s1, hl.stp s1⟩
  | false => rw [if_neg (by decide)]; exact hq.to (f.2 rfl) s1 w1
theorem or_low {W0 : XK} {a b : Y} {σ : L2.St} {H : Hp} {Q : Bool → Hp → Prop} (h : LfT G W0 (vc Γ (.or a b)) σ H Q) : tOr (LfT G W0 (vc Γ a)) (LfT G W0 (vc Γ b)) σ H Q := by
  obtain ⟨B, α, ρ, O, Q0, E0, R, h, hq, hl⟩ := h
  refine seqT R h hl fun t O1 f α1 H1 s1 w1 => ?_
  cases t with
  | true => rw [if_pos rfl]; exact hq.to (f.1 rfl) s1 w1
  | false => rw [if_neg (by decide)]; exact ⟨B, α1, ρ, O1, Q0, E0, R.stp s1 w1, f.2 rfl, hq.stp s1, hl.stp s1⟩
theorem sd_and {a b : Y} (da : Sd G k Γ a) (db : Sd G k Γ b) : Sd G k Γ (.and a b) where
  E := fun X W0 S g e c => by
    have c' : andC (ck (Γ.map (·.1)) a S).E (ck (Γ.map (·.1)) b S).E e = true := c
    unfold andC at c'
    split at c'
    · obtain ⟨c1, c2⟩ := ba c'
      refine pe_imp (pe_and (da.E X W0 S g _ c1) (db.E X W0 S g _ c2)) fun σ H Q ⟨B, α, ρ, O, Q0, E0, R, h, hq, hl⟩ => ?_
      refine seqB R h hl fun t O1 f α1 H1 s1 w1 => ⟨t, rfl, ?_⟩
      cases t with
      | true => rw [if_pos rfl]; exact ⟨B, α1, ρ, O1, Q0, E0, R.stp s1 w1, f.1 rfl, hq.stp s1, hl.stp s1⟩
      | false => rw [if_neg (by decide)]; exact hq.to (f.2 rfl) s1 w1 (.d (.bl _))
    · cases c'
  T := fun X W0 S g e c => by
    have c' : andC (ck (Γ.map (·.1)) a S).T (ck (Γ.map (·.1)) b S).T e = true := c
    unfold andC at c'
    split at c'
    · obtain ⟨c1, c2⟩ := ba c'
      exact pt_imp (pw_and (da.T X W0 S g _ c1) (db.W X W0 S g _ _ _ c2)).pt fun σ H Q h => and_low h
    · cases c'
  W := fun X W0 S g op xs p c => by
    have c' : andC (ck (Γ.map (·.1)) a S).T (ck (Γ.map (·.1)) b S).T (.BoolOp op xs p) = true := c
    unfold andC at c'
    split at c'
    · rename_i e
      cases e
      obtain ⟨c1, c2⟩ := ba c'
      exact pw_imp (pw_and (da.T X W0 S g _ c1) (db.W X W0 S g _ _ _ c2)) fun σ H Q h => and_low h
    · cases c'
  A := fun X W0 S g es c => by cases c
  I := fun X W0 S g tg e c => by cases c
  O := fun X W0 S g e c => by cases c
theorem sd_or {a b : Y} (da : Sd G k Γ a) (db : Sd G k Γ b) : Sd G k Γ (.or a b) where
  E := fun X W0 S g e c => by
    have c' : orC (ck (Γ.map (·.1)) a S).E (ck (Γ.map (·.1)) b S).E e = true := c
    unfold orC at c'
    split at c'
    · obtain ⟨c1, c2⟩ := ba c'
      refine pe_imp (pe_or (da.E X W0 S g _ c1) (db.E X W0 S g _ c2)) fun σ H Q ⟨B, α, ρ, O, Q0, E0, R, h, hq, hl⟩ => ?_
      refine seqB R h hl fun t O1 f α1 H1 s1 w1 => ⟨t, rfl, ?_⟩
      cases t with
      | true => rw [if_pos rfl]; exact hq.to (f.1 rfl) s1 w1 (.d (.bl _))
      | false => rw [if_neg (by decide)]; exact ⟨B, α1, ρ, O1, Q0, E0, R.stp s1 w1, f.2 rfl, hq.stp s1, hl.stp s1⟩
    · cases c'
  T := fun X W0 S g e c => by
    have c' : orC (ck (Γ.map (·.1)) a S).T (ck (Γ.map (·.1)) b S).T e = true := c
    unfold orC at c'
    split at c'
    · obtain ⟨c1, c2⟩ := ba c'
      exact pt_imp (pw_or (da.T X W0 S g _ c1) (db.W X W0 S g _ _ _ c2)).pt fun σ H Q h => or_low h
    · cases c'
  W := fun X W0 S g op xs p c => by
    have c' : orC (ck (Γ.map (·.1)) a S).T (ck (Γ.map (·.1)) b S).T (.BoolOp op xs p) = true := c
    unfold orC at c'
    split at c'
    · rename_i e
      cases e
      obtain ⟨c1, c2⟩ := ba c'
      exact pw_imp (pw_or (da.T X W0 S g _ c1) (db.W X W0 S g _ _ _ c2)) fun σ H Q h => or_low h
    · cases c'
  A := fun X W0 S g es c => by cases c
  I := fun X W0 S g tg e c => by cases c
  O := fun X W0 S g e c => by cases c
theorem sd_ite {c a b : Y} (dc : Sd G k Γ c) (da : Sd G k Γ a) (db : Sd G k Γ b) : Sd G k Γ (.ite c a b) where
  E := fun X W0 S g e ch => by
    have c' : iteC (ck (Γ.map (·.1)) c S).T (ck (Γ.map (·.1)) a S).E (ck (Γ.map (·.1)) b S).E e = true := ch
    unfold iteC at c'
    split at c'
    · obtain ⟨c', c3⟩ := ba c'
      obtain ⟨c1, c2⟩ := ba c'
      refine pe_imp (pe_ifExp (dc.T X W0 S g _ c1) (da.E X W0 S g _ c2) (db.E X W0 S g _ c3)) fun σ H Q ⟨B, α, ρ, O, Q0, E0, R, h, hq, hl⟩ => ?_
      refine seqT R h hl fun t O1 f α1 H1 s1 w1 => ?_
      cases t with
      | true => rw [if_pos rfl]; exact ⟨B, α1, ρ, O1, Q0, E0, R.stp s1 w1, f.1 rfl, hq.stp s1, hl.stp s1⟩
      | false => rw [if_neg (by decide)]; exact ⟨B, α1, ρ, O1, Q0, E0, R.stp s1 w1, f.2 rfl, hq.stp s1, hl.stp s1⟩
    · cases c'
  T := fun X W0 S g e c => by cases c
  W := fun X W0 S g op xs p c => by cases c
  A := fun X W0 S g es c => by cases c
  I := fun X W0 S g tg e c => by cases c
  O := fun X W0 S g e c => by cases c
theorem sd_nil : Sd G k Γ .nil where
  E := fun X W0 S g e c => by cases c
  T := fun X W0 S g e c => by cases c
  W := fun X W0 S g op xs p c => by cases c
  A := fun X W0 S g es c => by
    have c' : nilC es = true := c
    unfold nilC at c'
    split at c'
    · exact pa_imp pa_nil fun σ H Q ⟨B, α, ρ, O, Q0, E0, R, h, hq, hl⟩ => hq _ _ h _ _ _ Stp.refl R.own .nil
    · cases c'
  I := fun X W0 S g tg e c => by cases c
  O := fun X W0 S g e c => by cases c
theorem starEach_plain {e : Expr} {es : List Expr} {env : Env} (h : noStar e = true) : starEach (e :: es) env = (false, eval e env) :: starEach es env := by
  cases e <;> first | rfl | cases h
theorem sd_cons {a r : Y} (da : Sd G k Γ a) (dr : Sd G k Γ r) : Sd G k Γ (.cons a r) where
  E := fun X W0 S g e c => by cases c
  T := fun X W0 S g e c => by cases c
  W := fun X W0 S g op xs p c => by cases c
  A := fun X W0 S g es c => by
    have c' : consC (ck (Γ.map (·.1)) a S).E (ck (Γ.map (·.1)) r S).A es = true := c
    unfold consC at c'
    split at c'
    · obtain ⟨c', c3⟩ := ba c'
      obtain ⟨c1, c2⟩ := ba c'
      refine pa_imp (pa_cons (da.E X W0 S g _ c2) (dr.A X W0 S g _ c3) (starEach_plain c1)) fun σ H Q ⟨B, α, ρ, O, Q0, E0, R, h, hq, hl⟩ => ?_
      refine seqE R h hl fun u O1 f α1 v H1 s1 w1 a1 => ?_
      exact seqA (R.stp s1 w1) f (hl.stp s1) fun us O2 f2 α2 vs H2 s2 w2 a2 => hq _ _ f2 _ _ _ (s1.trans s2) w2 (.cons (s2.atU a1) a2)
    · cases c'
  I := fun X W0 S g tg e c => by cases c
  O := fun X W0 S g e c => by cases c
theorem sd_nop : Sd G k Γ .nop where
  E := fun X W0 S g e c => by cases c
  T := fun X W0 S g e c => by cases c
  W := fun X W0 S g op xs p c => by cases c
  A := fun X W0 S g es c => by cases c
  I := fun X W0 S g tg e c => by cases c
  O := fun X W0 S g e c => by
    have c' : nopC e = true := c
    unfold nopC at c'
    split at c'
    · refine po_imp po_none fun σ H Q ⟨B, α, ρ, O, Q0, E0, R, h, hq, hl⟩ => ?_
      obtain ⟨l, h1, h2⟩ := hq _ _ h
      rcases h1 with ⟨_, rfl⟩ | ⟨i, z, _⟩
      · exact h2 _ _ Stp.refl R.own
      · cases z
    · cases c'
theorem sd_sm {a : Y} (da : Sd G k Γ a) : Sd G k Γ (.sm a) where
  E := fun X W0 S g e c => by cases c
  T := fun X W0 S g e c => by cases c
  W := fun X W0 S g op xs p c => by cases c
  A := fun X W0 S g es c => by cases c
  I := fun X W0 S g tg e c => by cases c
  O := fun X W0 S g e c => by
    have c' : smC (ck (Γ.map (·.1)) a S).E e = true := c
    unfold smC at c'
    split at c'
    · refine po_imp (po_some (da.E X W0 S g _ c')) fun σ H Q ⟨B, α, ρ, O, Q0, E0, R, h, hq, hl⟩ => ?_
      refine seqE R h hl fun u O1 f α1 v H1 s1 w1 a1 => ?_
      obtain ⟨l, h1, h2⟩ := hq _ _ f
      rcases h1 with ⟨z, _⟩ | ⟨i, z, rfl⟩
      · cases z
      · cases z
        cases a1 with
        | d a => cases a; exact ⟨i, rfl, h2 _ _ s1 w1⟩
    · cases c'
end
end Z

set_option Elab.async false
set_option linter.all false
set_option maxRecDepth 100000
set_option maxHeartbeats 4000000
namespace Z
open PySem PySem.Spec PyProof.Rows L2
section
variable {G : Gx} {k : Nat} {Γ : List (Fk × ZSp)}
theorem sd_tup {es : Y} (de : Sd G k Γ es) : Sd G k Γ (.tup es) := .ofE _ (fun _ => rfl) fun X W0 S g e c => by
  split at c
  · refine pe_imp (pe_tup (de.A X W0 S g _ c)) fun σ H Q ⟨B, α, ρ, O, Q0, E0, R, h, hq, hl⟩ => ?_
    refine seqA R h hl fun us O1 f α1 vs H1 s1 w1 a1 => ?_
    obtain ⟨ds, e1, z, f⟩ := tosK_of f
    have r := Ats.of w1 a1 e1
    refine ⟨by rw [r.length]; exact z, fun p hp => hq.to f (s1.trans (stp_new hp)) (own_new w1 hp) (.d (At.tupNew w1 hp r))⟩
  · cases c
theorem sd_tupU {es : Y} (de : Sd G k Γ es) : Sd G k Γ (.tupU es) := .ofE _ (fun _ => rfl) fun X W0 S g e c => by
  split at c
  · refine pe_imp (pe_tup (de.A X W0 S g _ c)) fun σ H Q ⟨B, α, ρ, O, Q0, E0, R, h, hq, hl⟩ => ?_
    refine seqA R h hl fun us O1 f α1 vs H1 s1 w1 a1 => ?_
    refine ⟨by rw [a1.length]; exact f.1, fun p hp => hq.to f.2 (s1.trans (stp_new hp)) (own_new w1 hp) (.t upd_same (w1.mu_ne hp) ((stp_new hp).atUs a1))⟩
  · cases c
theorem AtUs.append {B : Addr → Prop} {α : List Addr} {O : List DO} {H : Hp} {K : PySem.W.Frag} : ∀ {vs ws : List V} {us us' : List U}, AtUs K B α O H vs us → AtUs K B α O H ws us' → AtUs K B α O H (vs ++ ws) (us ++ us')
  | _, _, _, _, .nil, s => s
  | _, _, _, _, .cons a r, s => .cons a (AtUs.append r s)
theorem Ats.atUs {B : Addr → Prop} {α : List Addr} {O : List DO} {H : Hp} {K : PySem.W.Frag} : ∀ {vs : List V} {ds : List D}, Ats K (Mu B α O) H vs ds → AtUs K B α O H vs (ds.map .d)
  | _, _, .nil => .nil
  | _, _, .cons a r => .cons (.d a) (Ats.atUs r)
theorem sd_star {a r : Y} (da : Sd G k Γ a) (dr : Sd G k Γ r) : Sd G k Γ (.star a r) where
  E := fun X W0 S g e c => by cases c
  T := fun X W0 S g e c => by cases c
  W := fun X W0 S g op xs p c => by cases c
  A := fun X W0 S g es c => by
    have c' : starC (ck (Γ.map (·.1)) a S).E (ck (Γ.map (·.1)) r S).A es = true := c
    unfold starC at c'
    split at c'
    · obtain ⟨c1, c2⟩ := ba c'
      refine pa_imp (StX.pa_star (da.E X W0 S g _ c1) (dr.A X W0 S g _ c2)) fun σ H Q ⟨B, α, ρ, O, Q0, E0, R, h, hq, hl⟩ => ?_
      refine seqE R h hl fun u O1 f α1 v H1 s1 w1 a1 => ?_
      obtain ⟨x, e1, f⟩ := nrK_of f
      have av := Vw.of w1 a1 e1
      have fin : ∀ {vs : List V} {ds : List D}, Ats G.K (Mu B α1 O1) H1 vs ds → (vc Γ r E0 ρ O1 fun ws O2 => Q0 (ds.map .d ++ ws) O2) → LfA G W0 (vc Γ r) σ H1 fun ws H2 => Q (vs ++ ws) H2 := fun {vs ds} ra f =>
        seqA (R.stp s1 w1) f (hl.stp s1) fun us O2 f2 α2 ws H2 s2 w2 a2 => hq _ _ f2 _ _ _ (s1.trans s2) w2 ((Ats.atUs (s2.ats ra)).append a2)
      cases x with
      | lst ds =>
        obtain ⟨p, vs, rfl, e, ra⟩ := av.lst
        exact ⟨p, vs, rfl, .inr (SqL.of e), fin ra f⟩
      | tup ds =>
        obtain ⟨p, vs, rfl, e, ra⟩ := av.tup
        exact ⟨p, vs, rfl, .inl (by rw [g.hK]; exact e), fin ra f⟩
      | _ => exact f.elim
    · cases c'
  I := fun X W0 S g tg e c => by cases c
  O := fun X W0 S g e c => by cases c
theorem newL_to {B : Addr → Prop} {α α1 : List Addr} {O O1 : List DO} {H H1 : Hp} {Q0 : ZQ} {Q : VK} (hq : QLow G B α O H Q0 Q) {own : Bool} {ds : List D} (f : newL own ds O1 Q0) (s1 : Stp α O H α1 O1 H1) (w1 : Own G B α1 O1 H1) {vs : List V} (r : Ats G.K (Mu B α1 O1) H1 vs ds) :
    ∀ p, H1 p = none → Q (.ref p) (upd H1 p (.lst vs)) := fun p hp => by
  cases own with
  | true => exact hq.to f (s1.trans (stp_own w1 hp)) (own_own w1 hp r) (.o (by rw [List.getElem?_append_right (by rw [w1.len]; exact Nat.le_refl _)]; rw [w1.len]; simp))
  | false => exact hq.to f (s1.trans (stp_new hp)) (own_new w1 hp) (.d (At.lstNew w1 hp r))
theorem sd_lst (own : Bool) {es : Y} (de : Sd G k Γ es) : Sd G k Γ (.lst own es) := .ofE _ (fun _ => rfl) fun X W0 S g e c => by
  split at c
  · refine pe_imp (pe_lst (de.A X W0 S g _ c)) fun σ H Q ⟨B, α, ρ, O, Q0, E0, R, h, hq, hl⟩ => ?_
    refine seqA R h hl fun us O1 f α1 vs H1 s1 w1 a1 => ?_
    obtain ⟨ds, e1, z, f⟩ := tosK_of f
    have r := Ats.of w1 a1 e1
    exact ⟨by rw [r.length]; exact z, newL_to hq f s1 w1 r⟩
  · cases c
theorem any_plain {pos : Pos} {env : Env} : ∀ {es : List Expr}, es.all noStar = true → (backTo pos (starEach es env)).any (·.1) = false
  | [], _ => rfl
  | e :: es, h => by
    rw [List.all_cons] at h
    obtain ⟨h1, h2⟩ := ba h
    rw [starEach_plain h1]
    show (false || (backTo pos (starEach es env)).any (·.1)) = false
    rw [any_plain h2]
    rfl
theorem glo_of {X : Cx} {W0 : XK} {S : Sx} (g : Good X G W0 k S Γ) {x : Str} (h : gloB S.sc x = true) : Gl X x := by
  have h' := of_decide_eq_true h
  show X.env.kindOf x = _
  rw [← g.sc] at h'
  exact h'
theorem pass_of {X : Cx} {W0 : XK} (t : Takes X fun c d _ H => W0 c d H) : Passes (L2.CX X.prog X.w) X W0 := passes_call t fun _ _ _ _ h => h
/-- a call by values, run -/
theorem run_fk {X : Cx} {W0 : XK} {f : Addr} {ks : List Str} {sp : Sp} {pins : List (Addr × Obj)} {σ : L2.St} {H : Hp} {s : Shared} {us ws : List Value} {vs zs : List V} {Q : VK} (F : FnRK X.prog X.w X.K X.mg X.base k f ks sp) (hr : Room k X.A) (hx : Passes (L2.CX X.prog X.w) X W0)
    (I : Inv X pins σ H s) (r1 : Vals vs us) (r2 : Vals zs ws) (hl : ws.length = ks.length) (h : sp (vs ++ zs) H Q W0) : wpAny (model X.prog X.w) X.A (call (.ref f) us (ks.zip ws)) (EP X pins σ Q) X.xe s := by
  refine wpAny_call (codeAny_mono (F X.A X.stack s H us ws vs zs Q W0 hr I.env0 r1 r2 hl h) fun r t hq => ?_)
  cases r with
  | error e => exact hx pins σ H s e t I hq
  | ok fl =>
    cases fl with
    | ret u => exact I.after hq
    | next => exact False.elim hq
    | brk => exact False.elim hq
    | cont => exact False.elim hq
theorem sd_call (i : Nat) {es : Y} (de : Sd G k Γ es) : Sd G k Γ (.call i es) := .ofE _ (fun _ => rfl) fun X W0 S g e c => by
  split at c
  · obtain ⟨c, c6⟩ := ba c
    obtain ⟨c, c5⟩ := ba c
    obtain ⟨c, c4⟩ := ba c
    obtain ⟨c, c3⟩ := ba c
    obtain ⟨c1, c2⟩ := ba c
    have c1 := of_decide_eq_true c1
    rw [List.getElem?_map] at c1
    cases q : Γ[i]? with
    | none => rw [q] at c1; cases c1
    | some p =>
      obtain ⟨⟨x, ks⟩, P⟩ := p
      rw [q] at c1
      have c1' := Option.some.inj c1
      cases c1'
      obtain ⟨f, hm, hk, F⟩ := FnX.glo (g.fns i _ P q) rfl
      refine ⟨fun pins s σ H Q I h => ?_⟩
      obtain ⟨B, α, ρ, O, Q0, E0, R, h, hq, hl⟩ := h
      have hA := seqA (W0 := W0) (t := vc Γ es) R h hl (Q := fun vs H1 => lowSp G P vs H1 Q W0) fun us O1 f α1 vs H1 s1 w1 a1 => by
        simp only [q] at f
        exact call_low w1 a1 f (fun u O' h0 α' v H' s' w' a' => hq.to h0 (s1.trans s') w' a') (hl.stp s1)
      refine wpAny_Call_Name_kw (ld_glob I (glo_of g c2) hm ?_ (okn_of c3).1)
      refine PySem.W.callWith_K (h₀ := X.base) I.ok.mod.kin hk (thn ((de.A X W0 S g _ c6).run _ pins s σ H _ I hA) fun us s1 ⟨vs, H1, I1, r, q1⟩ => ⟨I1.kIn, ?_⟩) (starEach_plain c4) (any_plain c5)
      exact run_fk (ks := []) (ws := []) (zs := []) F g.room (pass_of g.takes) I1 r .nil rfl (by rw [List.append_nil]; exact q1)
  · obtain ⟨c, c4⟩ := ba c
    obtain ⟨c, c3⟩ := ba c
    obtain ⟨c1, c2⟩ := ba c
    have c1 := of_decide_eq_true c1
    have en : es = .nil := by
      cases es <;> first | rfl | cases c4
    subst en
    rw [List.getElem?_map] at c1
    cases q : Γ[i]? with
    | none => rw [q] at c1; cases c1
    | some p =>
      obtain ⟨⟨x, ks⟩, P⟩ := p
      rw [q] at c1
      have c1' := Option.some.inj c1
      cases c1'
      obtain ⟨f, hm, hk, F⟩ := FnX.glo (g.fns i _ P q) rfl
      refine ⟨fun pins s σ H Q I h => ?_⟩
      obtain ⟨B, α, ρ, O, Q0, E0, R, h, hq, hl⟩ := h
      have f : (match Γ[i]? with
        | some (_, P) => callZ P [] O (fun u O2 => Q0 [u] O2) E0
        | none => False) := h
      simp only [q] at f
      refine wpAny_Call_Name_kw (ld_glob I (glo_of g c2) hm ?_ (okn_of c3).1)
      exact PySem.W.callWith_K0 I.kIn hk (run_fk (ks := []) (ws := []) (vs := []) (us := []) (zs := []) F g.room (pass_of g.takes) I .nil .nil rfl (call_low R.own .nil f (fun u O' h0 α' v H' s' w' a' => hq.to h0 s' w' a') hl))
  · cases c
/-- keywords -/
structure SdK (G : Gx) (k : Nat) (Γ : List (Fk × ZSp)) (z : Y) : Prop where
  K : ∀ X W0 S, Good X G W0 k S Γ → ∀ kws : List Keyword, (ck (Γ.map (·.1)) z S).A (kws.map (·.value)) = true → (kws.all fun k => noStar k.value) = true → PK X kws (LfA G W0 (vc Γ z))
theorem pk_imp {X : Cx} {e : List Keyword} {t t' : TA} (h : PK X e t) (i : ∀ σ H Q, t' σ H Q → t σ H Q) : PK X e t' := ⟨fun pos pins s σ H Q I q => h.run pos pins s σ H Q I (i σ H Q q)⟩
theorem sk_nil : SdK G k Γ .nil := ⟨fun X W0 S g kws c _ => by
  cases kws with
  | nil => exact pk_imp pk_nil fun σ H Q ⟨B, α, ρ, O, Q0, E0, R, h, hq, hl⟩ => hq _ _ h _ _ _ Stp.refl R.own .nil
  | cons _ _ => cases c⟩
theorem sk_cons {a r : Y} (da : Sd G k Γ a) (dr : SdK G k Γ r) : SdK G k Γ (.cons a r) := ⟨fun X W0 S g kws c n => by
  cases kws with
  | nil => cases c
  | cons w kws =>
    obtain ⟨nm, e, kp⟩ := w
    obtain ⟨c', c3⟩ := ba (show (noStar e && (ck (Γ.map (·.1)) a S).E e && (ck (Γ.map (·.1)) r S).A (kws.map (·.value))) = true from c)
    obtain ⟨c1, c2⟩ := ba c'
    rw [List.all_cons] at n
    refine pk_imp (pk_cons (da.E X W0 S g _ c2) (dr.K X W0 S g _ c3 (ba n).2)) fun σ H Q ⟨B, α, ρ, O, Q0, E0, R, h, hq, hl⟩ => ?_
    refine seqE R h hl fun u O1 f α1 v H1 s1 w1 a1 => ?_
    exact seqA (R.stp s1 w1) f (hl.stp s1) fun us O2 f2 α2 vs H2 s2 w2 a2 => hq _ _ f2 _ _ _ (s1.trans s2) w2 (.cons (s2.atU a1) a2)⟩
theorem sk_none {z : Y} (h : ∀ S es, es.all noStar = true → (ck (Γ.map (·.1)) z S).A es = false) : SdK G k Γ z := ⟨fun X W0 S g kws c n => by
  rw [h] at c
  · cases c
  · rw [List.all_map]; exact n⟩
theorem kw_mkd {f : List Expr → Bool} {kws : List Keyword} {ks : List Str} (c : kwC ks f kws = true) : mkd ks = false := by
  unfold kwC at c
  obtain ⟨c, _⟩ := ba c
  obtain ⟨c, _⟩ := ba c
  obtain ⟨c, _⟩ := ba c
  have := (ba c).1
  simpa using this
theorem kw_facts {f : List Expr → Bool} {kws : List Keyword} {ks : List Str} {pos : Pos} {env : Env} (c : kwC ks f kws = true) : (backToKw pos (keywordEach kws env)).all (·.1.isSome) = true ∧ (backToKw pos (keywordEach kws env)).filterMap (·.1) = ks ∧ (backToKw pos (keywordEach kws env)).any (·.1.isNone) = false ∧
    f (kws.map (·.value)) = true ∧ (kws.all fun k => noStar k.value) = true := by
  unfold kwC at c
  obtain ⟨c, c4⟩ := ba c
  obtain ⟨c, c3⟩ := ba c
  obtain ⟨c1, c2⟩ := ba c
  have c1 := (ba c1).2
  have key : ∀ l : List Keyword, (backToKw pos (keywordEach l env)).map (·.1) = l.map (·.arg) := fun l => by
    induction l with
    | nil => rfl
    | cons w l ih =>
      obtain ⟨nm, e, kp⟩ := w
      show nm :: (backToKw pos (keywordEach l env)).map (·.1) = nm :: l.map (·.arg)
      rw [ih]
  refine ⟨?_, ?_, ?_, c3, c4⟩
  · have e : (backToKw pos (keywordEach kws env)).all (·.1.isSome) = ((backToKw pos (keywordEach kws env)).map (·.1)).all (·.isSome) := by rw [List.all_map]; rfl
    rw [e, key, List.all_map]
    exact c1
  · have e : (backToKw pos (keywordEach kws env)).filterMap (·.1) = ((backToKw pos (keywordEach kws env)).map (·.1)).filterMap id := by rw [List.filterMap_map]; rfl
    rw [e, key, List.filterMap_map]
    exact of_decide_eq_true c2
  · have e : (backToKw pos (keywordEach kws env)).any (·.1.isNone) = ((backToKw pos (keywordEach kws env)).map (·.1)).any (·.isNone) := by rw [List.any_map]; rfl
    rw [e, key, List.any_map, Bool.eq_false_iff]
    intro z
    obtain ⟨w, hw, z⟩ := List.any_eq_true.mp z
    have y := List.all_eq_true.mp c1 w hw
    cases q : w.arg with
    | none => rw [q] at y; cases y
    | some _ =>
      have z : w.arg.isNone = true := z
      rw [q] at z; cases z
theorem sd_callk (i : Nat) {es ks : Y} (de : Sd G k Γ es) (dk : SdK G k Γ ks) : Sd G k Γ (.callk i es ks) := .ofE _ (fun _ => rfl) fun X W0 S g e c => by
  split at c
  · obtain ⟨c, c5⟩ := ba c
    have cm := kw_mkd c5
    obtain ⟨c, c4⟩ := ba c
    obtain ⟨c, c3⟩ := ba c
    obtain ⟨c1, c2⟩ := ba c
    have c1 := of_decide_eq_true c1
    have en : es = .nil := by
      cases es <;> first | rfl | cases c4
    subst en
    rw [List.getElem?_map] at c1
    cases q : Γ[i]? with
    | none => rw [q] at c1; cases c1
    | some p =>
      obtain ⟨⟨x, kn⟩, P⟩ := p
      rw [q] at c1
      obtain ⟨rfl, hkn⟩ := Prod.mk.inj (Option.some.inj c1)
      obtain ⟨f, hm, hk, F⟩ := FnX.glo (g.fns i _ P q) (by rw [hkn]; exact cm)
      refine ⟨fun pins s σ H Q I h => ?_⟩
      obtain ⟨B, α, ρ, O, Q0, E0, R, h, hq, hl⟩ := h
      have h : vc Γ ks E0 ρ O fun ws O2 => (match Γ[i]? with
        | some (x, P) => ws.length = x.2.length ∧ callZ P ([] ++ ws) O2 (fun u O3 => Q0 [u] O3) E0
        | none => False) := h
      have kf := fun pos env => kw_facts (pos := pos) (env := env) c5
      have hA := seqA (W0 := W0) (t := vc Γ ks) R h hl (Q := fun vs H1 => vs.length = kn.length ∧ lowSp G P vs H1 Q W0) fun us O1 f α1 vs H1 s1 w1 a1 => by
        simp only [q] at f
        exact ⟨by rw [a1.length]; exact f.1, call_low w1 a1 f.2 (fun u O' h0 α' v H' s' w' a' => hq.to h0 (s1.trans s') w' a') (hl.stp s1)⟩
      refine wpAny_Call_Name_kw (ld_glob I (glo_of g c2) hm ?_ (okn_of c3).1)
      refine PySem.W.callWith_KW0 (h₀ := X.base) I.ok.mod.kin hk (kf _ _).1 (thn ((dk.K X W0 S g _ (kf ⟨0, 0, 0, 0⟩ X.env).2.2.2.1 (kf ⟨0, 0, 0, 0⟩ X.env).2.2.2.2).run _ pins s σ H _ I hA) fun ws s1 ⟨zs, H1, I1, rz, hn, q1⟩ => ⟨I1.kIn, ?_⟩) (by rw [(kf _ _).2.2.1]; rfl)
      rw [(kf _ _).2.1, ← hkn]
      exact run_fk (us := []) (vs := []) F g.room (pass_of g.takes) I1 .nil rz (by rw [← rz.length]; exact hn) q1
  · obtain ⟨c, c7⟩ := ba c
    have cm := kw_mkd c7
    obtain ⟨c, c6⟩ := ba c
    obtain ⟨c, c5⟩ := ba c
    obtain ⟨c, c4⟩ := ba c
    obtain ⟨c, c3⟩ := ba c
    obtain ⟨c1, c2⟩ := ba c
    have c1 := of_decide_eq_true c1
    rw [List.getElem?_map] at c1
    cases q : Γ[i]? with
    | none => rw [q] at c1; cases c1
    | some p =>
      obtain ⟨⟨x, kn⟩, P⟩ := p
      rw [q] at c1
      obtain ⟨rfl, hkn⟩ := Prod.mk.inj (Option.some.inj c1)
      obtain ⟨f, hm, hk, F⟩ := FnX.glo (g.fns i _ P q) (by rw [hkn]; exact cm)
      refine ⟨fun pins s σ H Q I h => ?_⟩
      obtain ⟨B, α, ρ, O, Q0, E0, R, h, hq, hl⟩ := h
      have kf := fun pos env => kw_facts (pos := pos) (env := env) c7
      have hA := seqA (W0 := W0) (t := vc Γ es) R h hl (Q := fun vs H1 => LfA G W0 (vc Γ ks) σ H1 fun ws H2 => ws.length = kn.length ∧ lowSp G P (vs ++ ws) H2 Q W0) fun us O1 f α1 vs H1 s1 w1 a1 => by
        refine seqA (W0 := W0) (t := vc Γ ks) (R.stp s1 w1) f (hl.stp s1) fun ws O2 f α2 vz H2 s2 w2 a2 => ?_
        simp only [q] at f
        exact ⟨by rw [a2.length]; exact f.1, call_low w2 ((s2.atUs a1).append a2) f.2 (fun u O' h0 α' v H' s' w' a' => hq.to h0 ((s1.trans s2).trans s') w' a') ((hl.stp s1).stp s2)⟩
      refine wpAny_Call_Name_kw (ld_glob I (glo_of g c2) hm ?_ (okn_of c3).1)
      refine PySem.W.callWith_KW (h₀ := X.base) I.ok.mod.kin hk (kf _ _).1 (thn ((de.A X W0 S g _ c6).run _ pins s σ H _ I hA) fun us s1 ⟨vs, H1, I1, r, q1⟩ => ?_) (by rw [(kf _ _).2.2.1, starEach_plain c4]; exact Bool.or_eq_false_iff.mpr ⟨any_plain (es := _ :: _) (by rw [List.all_cons, c4, c5]; rfl) |> fun z => by rw [starEach_plain c4] at z; exact z, rfl⟩) (starEach_plain c4)
      refine thn ((dk.K X W0 S g _ (kf ⟨0, 0, 0, 0⟩ X.env).2.2.2.1 (kf ⟨0, 0, 0, 0⟩ X.env).2.2.2.2).run _ pins s1 σ H1 _ I1 q1) fun ws s2 ⟨zs, H2, I2, rz, hn, q2⟩ => ⟨I2.kIn, ?_⟩
      rw [(kf _ _).2.1, ← hkn]
      exact run_fk F g.room (pass_of g.takes) I2 r rz (by rw [← rz.length]; exact hn) q2
  · cases c
theorem nrs_of {B : Addr → Prop} {α : List Addr} {O : List DO} {H : Hp} (w : Own G B α O H) : ∀ {us : List U} {vs : List V} {ds : List D}, AtUs G.K B α O H vs us → nrs O us = some ds → Paired (Vw G.K (Mu B α O) H) vs ds
  | [], _, _, .nil, e => by cases e; exact .nil
  | u :: us, _, _, .cons a r, e => by
    rw [nrs] at e
    cases h1 : nrm O u with
    | none => rw [h1] at e; cases e
    | some d =>
      rw [h1] at e
      cases h2 : nrs O us with
      | none => rw [h2] at e; cases e
      | some ds =>
        rw [h2] at e
        cases e
        exact .cons (Vw.of w a h1) (nrs_of w r h2)
theorem bf_free (f : BF) : f.name ∈ bnames := by cases f <;> decide
theorem blt_pe {X : Cx} {W0 : XK} {S : Sx} (g : Good X G W0 k S Γ) (f : BF) {t : TA} {e : Expr} {es : List Expr} {p pos : Pos} (hg : Gl X f.name) (ha : PA X (e :: es) t) (h1 : noStar e = true) (h2 : es.all noStar = true) : PE X (.Call (.Name f.name p) (e :: es) [] pos) (tCB (rL G f.op) t) := by
  have hm := g.free _ (bf_free f)
  have hs := @starEach_plain e es X.env h1
  have hp := @any_plain pos X.env es h2
  cases f with
  | len => exact pe_callB (cb_len g.hK) hg hm (by decide +kernel) ha (by decide) (by decide) hs hp
  | abs => exact pe_callB (cb_abs g.hK) hg hm (by decide +kernel) ha (by decide) (by decide) hs hp
  | int => exact pe_callTy (cb_int g.hK) hg hm (by decide +kernel) ha (by decide) (by decide) hs hp
  | list => exact pe_callTy (cb_list g.hK g.calm) hg hm (by decide +kernel) ha (by decide) (by decide) hs hp
  | tuple => exact pe_callTy (cb_tuple g.hK g.calm) hg hm (by decide +kernel) ha (by decide) (by decide) hs hp
  | sum => exact pe_callB (cb_sum g.hK g.calm) hg hm (by decide +kernel) ha (by decide) (by decide) hs hp
  | all => exact pe_callB (cb_all g.hK g.calm) hg hm (by decide +kernel) ha (by decide) (by decide) hs hp
  | any => exact pe_callB (cb_any g.hK g.calm) hg hm (by decide +kernel) ha (by decide) (by decide) hs hp
  | min => exact pe_callB (cb_min g.hK g.calm) hg hm (by decide +kernel) ha (by decide) (by decide) hs hp
  | str => exact pe_callTy (cb_str g.hK) hg hm (by decide +kernel) ha (by decide) (by decide) hs hp
  | bool => exact pe_callTy (cb_bool g.hK) hg hm (by decide +kernel) ha (by decide) (by decide) hs hp
  | max => exact pe_callB (cb_max g.hK g.calm) hg hm (by decide +kernel) ha (by decide) (by decide) hs hp
theorem sd_blt (f : BF) {es : Y} (de : Sd G k Γ es) : Sd G k Γ (.blt f es) := .ofE _ (fun _ => rfl) fun X W0 S g e c => by
  split at c
  · obtain ⟨c, c6⟩ := ba c
    obtain ⟨c, c5⟩ := ba c
    obtain ⟨c, c4⟩ := ba c
    obtain ⟨c1, c2⟩ := ba c
    cases of_decide_eq_true c1
    refine pe_imp (blt_pe g f (glo_of g c2) (de.A X W0 S g _ c6) c4 c5) fun σ H Q ⟨B, α, ρ, O, Q0, E0, R, h, hq, hl⟩ => ?_
    refine seqA R h hl fun us O1 f1 α1 vs H1 s1 w1 a1 => ?_
    obtain ⟨ds, e1, f1⟩ := nrsK_of f1
    exact ⟨B, α1, O1, ds, _, w1, nrs_of w1 a1 e1, f1, fun z q v' H' s' w' a' => hq.to q (s1.trans s') w' (.d a')⟩
  · cases c
theorem pa_one {X : Cx} {e : Expr} {te : TE} (h : PE X e te) (c : noStar e = true) : PA X [e] (tCons te tNil) := pa_cons h pa_nil (starEach_plain c)
theorem pa_two {X : Cx} {e f : Expr} {te tf : TE} (h : PE X e te) (h2 : PE X f tf) (c : noStar e = true) (c2 : noStar f = true) : PA X [e, f] (tCons te (tCons tf tNil)) := pa_cons h (pa_one h2 c2) (starEach_plain c)
theorem noOb_of {O : List DO} {k : Nat} {P : Prop} (h : noOb O k P) : (∀ c fs, go O k ≠ some (.ob c fs)) ∧ P := by
  unfold noOb at h
  split at h
  · exact h.elim
  · rename_i hn
    exact ⟨fun c fs z => hn c fs z, h⟩
theorem base_of {o : Expr} {m : Str} {env : Env} (h : plainO o = true) : attributeBase o m env (eval o env) = eval o env := by
  cases o <;> first | rfl | cases h
/-! objects -/
theorem lookup_at {K : PySem.W.Frag} {M : Addr → Prop} {H : Hp} {f : Str} {d : D} : ∀ {gs : List (Str × V)} {ns : List Str} {ds : List D}, gs.map (·.1) = ns → Ats K M H (gs.map (·.2)) ds → (ns.zip ds).lookup f = some d → f ∈ ns ∧ ∃ v, gs.lookup f = some v ∧ At K M H v d
  | [], _, _, rfl, _, e => by cases e
  | (n, v) :: gs, _, ds, rfl, r, e => by
    cases r with
    | cons a r =>
      rename_i d0 ds0
      have e : List.lookup f ((n, d0) :: (gs.map (·.1)).zip ds0) = some d := e
      rw [List.lookup_cons] at e
      show f ∈ n :: gs.map (·.1) ∧ ∃ v', List.lookup f ((n, v) :: gs) = some v' ∧ At K M H v' d
      rw [List.lookup_cons]
      by_cases h : (f == n) = true
      · rw [h] at e ⊢
        cases e
        exact ⟨by rw [eq_of_beq h]; exact List.mem_cons_self, v, rfl, a⟩
      · have h : (f == n) = false := by simpa using h
        rw [h] at e ⊢
        obtain ⟨h1, v', h2, h3⟩ := lookup_at rfl r e
        exact ⟨List.mem_cons_of_mem _ h1, v', h2, h3⟩
theorem zip_fs {α β : Type _} : ∀ l : List (α × β), (l.map (·.1)).zip (l.map (·.2)) = l
  | [] => rfl
  | (a, b) :: l => by rw [List.map_cons, List.map_cons, List.zip_cons_cons, zip_fs l]
theorem lookup_no {f : Str} : ∀ {gs : List (Str × V)}, f ∉ gs.map (·.1) → gs.lookup f = none
  | [], _ => rfl
  | (n, v) :: gs, h => by
    rw [List.lookup_cons]
    have h1 : f ≠ n := fun e => h (by rw [e]; exact List.mem_cons_self)
    rw [show (f == n) = false from by simpa using h1]
    exact lookup_no fun m => h (List.mem_cons_of_mem _ m)
theorem sd_fld (f : Str) {a : Y} (da : Sd G k Γ a) : Sd G k Γ (.fld f a) := .ofE _ (fun _ => rfl) fun X W0 S g e c => by
  split at c
  · obtain ⟨c, c3⟩ := ba c
    obtain ⟨c1, c2⟩ := ba c
    cases of_decide_eq_true c1
    refine pe_imp (pe_fldX (da.E X W0 S g _ c3) (base_of c2)) fun σ H Q ⟨B, α, ρ, O, Q0, E0, R, h, hq, hl⟩ => ?_
    refine seqE R h hl fun u O1 f1 α1 v H1 s1 w1 a1 => ?_
    split at f1
    · obtain ⟨d, e1, f1⟩ := f1
      cases a1 with
      | d a1 =>
      cases a1 with
      | obj e m ok hn r =>
        obtain ⟨h1, v', h2, h3⟩ := lookup_at hn r e1
        rw [g.hK]
        exact .inl ⟨_, _, _, _, v', rfl, e, ok.1, ok.2.1 _ h1, h2, hq.to f1 s1 w1 (.d h3)⟩
    · obtain ⟨d, e1, f1⟩ := f1
      cases a1 with
      | d a1 =>
      cases a1 with
      | exc e e2 m m2 ok hn r =>
        obtain ⟨h1, v', h2, h3⟩ := lookup_at hn r e1
        rw [g.hK]
        exact .inr ⟨_, _, _, _, v', rfl, e, e2, excB_xf ok.1, ok.2 _ h1, h2, hq.to f1 s1 w1 (.d h3)⟩
    · split at f1
      · rename_i hg
        rw [go_eq] at hg
        obtain ⟨d, e1, f1⟩ := f1
        cases a1 with
        | o ek =>
          obtain ⟨dx, gs, e, ⟨ok, hin, _⟩, hn, r⟩ := w1.at_ _ _ _ ek hg
          rename_i fs _ _
          obtain ⟨h1, v', h2, h3⟩ := lookup_at hn r (by rw [zip_fs]; exact e1)
          rw [g.hK]
          exact .inl ⟨_, _, _, _, v', rfl, e, ok.1, ok.2.1 _ (hin _ h1), h2, hq.to f1 s1 w1 (.d h3)⟩
      · exact f1.elim
    · exact f1.elim
  · cases c
theorem baseM_of {o : Expr} {m : Str} {env : Env} (h : plainM o = true) : attributeBase o m env (eval o env) = eval o env := by
  cases o with
  | Name _ _ => rfl
  | Subscript _ _ _ => rfl
  | Call f as kws p =>
    cases f with
    | Attribute _ _ _ => rfl
    | Name f q =>
      cases as with
      | nil => cases h
      | cons _ _ => rfl
    | _ => cases h
  | _ => cases h
theorem form_plain {es : List Expr} {pos : Pos} {env : Env} (h : es.all noStar = true) (hn : es.length < 30) : methodCallForm es.length (backTo pos (starEach es env)) (backToKw pos (keywordEach [] env)) = true := by
  have h1 := any_plain (pos := pos) (env := env) h
  unfold methodCallForm
  have h2 : (backTo pos (starEach es env)).all (fun x => !x.1) = true := by
    rw [List.all_eq_not_any_not]
    simp only [Bool.not_not]
    rw [h1]
    rfl
  rw [h2, show (backToKw pos (keywordEach [] env)) = [] from rfl]
  simp only [List.all_nil, List.isEmpty_nil, if_true, Bool.true_and, Nat.add_zero, decide_eq_true_eq]
  exact hn
theorem meth_ht {o : Expr} {m : Str} {apos pos : Pos} {es : List Expr} {env : Env} (hb : attributeBase o m env (eval o env) = eval o env) (hf : es.all noStar = true) (hn : es.length < 30) (hl : (apos.endLine == pos.line) = true) : eval (.Call (.Attribute o m apos) es [] pos) env = (do
      let ov ← eval o env
      standAt apos.atName
      let (f, first) ← holding [ov] (getMethod ov m (do return (← importBound o env).getD true))
      callWith pos f first (backTo pos (starEach es env)) (backToKw pos (keywordEach [] env))) := by
  show (do
    let ov ← attributeBase o m env (eval o env)
    standAt apos.atName
    methodCall o m apos pos env ov (es.length + 0) (backTo pos (starEach es env)) (backToKw pos (keywordEach [] env))) = _
  rw [hb]
  unfold methodCall
  rw [Nat.add_zero, form_plain hf hn]
  unfold methodCallPos calleeOf
  rw [hl]
  simp only [Bool.not_true, Bool.false_or, if_true, pure_bind]
theorem sd_meth (i : Nat) (m : Str) {a es : Y} (da : Sd G k Γ a) (de : Sd G k Γ es) : Sd G k Γ (.meth i m a es) := .ofE _ (fun _ => rfl) fun X W0 S g e c => by
  have go : ∀ {o : Expr} {xs : List Expr} {apos pos : Pos}, plainM o = true → (ck (Γ.map (·.1)) a S).E o = true → xs.all noStar = true → xs.length < 30 → (apos.endLine == pos.line) = true → (ck (Γ.map (·.1)) es S).A xs = true → (xs = [] → es = .nil) → PE X (.Call (.Attribute o m apos) xs [] pos) (LfE G W0 (vc Γ (.meth i m a es))) := by
    intro o xs apos pos h1 h2 h3 h4 h5 h6 hz
    refine ⟨fun pins s σ H Q I h => ?_⟩
    obtain ⟨B, α, ρ, O, Q0, E0, R, h, hq, hl⟩ := h
    have hA := seqE (W0 := W0) (t := vc Γ a) (Q := fun x H1 => ∃ a0 c0 dx fs f, x = .ref a0 ∧ H1 a0 = some (.ins (He.ga X.K c0) dx fs) ∧ Cls X.K (He.ga X.K c0) ∧ Meth X.K (He.ga X.K c0) m f ∧ fs.lookup m = none ∧
        ∃ P, FnRK X.prog X.w X.K X.mg X.base k f [] (lowSp G P) ∧ LfA G W0 (vc Γ es) σ H1 fun vs H2 => lowSp G P (.ref a0 :: vs) H2 Q W0) R h hl fun u O1 f1 α1 v H1 s1 w1 a1 => by
      split at f1
      · rename_i c0 ns ds
        obtain ⟨hm, f1⟩ := f1
        have a1' := a1
        cases a1 with
        | d a1 =>
        cases a1 with
        | obj e mo ok hn r =>
          rename_i p dx gs
          cases q : Γ[i]? with
          | none => rw [q] at f1; exact f1.elim
          | some pr =>
            obtain ⟨x, P⟩ := pr
            rw [q] at f1
            obtain ⟨rfl, f1⟩ := f1
            obtain ⟨f, hM, hF⟩ := FnX.met (g.fns i _ P q)
            rw [g.hK] at hM ⊢
            refine ⟨p, c0, dx, gs, f, rfl, e, ok.1, hM, lookup_no (by rw [hn]; exact hm), P, by rw [← g.hK]; exact hF, ?_⟩
            refine seqA (W0 := W0) (t := vc Γ es) (R.stp s1 w1) f1 (hl.stp s1) fun ws O2 f2 α2 vs H2 s2 w2 a2 => ?_
            exact call_low w2 (.cons (s2.atU a1') a2) f2 (fun u O' h0 α' v H' s' w' a' => hq.to h0 ((s1.trans s2).trans s') w' a') ((hl.stp s1).stp s2)
      · exact f1.elim
    refine PySem.W.methodCall_KW (thn ((da.E X W0 S g _ h2).run pins s σ H _ I hA) fun u s1 ⟨x, H1, I1, rx, a0, c0, dx, fs, f, ex, ea, cc, hm, l, P, F, q⟩ => ?_) (meth_ht (baseM_of h1) h3 h4 h5)
    subst ex
    obtain rfl : u = Value.ref a0 := rx
    refine getmeth_ok I1 ea cc hm l ?_
    cases xs with
    | nil =>
      refine PySem.W.callWith_K0 (first := [.ref a0]) I1.kIn hm.kp ?_
      have en := hz rfl
      subst en
      obtain ⟨B2, α2, ρ2, O2, F2, E2, R2, h2', hq2, hl2⟩ := q
      have q2 := hq2 _ _ h2' _ [] _ Stp.refl R2.own .nil
      exact run_fk (ks := []) (ws := []) (zs := []) (us := [.ref a0]) (vs := [.ref a0]) F g.room (pass_of g.takes) I1 (.cons rfl .nil) .nil rfl q2
    | cons y ys =>
      rw [List.all_cons] at h3
      obtain ⟨h31, h32⟩ := ba h3
      refine PySem.W.callWith_K (first := [.ref a0]) (h₀ := X.base) I1.ok.mod.kin hm.kp (thn ((de.A X W0 S g _ h6).run pos pins s1 σ H1 _ I1 q) fun us s2 ⟨vs, H2, I2, r, q2⟩ => ⟨I2.kIn, ?_⟩) (starEach_plain h31) (any_plain h32)
      exact run_fk (ks := []) (ws := []) (zs := []) (us := .ref a0 :: us) (vs := .ref a0 :: vs) F g.room (pass_of g.takes) I2 (.cons rfl r) .nil rfl (by rw [List.append_nil]; exact q2)
  split at c
  · obtain ⟨c, c8⟩ := ba c
    obtain ⟨c, c7⟩ := ba c
    obtain ⟨c, c6⟩ := ba c
    obtain ⟨c, c5⟩ := ba c
    obtain ⟨c, c4⟩ := ba c
    obtain ⟨c, c3⟩ := ba c
    obtain ⟨c1, c2⟩ := ba c
    cases of_decide_eq_true c1
    exact go c2 c7 (by rw [List.all_cons, c3, c4]; rfl) (of_decide_eq_true c5) c6 c8 (fun z => by cases z)
  · obtain ⟨c, c5⟩ := ba c
    obtain ⟨c, c4⟩ := ba c
    obtain ⟨c, c3⟩ := ba c
    obtain ⟨c1, c2⟩ := ba c
    cases of_decide_eq_true c1
    have en : es = .nil := by
      cases es <;> first | rfl | cases c3
    subst en
    exact go c2 c5 rfl (by decide) c4 rfl (fun _ => rfl)
  · cases c
theorem sd_app {r z : Y} (dr : Sd G k Γ r) (dz : Sd G k Γ z) : Sd G k Γ (.app r z) := .ofE _ (fun _ => rfl) fun X W0 S g e c => by
  split at c
  · rename_i o m ap e cp
    obtain ⟨c, c6⟩ := ba c
    obtain ⟨c, c5⟩ := ba c
    obtain ⟨c, c4⟩ := ba c
    obtain ⟨c, c3⟩ := ba c
    obtain ⟨c1, c2⟩ := ba c
    cases of_decide_eq_true c2
    have hs := @starEach_plain e [] X.env c4
    refine pe_imp (pe_bm PySem.F.plainAttrs_list PySem.F.slot_list_append PySem.F.type_list_append mt_append (dr.E X W0 S g _ c5) (pa_one (dz.E X W0 S g _ c6) c4) (base_of c3) (by rw [hs]; rfl) c1 hs (by rfl)) fun σ H Q ⟨B, α, ρ, O, Q0, E0, R, h, hq, hl⟩ => ?_
    refine seqE R h hl fun u O0 h' α0 v0 H0 s0 w0 a0 => ?_
    cases u with
    | d _ => exact h'.elim
    | t _ => exact h'.elim
    | l _ => exact h'.elim
    | o k =>
      cases a0 with
      | @o _ a ek =>
      obtain ⟨hnob, h'⟩ := noOb_of h'
      refine ⟨.inl ⟨rfl, ?_⟩, ?_⟩
      · have hk : k < O0.length := by rw [← w0.len]; exact (List.getElem?_eq_some_iff.mp ek).1
        have ho := w0.at_ k a _ ek (List.getElem?_eq_getElem hk)
        have hno : ∀ c fs, O0[k] ≠ .ob c fs := fun c fs z => hnob c fs (by rw [go_eq, List.getElem?_eq_getElem hk, z])
        cases qo : O0[k] with
        | ob c fs => exact absurd qo (hno c fs)
        | lst ds => rw [qo] at ho; obtain ⟨vs, e2, _⟩ := ho; exact ⟨vs, SqL.of e2⟩
        | brw ds => rw [qo] at ho; obtain ⟨vs, e2, _⟩ := ho; exact ⟨vs, SqL.of e2⟩
        | frz ds =>
          rw [qo] at ho
          cases (show At G.K (Mu B α0 O0) H0 (.ref a) (.lst ds) from ho) with
          | lst e2 _ _ => exact ⟨_, SqL.of e2⟩
      · refine seqE (R.stp s0 w0) h' (hl.stp s0) fun u O1 f α1 v H1 s1 w1 a1 => ?_
        obtain ⟨x, e3, f⟩ := toK_of f
        have ax := At.of w1 a1 e3
        rw [go_eq] at f
        cases qo : O1[k]? with
        | none => rw [qo] at f; exact f.elim
        | some o =>
          rw [qo] at f
          cases o with
          | frz _ => exact f.elim
          | brw _ => exact f.elim
          | ob _ _ => exact f.elim
          | lst ds =>
            have ek1 := s1.idx ek
            obtain ⟨vs, e4, r4⟩ := w1.at_ k a _ ek1 qo
            refine ⟨a, vs, v, rfl, rfl, e4, by rw [r4.length]; exact f.1, ?_⟩
            have f2 := f.2
            rw [so_eq] at f2
            exact hq.to f2 ((s0.trans s1).trans (stp_set ek1 qo rfl)) (own_set w1 ek1 qo (r4.append (.cons ax .nil))) (.d .non)
  · cases c
theorem sd_lnt {z : Y} (dz : Sd G k Γ z) : Sd G k Γ (.lnt z) := .ofE _ (fun _ => rfl) fun X W0 S g e c => by
  split at c
  · obtain ⟨c, c4⟩ := ba c
    obtain ⟨c, c3⟩ := ba c
    obtain ⟨c1, c2⟩ := ba c
    cases of_decide_eq_true c1
    refine pe_imp (pe_callB call_len_seq (glo_of g c2) (g.free "len" (by decide)) (by decide +kernel) (pa_one (dz.E X W0 S g _ c4) c3) (by decide) (by decide) (starEach_plain c3) rfl) fun σ H Q ⟨B, α, ρ, O, Q0, E0, R, h, hq, hl⟩ => ?_
    refine seqE R h hl fun u O1 f α1 v H1 s1 w1 a1 => ?_
    cases u with
    | d _ => exact f.elim
    | o _ => exact f.elim
    | l _ => exact f.elim
    | t us =>
      cases a1 with
      | @t a vs _ e m r =>
      refine ⟨a, vs, rfl, .inr (SqT.of e), ?_⟩
      rw [r.length]
      exact hq.to f s1 w1 (.d (.int _))
  · cases c
theorem sd_ins {r i z : Y} (dr : Sd G k Γ r) (di : Sd G k Γ i) (dz : Sd G k Γ z) : Sd G k Γ (.ins r i z) := .ofE _ (fun _ => rfl) fun X W0 S g e c => by
  split at c
  · rename_i o m ap x e cp
    obtain ⟨c, c8⟩ := ba c
    obtain ⟨c, c7⟩ := ba c
    obtain ⟨c, c6⟩ := ba c
    obtain ⟨c, c5⟩ := ba c
    obtain ⟨c, c4⟩ := ba c
    obtain ⟨c, c3⟩ := ba c
    obtain ⟨c1, c2⟩ := ba c
    cases of_decide_eq_true c2
    have hs := @starEach_plain x [e] X.env c4
    have hs2 := @starEach_plain e [] X.env c5
    refine pe_imp (pe_bm PySem.F.plainAttrs_list PySem.F.slot_list_insert PySem.F.type_list_insert mt_insert (dr.E X W0 S g _ c6) (pa_two (di.E X W0 S g _ c7) (dz.E X W0 S g _ c8) c4 c5) (base_of c3) (by rw [hs, hs2]; rfl) c1 hs (by rw [hs2]; rfl)) fun σ H Q ⟨B, α, ρ, O, Q0, E0, R, h, hq, hl⟩ => ?_
    refine seqE R h hl fun u O0 h' α0 v0 H0 s0 w0 a0 => ?_
    cases u with
    | d _ => exact h'.elim
    | t _ => exact h'.elim
    | l _ => exact h'.elim
    | o k =>
      cases a0 with
      | @o _ a ek =>
      obtain ⟨hnob, h'⟩ := noOb_of h'
      refine ⟨.inl ⟨rfl, ?_⟩, ?_⟩
      · have hk : k < O0.length := by rw [← w0.len]; exact (List.getElem?_eq_some_iff.mp ek).1
        have ho := w0.at_ k a _ ek (List.getElem?_eq_getElem hk)
        have hno : ∀ c fs, O0[k] ≠ .ob c fs := fun c fs z => hnob c fs (by rw [go_eq, List.getElem?_eq_getElem hk, z])
        cases qo : O0[k] with
        | ob c fs => exact absurd qo (hno c fs)
        | lst ds => rw [qo] at ho; obtain ⟨vs, e2, _⟩ := ho; exact ⟨vs, SqL.of e2⟩
        | brw ds => rw [qo] at ho; obtain ⟨vs, e2, _⟩ := ho; exact ⟨vs, SqL.of e2⟩
        | frz ds =>
          rw [qo] at ho
          cases (show At G.K (Mu B α0 O0) H0 (.ref a) (.lst ds) from ho) with
          | lst e2 _ _ => exact ⟨_, SqL.of e2⟩
      · refine seqE (R.stp s0 w0) h' (hl.stp s0) fun u O1 f α1 v H1 s1 w1 a1 => ?_
        refine seqE ((R.stp s0 w0).stp s1 w1) f ((hl.stp s0).stp s1) fun y O2 f α2 v2 H2 s2 w2 a2 => ?_
        obtain ⟨x2, e3, f⟩ := toK_of f
        have ax := At.of w2 a2 e3
        rw [go_eq] at f
        cases qo : O2[k]? with
        | none => rw [qo] at f; exact f.elim
        | some o =>
          rw [qo] at f
          cases o with
          | frz _ => exact f.elim
          | brw _ => exact f.elim
          | ob _ _ => exact f.elim
          | lst ds =>
            cases u with
            | o _ => exact f.elim
            | t _ => exact f.elim
            | l _ => exact f.elim
            | d d0 =>
              cases d0 with
              | int j =>
                cases a1 with
                | d a1 =>
                cases a1
                obtain ⟨⟨f1, f2, f3⟩, f4⟩ := f
                have ek2 := (s1.trans s2).idx ek
                obtain ⟨vs, e4, r4⟩ := w2.at_ k a _ ek2 qo
                refine ⟨a, vs, j, v2, rfl, rfl, e4, by rw [r4.length]; exact f1, f2, f3, ?_⟩
                rw [so_eq] at f4
                exact hq.to f4 ((s0.trans (s1.trans s2)).trans (stp_set ek2 qo rfl)) (own_set w2 ek2 qo (((r4.take j.toNat).append (.cons ax .nil)).append (r4.drop j.toNat))) (.d .non)
              | _ => exact f.elim
  · cases c
theorem sd_fz {z : Y} (dz : Sd G k Γ z) : Sd G k Γ (.fz z) := .ofE _ (fun _ => rfl) fun X W0 S g e c => by
  refine pe_imp (dz.E X W0 S g e c) fun σ H Q ⟨B, α, ρ, O, Q0, E0, R, h, hq, hl⟩ => ?_
  refine seqE R h hl fun u O1 f α1 v H1 s1 w1 a1 => ?_
  cases u with
  | d x => exact hq.to f s1 w1 a1
  | t x => exact hq.to f s1 w1 a1
  | l x => exact hq.to f s1 w1 a1
  | o k =>
    have f' : (match go O1 k with
      | some (.lst ds) => Q0 [.d (.lst ds)] (so O1 k (.frz ds))
      | _ => False) := f
    rw [go_eq] at f'
    cases qo : O1[k]? with
    | none => rw [qo] at f'; exact f'.elim
    | some o =>
      rw [qo] at f'
      cases o with
      | frz _ => exact f'.elim
      | brw _ => exact f'.elim
      | ob _ _ => exact f'.elim
      | lst ds =>
        have f2 : Q0 [.d (.lst ds)] (so O1 k (.frz ds)) := f'
        rw [so_eq] at f2
        cases a1 with
        | @o _ a ek =>
        exact hq.to f2 (s1.trans (stp_frz qo rfl)) (own_frz w1 qo) (.d (by
          have h := (own_frz w1 qo).at_ k a (.frz ds) ek (by rw [List.getElem?_set_self (by exact (List.getElem?_eq_some_iff.mp qo).1)])
          exact h))
theorem sd_lis {z : Y} (dz : Sd G k Γ z) : Sd G k Γ (.lis z) := .ofE _ (fun _ => rfl) fun X W0 S g e c => by
  split at c
  · obtain ⟨c, c4⟩ := ba c
    obtain ⟨c, c3⟩ := ba c
    obtain ⟨c1, c2⟩ := ba c
    cases of_decide_eq_true c1
    refine pe_imp (pe_callTy call_list_of (glo_of g c2) (g.free _ (bf_free .list)) (by decide +kernel) (pa_one (dz.E X W0 S g _ c4) c3) (by decide) (by decide) (starEach_plain c3) rfl) fun σ H Q ⟨B, α, ρ, O, Q0, E0, R, h, hq, hl⟩ => ?_
    refine seqE R h hl fun u O1 f α1 v H1 s1 w1 a1 => ?_
    obtain ⟨x, e1, f⟩ := nrK_of f
    have av := Vw.of w1 a1 e1
    unfold listD at f
    split at f
    · rename_i h0
      cases h0
      obtain ⟨p, ws, rfl, e, r⟩ := av.lst
      exact ⟨_, _, rfl, .inl (SqL.of e), newL_to hq f s1 w1 r⟩
    · rename_i h0
      cases h0
      obtain ⟨p, ws, rfl, e, r⟩ := av.tup
      exact ⟨_, _, rfl, .inr (by rw [g.hK]; exact e), newL_to hq f s1 w1 r⟩
    · rename_i h0
      cases h0
      obtain ⟨p, rfl, e⟩ := av.scr
      exact ⟨_, _, rfl, .inl (by rw [g.hK]; exact e), newL_to hq f s1 w1 (Ats.ints _)⟩
    · exact f.elim
  · cases c
theorem sd_sml {z : Y} (dz : Sd G k Γ z) : Sd G k Γ (.sml z) := .ofE _ (fun _ => rfl) fun X W0 S g e c => by
  split at c
  · obtain ⟨c, c4⟩ := ba c
    obtain ⟨c, c3⟩ := ba c
    obtain ⟨c1, c2⟩ := ba c
    cases of_decide_eq_true c1
    refine pe_imp (pe_callB (cr_sumL g.calm) (glo_of g c2) (g.free _ (bf_free .sum)) (by decide +kernel) (pa_two (dz.E X W0 S g _ c4) (pe_lst pa_nil) c3 rfl) (by decide) (by decide) (starEach_plain c3) rfl) fun σ H Q ⟨B, α, ρ, O, Q0, E0, R, h, hq, hl⟩ => ?_
    refine seqE R h hl fun u O1 f α1 v H1 s1 w1 a1 => ?_
    obtain ⟨x, e1, f⟩ := nrK_of f
    have av := Vw.of w1 a1 e1
    cases x with
    | lst ds =>
      obtain ⟨xss, rfl, hz, f⟩ := f
      obtain ⟨p, ws, rfl, e, r⟩ := av.lst
      obtain ⟨as, yss, rfl, h1, h2⟩ := ats_lsts r
      have hl2 : as.length = xss.length := (paired_len h1).trans (paired_len h2)
      refine ⟨Nat.zero_le _, fun b hb => ?_⟩
      have ne : ∀ {c : Addr} {o : HO}, H1 c = some o → upd H1 b (.lst []) c = some o := fun q => by rw [upd_ne (ne_of_none q hb)]; exact q
      have w2 := own_new (o := .lst []) w1 hb
      have s2 := s1.trans (stp_new (O := O1) (α := α1) (o := .lst []) hb)
      refine ⟨p, b, as, yss, [], rfl, ne e, paired_map h1 fun _ _ q => ne q, upd_same, by rw [List.length_nil, Nat.zero_add, ats_flen h2]; exact hz, fun q => ?_, fun p2 hp2 => ?_⟩
      · rw [flat_none fun k hk => ats_emp h2 (q k (by omega))] at f
        exact hq.to f s2 w2 (.d (At.lstNew w1 hb .nil))
      · rw [List.nil_append]
        exact hq.to f (s2.trans (stp_new hp2)) (own_new w2 hp2) (.d (At.lstNew w2 hp2 ((stp_new hb).ats (ats_flat h2))))
    | _ => exact f.elim
  · cases c
theorem sd_rep {a b : Y} (da : Sd G k Γ a) (db : Sd G k Γ b) : Sd G k Γ (.rep a b) := .ofE _ (fun _ => rfl) fun X W0 S g e c => by
  split at c
  · obtain ⟨c2, c3⟩ := ba c
    refine pe_imp (pe_op op_rep (da.E X W0 S g _ c2) (db.E X W0 S g _ c3)) fun σ H Q ⟨B, α, ρ, O, Q0, E0, R, h, hq, hl⟩ => ?_
    refine seq2 R h hl fun u w O2 f α2 v v2 H2 s2 w2 a1 a2 => ?_
    obtain ⟨x, e1, f⟩ := nrK_of f
    obtain ⟨y, e2, f⟩ := nrK_of f
    have ax := Vw.of w2 a1 e1
    have ay := Vw.of w2 a2 e2
    unfold mulD at f
    split at f
    · exact f.2.elim
    · obtain ⟨p, vs, rfl, e, r⟩ := ax.lst
      obtain rfl := ay.int
      exact ⟨p, _, vs, rfl, rfl, e, f.1.1, f.1.2.1, by rw [r.length]; exact f.1.2.2, newL_to hq f.2 s2 w2 (ats_rep r _)⟩
    · exact f.2.elim
    · exact f.2.elim
    · exact f.elim
  · cases c
theorem tyU_of {B : Addr → Prop} {α : List Addr} {O : List DO} {H : Hp} {u : U} {v : V} {t : String} (w : Own G B α O H) (a : AtU G.K B α O H v u) (h : tyU O u = some t) : TyX G.K H v (.type t) := by
  cases u with
  | d x =>
    cases a with
    | d a =>
      cases a with
      | non => cases h; exact .base .non
      | bl b => cases h; exact .base (.bl b)
      | int b => cases h; exact .base (.int b)
      | str b => cases h; exact .base (.str b)
      | tup e m r => cases h; exact .base (.tup e)
      | tupK e r =>
        cases h
        rcases e fun _ => none with h0 | ⟨o, its, n, hk, hc, _⟩
        · rcases h0 with h0 | ⟨o, h0⟩ <;> cases h0
        · exact .kTuple hk hc
      | lst e m r => cases h; exact .base (.lst e)
      | dct e => cases h; exact .fDict e
      | obj => cases h
      | exc => cases h
      | scr e m => cases h
      | scrK e => cases h
  | o k =>
    have h' : (match go O k with
      | some (.ob _ _) => none
      | some _ => some "list"
      | none => none) = some t := h
    rw [go_eq] at h'
    cases a with
    | @o _ p ek =>
    cases q : O[k]? with
    | none => rw [q] at h'; cases h'
    | some o =>
      rw [q] at h'
      have ho := w.at_ k p o ek q
      cases o with
      | ob _ _ => cases h'
      | lst ds => cases h'; obtain ⟨vs, e, _⟩ := ho; exact .base (.lst e)
      | brw ds => cases h'; obtain ⟨vs, e, _⟩ := ho; exact .base (.lst e)
      | frz ds =>
        cases h'
        cases (show At G.K (Mu B α O) H (.ref p) (.lst ds) from ho) with
        | lst e2 _ _ => exact .base (.lst e2)
  | t us => cases a with
    | t e m r => cases h; exact .base (.tup e)
  | l us => cases a with
    | l e m r => cases h; exact .base (.lst e)
theorem bt_of {n : String} (h : ["int", "bool", "str", "list", "tuple", "dict"].contains n = true) : Str.ofString n ∈ bnames ∧ bootBuiltins (Str.ofString n) = some (.type n) ∧ Str.ofString n ≠ "__name__" ∧ (Str.ofString n == ("__debug__" : Str)) = false := by
  rw [List.contains_iff_mem] at h
  simp only [List.mem_cons, List.not_mem_nil, or_false] at h
  rcases h with rfl | rfl | rfl | rfl | rfl | rfl <;> exact ⟨by decide, by decide +kernel, by decide, by decide⟩
def tTy (n : String) : TE := fun _ H Q => Q (.ty n) H
theorem pe_tyN {X : Cx} {x : Str} {p : Pos} {n : String} (hg : Gl X x) (hm : X.mg x = none) (hv : bootBuiltins x = some (.type n)) (hn : x ≠ "__name__") (hdb : (x == ("__debug__" : Str)) = false) : PE X (.Name x p) (tTy n) :=
  ⟨fun pins s σ H Q I h => ld_blt I hg hm hv ⟨.ty n, H, I, rfl, h⟩ hn hdb⟩
theorem pe_tyB {X : Cx} {W0 : XK} {S : Sx} (g : Good X G W0 k S Γ) {t : Str} {n : String} {p : Pos} (h : tyB S.sc t n = true) : PE X (.Name t p) (tTy n) := by
  obtain ⟨h, h3⟩ := ba h
  obtain ⟨h1, h2⟩ := ba h
  cases of_decide_eq_true h1
  obtain ⟨a, b, c, d⟩ := bt_of h3
  exact pe_tyN (glo_of g h2) (g.free _ a) b c d
def tTys (ns : List String) : TA := fun _ H Q => Q (ns.map .ty) H
theorem pa_tys {X : Cx} {W0 : XK} {S : Sx} (g : Good X G W0 k S Γ) : ∀ {ts : List Expr} {ns : List String}, tysB S.sc ts ns = true → PA X ts (tTys ns)
  | [], [], _ => pa_imp pa_nil fun _ _ _ h => h
  | [], _ :: _, h => by cases h
  | .Name t p :: ts, [], h => by cases h
  | .Name t p :: ts, n :: ns, h => by
    obtain ⟨h1, h2⟩ := ba h
    exact pa_imp (pa_cons (pe_tyB g h1) (pa_tys g h2)) fun σ H Q h => h
theorem isiB_any {K : PySem.W.Frag} {t : String} : ∀ {cs : List String} {b : Bool}, isiB t cs = some b → PySem.W.kitAny K (.type t) (cs.map Value.type) = some b
  | [], b, h => h
  | c :: cs, b, h => by
    rw [isiB] at h
    cases q : kitB t c with
    | none => rw [q] at h; cases h
    | some r =>
      rw [q] at h
      cases r with
      | true => exact kitAny_cons (kit_ty q) (fun z => by cases z) (fun _ => by cases h; rfl)
      | false => exact kitAny_cons (kit_ty q) (fun _ => isiB_any h) (fun z => by cases z)
theorem paired_ty : ∀ (cs : List String), Paired ClsV (cs.map V.ty) (cs.map Value.type)
  | [] => .nil
  | c :: cs => .cons (.ty c) (paired_ty cs)
theorem isi_split {u : U} {O1 : List DO} {cs : List String} {Q : Bool → Prop} (f : match tyU O1 u with
    | some t => ∃ b, isiB t cs = some b ∧ Q b
    | none => isEx u = true ∧ cs.length = 1 ∧ (∀ c ∈ cs, c ∈ btys) ∧ Q false) : (∃ t b, tyU O1 u = some t ∧ isiB t cs = some b ∧ Q b) ∨ (isEx u = true ∧ cs.length = 1 ∧ (∀ c ∈ cs, c ∈ btys) ∧ Q false) := by
  cases q : tyU O1 u with
  | none => rw [q] at f; exact .inr f
  | some t =>
    rw [q] at f
    obtain ⟨b, e, f⟩ := f
    exact .inl ⟨t, b, rfl, e, f⟩
theorem sd_isi {a : Y} (cs : List String) (da : Sd G k Γ a) : Sd G k Γ (.isi a cs) := .ofE _ (fun _ => rfl) fun X W0 S g e c => by
  split at c
  · rename_i x tc _
    obtain ⟨c, c7⟩ := ba c
    obtain ⟨c, c6⟩ := ba c
    obtain ⟨c, c5⟩ := ba c
    obtain ⟨c, c4⟩ := ba c
    obtain ⟨c, c3⟩ := ba c
    obtain ⟨c1, c2⟩ := ba c
    cases of_decide_eq_true c1
    have hz : cs.length ≤ sizeLine := Nat.le_trans (of_decide_eq_true c7) (by decide)
    have hm := g.free "isinstance" (by decide)
    have key : ∀ {σ : L2.St} {H : Hp} {F : V → Hp → Prop} {Q : VK} {B : Addr → Prop} {α : List Addr} {ρ : List (Option U)} {O : List DO} {Q0 : ZQ} {E0 : ZX}, Rep G B α σ H ρ O → vc Γ (.isi a cs) E0 ρ O Q0 → QLow G B α O H Q0 Q → ELow G B W0 α O H E0 →
        (∀ v α1 O1 H1 u b, Own G B α1 O1 H1 → AtU G.K B α1 O1 H1 v u → ((∃ t, tyU O1 u = some t ∧ isiB t cs = some b) ∨ (isEx u = true ∧ cs.length = 1 ∧ (∀ c ∈ cs, c ∈ btys) ∧ b = false)) → (∀ H2, Stp α1 O1 H1 α1 O1 H2 → Own G B α1 O1 H2 → Q (.bl b) H2) → F v H1) → LfE G W0 (vc Γ a) σ H F := by
      intro σ H F Q B α ρ O Q0 E0 R h hq hl kk
      refine seqE R h hl fun u O1 f α1 v H1 s1 w1 a1 => ?_
      rcases isi_split (Q := fun b => Q0 [.d (.bl b)] O1) f with ⟨t, b, q, e, f⟩ | ⟨e1, e2, e3, f⟩
      · exact kk v α1 O1 H1 u b w1 a1 (.inl ⟨t, q, e⟩) fun H2 s2 w2 => hq.to f (s1.trans s2) w2 (.d (.bl _))
      · exact kk v α1 O1 H1 u false w1 a1 (.inr ⟨e1, e2, e3, rfl⟩) fun H2 s2 w2 => hq.to f (s1.trans s2) w2 (.d (.bl _))
    cases tc with
    | Name t p =>
      match cs, c6 with
      | [n], c6 =>
        have c6' : tyB S.sc t n = true := c6
        refine pe_imp (pe_callB call_isX (glo_of g c2) hm (by decide +kernel) (pa_two (da.E X W0 S g _ c5) (pe_tyB g c6') c3 rfl) (by decide) (by decide) (starEach_plain c3) rfl) fun σ H Q ⟨B, α, ρ, O, Q0, E0, R, h, hq, hl⟩ => ?_
        refine key R h hq hl fun v α1 O1 H1 u b w1 a1 e12 q => ?_
        rcases e12 with ⟨t, e1, e2⟩ | ⟨e1, _, e3, rfl⟩
        · have e3 := isiB_any (K := X.K) e2
          refine .inl ⟨v, .ty n, .type t, .type n, b, rfl, .ty n, by rw [g.hK]; exact tyU_of w1 a1 e1, ?_, q H1 Stp.refl w1⟩
          rw [isiB] at e2
          cases qk : kitB t n with
          | none => rw [qk] at e2; cases e2
          | some r =>
            rw [qk] at e2
            cases r with
            | true => cases e2; exact kit_ty qk
            | false => cases e2; exact kit_ty qk
        · cases a1 with
          | d a1 =>
            cases a1 with
            | exc e e4 m m2 ok hn r =>
              exact .inr ⟨_, _, _, _, .ty n, n, false, rfl, e, e4, by rw [g.hK]; exact ok.1, fun u ru => .inl ru, fun u ru => by cases (show u = .type n from ru); rw [g.hK]; exact excB_ty ok.1 (e3 n List.mem_cons_self), q H1 Stp.refl w1⟩
            | _ => cases e1
          | _ => cases e1
      | [], c6 => cases c6
      | _ :: _ :: _, c6 => cases c6
    | Tuple ts m p =>
      have c6' : tysB S.sc ts cs = true := by
        unfold isiC at c6
        exact c6
      refine pe_imp (pe_callB call_isiTX (glo_of g c2) hm (by decide +kernel) (pa_two (da.E X W0 S g _ c5) (pe_tup (pa_tys g c6')) c3 rfl) (by decide) (by decide) (starEach_plain c3) rfl) fun σ H Q ⟨B, α, ρ, O, Q0, E0, R, h, hq, hl⟩ => ?_
      refine key R h hq hl fun v α1 O1 H1 u b w1 a1 e12 q => ?_
      refine ⟨by rw [List.length_map]; exact hz, fun p hp => ?_⟩
      have s := stp_new (α := α1) (O := O1) (o := .tup (cs.map V.ty)) hp
      have w2 := own_new (o := .tup (cs.map V.ty)) w1 hp
      rcases e12 with ⟨t, e1, e2⟩ | ⟨e1, e2, e3, rfl⟩
      · exact .inl ⟨v, p, cs.map V.ty, .type t, cs.map Value.type, b, rfl, upd_same, paired_ty cs, by rw [g.hK]; exact tyU_of w2 (s.atU a1) e1, isiB_any e2, q _ s w2⟩
      · have a9 := s.atU a1
        cases a9 with
          | d a9 =>
            cases a9 with
            | exc e e4 m m2 ok hn r =>
              refine .inr ⟨_, _, _, _, p, cs.map V.ty, cs.map Value.type, false, rfl, e, e4, by rw [g.hK]; exact ok.1, upd_same, paired_ty cs, ?_, q _ s w2⟩
              match cs, e2, e3 with
              | [n], _, e3 => exact kitAny_cons (by rw [g.hK]; exact excB_ty ok.1 (e3 n List.mem_cons_self)) (fun _ => rfl) (fun z => by cases z)
            | _ => cases e1
          | _ => cases e1
    | _ => cases c6
  · cases c
theorem plainIx_of {b : Expr} (h : noSlice b = true) : PlainIx b := by
  intro o i
  cases b <;> first | rfl | cases h
def rIxU (K : PySem.W.Frag) : R2 := rIxT K
theorem AtUs.get {B : Addr → Prop} {α : List Addr} {O : List DO} {H : Hp} {K : PySem.W.Frag} : ∀ {vs : List V} {us : List U} {i : Nat} {u : U}, AtUs K B α O H vs us → us[i]? = some u → ∃ v, vs[i]? = some v ∧ AtU K B α O H v u
  | _, _, _, _, .nil, e => by simp at e
  | _, _, 0, _, .cons a _, e => by simp at e; subst e; exact ⟨_, rfl, a⟩
  | _, _, i + 1, v, .cons _ r, e => by
    obtain ⟨d, h1, h2⟩ := AtUs.get (i := i) (u := v) r (by simpa using e)
    exact ⟨d, by simpa using h1, h2⟩
theorem AtUs.atI {B : Addr → Prop} {α : List Addr} {O : List DO} {H : Hp} {K : PySem.W.Frag} {vs : List V} {us : List U} (r : AtUs K B α O H vs us) {i : Int} {u : U} (e : L2.atI us i = some u) : ∃ v, L2.atI vs i = some v ∧ AtU K B α O H v u := by
  unfold L2.atI at e ⊢
  rw [r.length]
  cases q : ixN us.length i with
  | none => rw [q] at e; cases e
  | some j =>
    rw [q] at e
    exact AtUs.get r e
theorem sd_ix {a b : Y} (da : Sd G k Γ a) (db : Sd G k Γ b) : Sd G k Γ (.ix a b) := .ofE _ (fun _ => rfl) fun X W0 S g e c => by
  split at c
  · obtain ⟨c, c3⟩ := ba c
    obtain ⟨c1, c2⟩ := ba c
    refine pe_imp (pe_ix (.or (ix_r g.hK) (.or ix_tup ix_list)) (da.E X W0 S g _ c1) (db.E X W0 S g _ c2) (plainIx_of c3)) fun σ H Q ⟨B, α, ρ, O, Q0, E0, R, h, hq, hl⟩ => ?_
    refine seq2 R h hl fun u w O2 f α2 v v2 H2 s2 w2 a1 a2 => ?_
    obtain ⟨y, e2, f⟩ := nrK_of f
    have ay := Vw.of w2 a2 e2
    have dat : (nrK O2 u fun x => ixD x y fun z => Q0 [.d z] O2) → rB G ixD v v2 H2 Q := fun f => by
      obtain ⟨x, e1, f⟩ := nrK_of f
      exact ⟨B, α2, O2, x, y, _, w2, Vw.of w2 a1 e1, ay, f, fun z q v' H' s' w' a' => hq.to q (s2.trans s') w' (.d a')⟩
    cases u with
    | d x => exact .inl (dat f)
    | o k => exact .inl (dat f)
    | t us =>
      cases y with
      | int i =>
        obtain ⟨w, e3, f⟩ := f
        obtain rfl := ay.int
        cases a1 with
        | t e m r =>
        obtain ⟨v3, e4, a3⟩ := r.atI e3
        exact .inr (.inl ⟨_, _, i, v3, rfl, rfl, SqT.of e, e4, hq.to f s2 w2 a3⟩)
      | _ => exact f.elim
    | l us =>
      cases y with
      | int i =>
        obtain ⟨w, e3, f⟩ := f
        obtain rfl := ay.int
        cases a1 with
        | l e m r =>
        obtain ⟨v3, e4, a3⟩ := r.atI e3
        exact .inr (.inr ⟨_, _, i, v3, rfl, rfl, SqL.of e, e4, hq.to f s2 w2 a3⟩)
      | _ => exact f.elim
  · cases c
theorem partK_of {us : List U} {k : Option Int → Prop} (h : partK us k) : (us = [] ∧ k none) ∨ ∃ i, us = [.d (.int i)] ∧ k (some i) := by
  unfold partK at h
  split at h
  · exact .inl ⟨rfl, h⟩
  · exact .inr ⟨_, rfl, h⟩
  · exact h.elim
theorem sd_sl {a lo hi : Y} (da : Sd G k Γ a) (dl : Sd G k Γ lo) (dh : Sd G k Γ hi) : Sd G k Γ (.sl a lo hi) := .ofE _ (fun _ => rfl) fun X W0 S g e c => by
  split at c
  · obtain ⟨c, c3⟩ := ba c
    obtain ⟨c1, c2⟩ := ba c
    refine pe_imp (pe_slice (sl_r g.hK) (da.E X W0 S g _ c1) (dl.O X W0 S g _ c2) (dh.O X W0 S g _ c3)) fun σ H Q ⟨B, α, ρ, O, Q0, E0, R, h, hq, hl⟩ => ?_
    refine seqE R h hl fun u O1 f α1 v H1 s1 w1 a1 => ?_
    have part : ∀ {σ : L2.St} {B : Addr → Prop} {α : List Addr} {O : List DO} {H : Hp} {t : ZE} {F : Option Int → List DO → Prop} {Q : Option Int → Hp → Prop}, Rep G B α σ H ρ O → (t E0 ρ O fun ls O2 => partK ls fun l => F l O2) → ELow G B W0 α O H E0 →
        (∀ l O2, F l O2 → ∀ α2 H2, Stp α O H α2 O2 H2 → Own G B α2 O2 H2 → Q l H2) → LfO G W0 t σ H Q := fun {σ B α O H t F Q} R h hl kk =>
      ⟨B, α, ρ, O, _, E0, R, h, fun ls O2 q => by
        rcases partK_of q with ⟨e, q⟩ | ⟨i, e, q⟩
        · exact ⟨none, .inl ⟨e, rfl⟩, kk _ _ q⟩
        · exact ⟨some i, .inr ⟨i, e, rfl⟩, kk _ _ q⟩, hl⟩
    refine part (R.stp s1 w1) f (hl.stp s1) fun l O2 f2 α2 H2 s2 w2 => ?_
    refine part ((R.stp s1 w1).stp s2 w2) f2 ((hl.stp s1).stp s2) fun r O3 f3 α3 H3 s3 w3 => ?_
    obtain ⟨x, e1, f3⟩ := nrK_of f3
    exact ⟨B, α3, O3, x, _, w3, Vw.of w3 (s3.atU (s2.atU a1)) e1, f3, fun z q v' H' s' w' a' => hq.to q (((s1.trans s2).trans s3).trans s') w' (.d a')⟩
  · cases c
end
end Z

set_option Elab.async false
set_option linter.all false
set_option maxRecDepth 100000
set_option maxHeartbeats 4000000
namespace Z
open PySem PySem.Spec PyProof.Rows L2
/-! ### enumerate over a tuple -/
theorem meets_enumT (ta : Addr) (xs : Array Value) :
    Meets (Builtin.«enumerate.__new__» ⟨[.type "enumerate", .ref ta], []⟩) (fun _ R s => s.heap.IsTuple ta xs ∧
      R (.ok (.ret (.ref (s.heap.push { cls := .type "tuple_iterator", data := .fields #[.ref ta, .int 0 0] }).objs.size)))
        { s with heap := (s.heap.push { cls := .type "tuple_iterator", data := .fields #[.ref ta, .int 0 0] }).push { cls := .type "enumerate", data := .fields #[.none, .bool false, .ref s.heap.objs.size, rawInt 0, .none, .none] } }) :=
  .of_wp fun prog w A R s h => by
    obtain ⟨hp, g, d, tk, os⟩ := s; obtain ⟨ht, h⟩ := h
    have hs0 := sub_enumerate
    have q1 : ∀ {A2 : Around} {E2 : Value → Shared → Prop} {Q2 : Value → Shared → Prop}, Q2 (.ref hp.objs.size) ⟨hp.push { cls := .type "tuple_iterator", data := .fields #[.ref ta, .int 0 0] }, g, d, tk, os⟩ → wpAny (model prog w) A2 (pyIter (.ref ta)) Q2 E2 ⟨hp, g, d, tk, os⟩ :=
      fun q => wpAny_pyIter_tuple ht q
    wp_walk using q1
    refine wpAny_stack_any fun sk => wpAny_pure ?_
    split
    · rename_i c _ _ _ _ _
      cases (c == Value.type "enumerate") <;> (wp_walk using q1; exact ⟨_, rfl, h⟩)
    · wp_walk using q1; exact ⟨_, rfl, h⟩
section
variable {prog : Program} {w : World} {A : Around} {E : Value → Shared → Prop} {s : Shared}
theorem call_enumT {ta : Addr} {xs : Array Value} {Q : Value → Shared → Prop} (ht : s.heap.IsTuple ta xs)
    (hq : ∀ h2, IsEnum h2 (s.heap.objs.size + 1) s.heap.objs.size 0 .none → h2.IsTupleIter s.heap.objs.size ta 0 → h2.objs.size = s.heap.objs.size + 2 → (∀ b o, s.heap.get? b = some o → h2.get? b = some o) → Q (.ref (s.heap.objs.size + 1)) { s with heap := h2 }) :
    wpAny (model prog w) A (call (.type "enumerate") [.ref ta]) Q E s := by
  refine callType_new F.called_enumerate (by decide) (F.typeCall_enumerate_1 _) (F.newCall_enumerate_1 _) (fun z => F.args_object_init_2 z _) F.entry_enumerate_new (meets_enumT ta xs) ⟨ht, ?_⟩
  have sz : (s.heap.push { cls := .type "tuple_iterator", data := .fields #[.ref ta, .int 0 0] }).objs.size = s.heap.objs.size + 1 := Heap.size_push ..
  show _ ∧ _
  rw [sz]
  have en : IsEnum ((s.heap.push { cls := .type "tuple_iterator", data := .fields #[.ref ta, .int 0 0] }).push { cls := .type "enumerate", data := .fields #[.none, .bool false, .ref s.heap.objs.size, rawInt 0, .none, .none] }) (s.heap.objs.size + 1) s.heap.objs.size 0 .none := by
    have z := Heap.get?_push_size (s.heap.push { cls := .type "tuple_iterator", data := .fields #[.ref ta, .int 0 0] }) (o := { cls := .type "enumerate", data := .fields #[.none, .bool false, .ref s.heap.objs.size, rawInt 0, .none, .none] }) rfl
    rw [sz] at z
    exact z
  refine ⟨⟨_, en, rfl⟩, hq _ en ⟨_, Heap.get?_push_of_some _ (Heap.get?_push_size _ rfl), rfl, rfl⟩ (by rw [Heap.size_push, sz]) fun b o y => Heap.get?_push_of_some _ (Heap.get?_push_of_some _ y)⟩
end
theorem next_enumT_end {prog : Program} {w : World} {A : Around} {E : Value → Shared → Prop} {s : Shared} {e it ta : Addr} {i : Nat} {j : Int} {xs : Array Value} {old : Value} {Q : Option Value → Shared → Prop} (h0 : A.handled = none) (en : IsEnum s.heap e it j old) (hit : s.heap.IsTupleIter it ta i) (ht : s.heap.IsTuple ta xs) (hx : xs[i]? = none)
    (hq : ∀ h2, Heap.ExtBut it s.heap h2 → Q none { s with heap := h2 }) : wpAny (model prog w) A (pyNext (.ref e)) Q E s := by
  have ty : s.TypeIs (.ref e) "enumerate" := ⟨_, en, rfl⟩
  unfold pyNext
  refine wpAny_bind (wpAny_attempt (wpAny_callSpecial?_slot (name := Str.ofString "__next__") ty F.slot_enumerate_next (wpAny_call_entry F.slot_enumerate_next ty F.entry_enumerate_next ?_ (F.args_enumerate_next_1 _))))
  show wpAny _ _ (field (.ref e) 2 >>= _) _ _ _
  refine wpAny_bind (wpAny_field en rfl (x := .ref it) rfl (wpAny_bind (RZ.nextOf_tuple_end (A := A.in1) (show A.in1.handled = none from h0) hit ht hx fun h2 y he2 hy => ?_)))
  obtain ⟨o, ho, hc⟩ := hy
  exact wpAny_bind (wpAny_isInstance (T := "StopIteration") (b := true) ⟨o, ho, hc⟩ isSubtype_stop (wpAny_pure (hq _ he2)))
/-- the tuple at a, each item in a new pair with its place -/
def IteT (K : PySem.W.Frag) (a : Addr) : It :=
  ⟨fun i H => ∃ (xs : List V) (x : V), SqT K H a xs ∧ xs[i]? = some x, fun i H v H2 => ∃ T x, v = .ref T ∧ H T = none ∧ H2 = upd H T (.tup [.int (i : Nat), x]) ∧ ∀ xs, SqT K H a xs → xs[i]? = some x, fun i H => ∃ xs : List V, SqT K H a xs ∧ xs.length ≤ i⟩
theorem turn_enumT {P : Program} {w : World} {K : PySem.W.Frag} {elts : List Expr} {kk : Nat} {tpos : Pos} (a e it : Addr) :
    Turn P w K (.Tuple elts kk tpos) (IteT K a) [e, it] e (fun i h => (∃ old, IsEnum h e it ((i : Nat) : Int) old) ∧ h.IsTupleIter it a i ∧ e ≠ it ∧ a ≠ e ∧ a ≠ it) where
  mem := by simp
  obj := fun i h st b hb => by
    obtain ⟨⟨old, en⟩, ⟨o, ho, hc, hd⟩, _⟩ := st
    have two : b = e ∨ b = it := by simpa using hb
    rcases two with z | z
    · rw [z]; exact ⟨_, en, fun v q => nomatch q⟩
    · rw [z]; exact ⟨o, ho, fun v q => by rw [hd] at q; cases q⟩
  keep := fun i h h2 st k => let ⟨⟨old, en⟩, hi, h3⟩ := st; ⟨⟨old, k e (by simp) _ en⟩, hi.at fun o q => k it (by simp) o q, h3⟩
  item := by
    intro X hP hw hK hc i pins s σ H E I hf st hg
    subst hP hw hK
    obtain ⟨⟨old, en⟩, hit, n1, n2, n3⟩ := st
    obtain ⟨xs, x, hsq, hx⟩ := hg
    obtain ⟨ys, rv, tp, hz⟩ := I.tuple hsq
    obtain ⟨u, hu, ru⟩ := rv.get hx
    have tp : s.heap.IsTuple a ys.toArray := tp
    have le1 : e < s.heap.objs.size := Heap.lt_size en
    have le2 : it < s.heap.objs.size := by obtain ⟨_, q, _⟩ := hit; exact Heap.lt_size q
    have hix : i < ys.toArray.size := by
      have := (List.getElem?_eq_some_iff.mp hu).1
      simpa using this
    refine wpAny_pyNext_enum_itemD (Draws.tuple (A := X.A.in1) (show X.A.in1.handled = none from I.ok.hd hc) it a n3 ys.toArray) en ⟨hit, tp⟩ hix n1 (by simp [n1, Ne.symm n2]) fun y h2 tk hy ho st2 hT hsz hk => ?_
    have huy : ys.toArray[i]? = some y := hy
    have ey : y = u := by
      have z : ys.toArray[i]? = some u := by simpa using hu
      rw [huy] at z
      cases z
      rfl
    subst ey
    refine ⟨_, rfl, wpAny_letOwnedTupleGo_enum (s := { s with heap := h2, toks := tk + 1 }) ho fun h3 he3 sb => ?_⟩
    have hT2 : h3.get? s.heap.objs.size = some { cls := .type "tuple", data := .seq #[.int i tk, y] } := (sb.2 _ (Nat.ne_of_gt le1)).trans hT
    have new : ObjOk X.prog X.w (upd H s.heap.objs.size (.tup [.int (i : Nat), x])) h3 s.heap.objs.size (.tup [.int (i : Nat), x]) :=
      ⟨by show 2 ≤ sizeLine; decide, [.int i tk, y], .cons ⟨_, rfl⟩ (.cons ru .nil), ⟨_, hT2, rfl, _, rfl⟩⟩
    have I1 : Inv X pins σ (upd H s.heap.objs.size (.tup [.int (i : Nat), x])) { s with heap := h3, toks := tk + 1 } :=
      I.turnedNew (ch := [e, it]) (fun b ob hb q => (sb.2 b (fun z => hb (by simp [z]))).trans (hk b ob (fun z => hb (by simp [z])) (fun z => hb (by simp [z])) q)) hf (Nat.le_refl _) new
    refine ⟨.ref s.heap.objs.size, _, I1, rfl, ⟨_, x, rfl, I.hok.fresh (Nat.le_refl _), rfl, fun zs hz2 => by rw [I.tuple_inj hz2 hsq]; exact hx⟩, ⟨⟨y, ?_⟩, st2.1.at fun o q => (sb.2 it (Ne.symm n1)).trans q, n1, n2, n3⟩, fun b hb => ?_⟩
    · have e1 : ((i + 1 : Nat) : Int) = (i : Int) + 1 := by omega
      rw [e1]
      exact he3
    · have two : b = e ∨ b = it := by simpa using hb
      have hb2 : b < s.heap.objs.size := by
        rcases two with z | z
        · rw [z]; exact le1
        · rw [z]; exact le2
      rw [upd_ne (Nat.ne_of_lt hb2)]
      exact (hf b hb).1
  done := by
    intro X hP hw hK hc i pins s σ H E I hf st hg
    subst hP hw hK
    obtain ⟨⟨old, en⟩, hit, n1, n2, n3⟩ := st
    obtain ⟨xs, hsq, hx⟩ := hg
    obtain ⟨ys, rv, tp, hz⟩ := I.tuple hsq
    obtain ⟨g0, g1, g2, g3, g4, g5⟩ := hf it (by simp)
    have tp : s.heap.IsTuple a ys.toArray := tp
    have hl := rv.length
    exact next_enumT_end (I.ok.hd hc) en hit tp (by simp; omega) fun h2 eb => ⟨rfl, I.turned (t' := s.toks) (fun b o hb q => eb b o hb q) g0 g1 g3 g4 g5⟩
  self := fun A i s Q E st h => let ⟨⟨_, en⟩, _⟩ := st; wpAny_pyIter_enum en h
def iEnumA (K : PySem.W.Frag) (ta : TA) : TI := fun σ H R => ta σ H fun vs H1 => ∃ a xs, vs = [.ref a] ∧ ((SqL K H1 a xs ∧ R (Ite K a) H1) ∨ (SqT K H1 a xs ∧ R (IteT K a) H1))
theorem pi_enumA {X : Cx} {e : Expr} {ta : TA} {p pos tpos : Pos} {elts : List Expr} {kk : Nat} (hg : Gl X "enumerate") (hm : X.mg "enumerate" = none) (ha : PA X [e] ta) (hs : starEach [e] X.env = [(false, eval e X.env)]) :
    PI X (.Tuple elts kk tpos) (.Call (.Name "enumerate" p) [e] [] pos) (iEnumA X.K ta) := by
  refine ⟨fun pins s σ H R I h => ?_⟩
  refine Call_ (ld_blt I hg hm boot_enumerate (PyProof.Rows.callWith_type1 (thn (ha.run pos pins s σ H _ I h) fun us s1 ⟨vs, H1, I1, r1, q1⟩ => ?_) hs rfl))
  obtain ⟨a, xs, ex, q1⟩ := q1
  subst ex
  cases r1 with
  | cons r rr =>
  cases rr
  cases r
  have fresh : ∀ b, b ∈ [s1.heap.objs.size + 1, s1.heap.objs.size] → FpOk X pins H1 b := fun b hb => by
    have two : b = s1.heap.objs.size + 1 ∨ b = s1.heap.objs.size := by simpa using hb
    have le1 : s1.heap.objs.size ≤ b := by omega
    exact I1.fpOk le1 (I1.hok.fresh le1)
  rcases q1 with ⟨hq, q⟩ | ⟨hq, q⟩
  · obtain ⟨its, rv, pl, hz⟩ := I1.list hq
    refine call_enumerate_list pl.isList fun h2 en hit hsz hk => wpAny_pyIter_enum en ?_
    exact ⟨s1.heap.objs.size + 1, [s1.heap.objs.size + 1, s1.heap.objs.size], _, _, H1, rfl, I1.kept (t' := s1.toks) hk, turn_enum a (s1.heap.objs.size + 1) s1.heap.objs.size, ⟨⟨.none, en⟩, hit, Nat.succ_ne_self _⟩, fresh, q⟩
  · obtain ⟨its, rv, pt, hz⟩ := I1.tuple hq
    have pt : s1.heap.IsTuple a its.toArray := pt
    have al : a < s1.heap.objs.size := by
      obtain ⟨o, ho, _⟩ := id pt
      exact Heap.lt_size ho
    refine call_enumT pt fun h2 en hit hsz hk => wpAny_pyIter_enum en ?_
    exact ⟨s1.heap.objs.size + 1, [s1.heap.objs.size + 1, s1.heap.objs.size], _, _, H1, rfl, I1.kept (t' := s1.toks) hk, turn_enumT a (s1.heap.objs.size + 1) s1.heap.objs.size, ⟨⟨.none, en⟩, hit, Nat.succ_ne_self _, Nat.ne_of_lt (Nat.lt_succ_of_lt al), Nat.ne_of_lt al⟩, fresh, q⟩
theorem walk_enumT {K : PySem.W.Frag} {a : Addr} {xs : List V} : L2.Walk (IteT K a) xs.length (fun H => SqT K H a xs) (YPair (fun i => some (.int (i : Nat))) (fun i => xs[i]?)) := by
  refine ⟨fun i _ hi q => ⟨xs, xs[i], q, by simp [hi]⟩, fun _ q => ⟨xs, q, Nat.le_refl _⟩, fun i H v H2 _ q y => ?_⟩
  obtain ⟨T, x, h1, h2, h3, h4⟩ := y
  exact ⟨T, .int (i : Nat), x, h1, h2, h3, rfl, h4 xs q⟩
end Z

set_option Elab.async false
set_option linter.all false
set_option maxRecDepth 100000
set_option maxHeartbeats 4000000
namespace Z
open PySem PySem.Spec PyProof.Rows L2
/-! ### zip of a list and a tuple -/
def ItzM (K : PySem.W.Frag) (a b : Addr) : It :=
  ⟨fun i H => ∃ (xs ys : List V) (x y : V), SqL K H a xs ∧ SqT K H b ys ∧ xs[i]? = some x ∧ ys[i]? = some y,
    fun i H v H2 => ∃ T x y, v = .ref T ∧ H T = none ∧ H2 = upd H T (.tup [x, y]) ∧ (∀ xs, SqL K H a xs → xs[i]? = some x) ∧ ∀ ys, SqT K H b ys → ys[i]? = some y,
    fun i H => ∃ xs ys : List V, SqL K H a xs ∧ SqT K H b ys ∧ i ≤ xs.length ∧ i ≤ ys.length ∧ (i = xs.length ∨ i = ys.length)⟩
theorem turn_zipM {P : Program} {w : World} {K : PySem.W.Frag} {elts : List Expr} {kk : Nat} {tpos : Pos} {a b z TI TO i1 i2 : Addr} (S : ZipSep2 z TI TO i1 i2 [i1, a] [i2, b]) (na : a ≠ i1) (nb : b ≠ i2) :
    Turn P w K (.Tuple elts kk tpos) (ItzM K a b) [z, TI, TO, i1, i2] z (fun i h => IsZip h z TI TO .none ∧ IsTupOf2 h TI (.ref i1) (.ref i2) ∧ (∃ x y, IsTupOf2 h TO x y) ∧ h.IsListIter i1 a i ∧ h.IsTupleIter i2 b i) where
  mem := by simp
  obj := fun i h st c hc => by
    obtain ⟨q1, q2, ⟨x, y, q3⟩, ⟨o1, e1, _, d1⟩, ⟨o2, e2, _, d2⟩⟩ := st
    have five : c = z ∨ c = TI ∨ c = TO ∨ c = i1 ∨ c = i2 := by simpa using hc
    rcases five with q | q | q | q | q
    · rw [q]; exact ⟨_, q1, fun v q => nomatch q⟩
    · rw [q]; exact ⟨_, q2, fun v q => nomatch q⟩
    · rw [q]; exact ⟨_, q3, fun v q => nomatch q⟩
    · rw [q]; exact ⟨o1, e1, fun v q => by rw [d1] at q; cases q⟩
    · rw [q]; exact ⟨o2, e2, fun v q => by rw [d2] at q; cases q⟩
  keep := fun i h h2 st k => by
    obtain ⟨q1, q2, ⟨x, y, q3⟩, q4, q5⟩ := st
    exact ⟨k z (by simp) _ q1, k TI (by simp) _ q2, ⟨x, y, k TO (by simp) _ q3⟩, q4.at fun o q => k i1 (by simp) o q, q5.at fun o q => k i2 (by simp) o q⟩
  item := by
    intro X hP hw hK hc i pins s σ H E I hf st hg
    subst hP hw hK
    obtain ⟨q1, q2, ⟨x0, y0, q3⟩, q4, q5⟩ := st
    obtain ⟨xs, ys, x, y, sx, sy, gx, gy⟩ := hg
    obtain ⟨us, rv, pl, _⟩ := I.list sx
    obtain ⟨ws, rw2, pt, _⟩ := I.tuple sy
    obtain ⟨u, hu, ru⟩ := rv.get gx
    obtain ⟨t, ht, rt⟩ := rw2.get gy
    have pt : s.heap.IsTuple b ws.toArray := pt
    have zl : z < s.heap.objs.size := Heap.lt_size q1
    have lu : i < us.toArray.size := by
      have := (List.getElem?_eq_some_iff.mp hu).1
      simpa using this
    have lt : i < ws.toArray.size := by
      have := (List.getElem?_eq_some_iff.mp ht).1
      simpa using this
    have h0 : X.A.in1.handled = none := I.ok.hd hc
    refine wpAny_pyNext_zipD2_item S (Draws.list (A := X.A.in1) h0 i1 a na us.toArray) (Draws.tuple (A := X.A.in1) h0 i2 b nb ws.toArray) q1 q2 q3 ⟨q4, pl.isList⟩ ⟨q5, pt⟩ lu lt fun x1 x2 h2 tk e1 e2 z2 T2 st1 st2 hT hsz hk => ?_
    have e1 : us.toArray[i]? = some x1 := e1
    have e2 : ws.toArray[i]? = some x2 := e2
    have ex1 : x1 = u := by
      have k : us.toArray[i]? = some u := by simpa using hu
      rw [e1] at k
      cases k
      rfl
    have ex2 : x2 = t := by
      have k : ws.toArray[i]? = some t := by simpa using ht
      rw [e2] at k
      cases k
      rfl
    subst ex1 ex2
    refine ⟨_, rfl, wpAny_letOwnedTupleGo_zip (s := { s with heap := h2, toks := tk }) z2 fun h3 z3 sb => ?_⟩
    have hT2 : h3.get? s.heap.objs.size = some { cls := .type "tuple", data := .seq #[x1, x2] } := (sb.2 _ (Nat.ne_of_gt zl)).trans hT
    have new : ObjOk X.prog X.w (upd H s.heap.objs.size (.tup [x, y])) h3 s.heap.objs.size (.tup [x, y]) := ⟨by show 2 ≤ sizeLine; decide, [x1, x2], .cons ru (.cons rt .nil), ⟨_, hT2, rfl, _, rfl⟩⟩
    have I1 : Inv X pins σ (upd H s.heap.objs.size (.tup [x, y])) { s with heap := h3, toks := tk } :=
      I.turnedNew (ch := [z, TI, TO, i1, i2]) (fun c o hb q => (sb.2 c (fun k => hb (by simp [k]))).trans (hk c o (fun k => hb (by simp [k])) (fun k => hb (by simp [k])) (fun k => hb (by simp [k])) (fun k => hb (by simp [k])) q)) hf (Nat.le_refl _) new
    refine ⟨.ref s.heap.objs.size, _, I1, rfl, ⟨_, x, y, rfl, I.hok.fresh (Nat.le_refl _), rfl, fun l hl => by rw [I.list_inj hl sx]; exact gx, fun l hl => by rw [I.tuple_inj hl sy]; exact gy⟩, ⟨z3, ?_, ⟨x1, x2, ?_⟩, ?_, ?_⟩, fun c hcm => ?_⟩
    · exact (sb.2 _ S.TIz).trans (hk _ _ S.TIz S.TITO S.TIi1 S.TIi2 q2)
    · exact (sb.2 _ S.TOz).trans T2
    · exact st1.1.at fun o q => (sb.2 _ (Ne.symm S.zi1)).trans q
    · exact st2.1.at fun o q => (sb.2 _ (Ne.symm S.zi2)).trans q
    · have hlt : c < s.heap.objs.size := by
        have five : c = z ∨ c = TI ∨ c = TO ∨ c = i1 ∨ c = i2 := by simpa using hcm
        rcases five with q | q | q | q | q
        · rw [q]; exact zl
        · rw [q]; exact Heap.lt_size q2
        · rw [q]; exact Heap.lt_size q3
        · rw [q]; obtain ⟨_, e1, _⟩ := q4; exact Heap.lt_size e1
        · rw [q]; obtain ⟨_, e2, _⟩ := q5; exact Heap.lt_size e2
      rw [upd_ne (Nat.ne_of_lt hlt)]
      exact (hf c hcm).1
  done := by
    intro X hP hw hK hc i pins s σ H E I hf st hg
    subst hP hw hK
    obtain ⟨q1, q2, ⟨x0, y0, q3⟩, q4, q5⟩ := st
    obtain ⟨xs, ys, sx, sy, l1, l2, l3⟩ := hg
    obtain ⟨us, rv, pl, _⟩ := I.list sx
    obtain ⟨ws, rw2, pt, _⟩ := I.tuple sy
    have pt : s.heap.IsTuple b ws.toArray := pt
    have k1 := rv.length
    have k2 := rw2.length
    have h0 : X.A.in1.handled = none := I.ok.hd hc
    exact wpAny_pyNext_zipD2_end S (Draws.list (A := X.A.in1) h0 i1 a na us.toArray) (Draws.tuple (A := X.A.in1) h0 i2 b nb ws.toArray) q1 q2 q3 ⟨q4, pl.isList⟩ ⟨q5, pt⟩ (by simp; omega) (by simp; omega) (by simp; omega) fun h2 tk hk => ⟨rfl, I.turnedL (t' := tk) (ch := [z, TI, TO, i1, i2]) (fun c o hb q =>
      hk c o (fun k => hb (by simp [k])) (fun k => hb (by simp [k])) (fun k => hb (by simp [k])) (fun k => hb (by simp [k])) q) hf⟩
  self := fun A i s Q E st h => wpAny_pyIter_zip st.1 h
def iZipM (K : PySem.W.Frag) (ta : TA) : TI := fun σ H R => ta σ H fun vs H1 => (∃ a b xs ys, vs = [.ref a, .ref b] ∧ ((SqL K H1 a xs ∧ SqL K H1 b ys ∧ R (Itz K a b) H1) ∨ (SqT K H1 a xs ∧ SqT K H1 b ys ∧ R (RZ.ItzT K a b) H1))) ∨ ∃ a b xs ys, vs = [.ref a, .ref b] ∧ SqL K H1 a xs ∧ SqT K H1 b ys ∧ R (ItzM K a b) H1
theorem pi_zipM {X : Cx} {e e2 : Expr} {ta : TA} {p pos tpos : Pos} {elts : List Expr} {kk : Nat} (hg : Gl X "zip") (hm : X.mg "zip" = none) (ha : PA X [e, e2] ta)
    (hs : starEach [e, e2] X.env = (false, eval e X.env) :: starEach [e2] X.env) (hpl : (backTo pos (starEach [e2] X.env)).any (·.1) = false) :
    PI X (.Tuple elts kk tpos) (.Call (.Name "zip" p) [e, e2] [] pos) (iZipM X.K ta) := by
  refine ⟨fun pins s σ H R I h => ?_⟩
  refine Call_ (ld_blt I hg hm PyProof.Rows.boot_zip (PyProof.Rows.callWith_type1 (thn (ha.run pos pins s σ H _ I h) fun us t ⟨vs, H1, I1, r1, q1⟩ => ?_) hs hpl))
  have fresh : ∀ c, c ∈ [t.heap.objs.size + 4, t.heap.objs.size + 2, t.heap.objs.size + 3, t.heap.objs.size, t.heap.objs.size + 1] → FpOk X pins H1 c := fun c hcm => by
    have five : c = t.heap.objs.size + 4 ∨ c = t.heap.objs.size + 2 ∨ c = t.heap.objs.size + 3 ∨ c = t.heap.objs.size ∨ c = t.heap.objs.size + 1 := by simpa using hcm
    have le1 : t.heap.objs.size ≤ c := by omega
    exact I1.fpOk le1 (I1.hok.fresh le1)
  rcases q1 with ⟨a, b, xs, ys, ex, q1⟩ | ⟨a, b, xs, ys, ex, hx, hy, q⟩
  · subst ex
    cases r1 with
    | cons r rr =>
    cases rr with
    | cons r' rr =>
    cases rr
    cases r
    cases r'
    rcases q1 with ⟨hx, hy, q⟩ | ⟨hx, hy, q⟩
    · obtain ⟨us, rv, p1, _⟩ := I1.list hx
      obtain ⟨ws, rw2, p2, _⟩ := I1.list hy
      refine call_zip_2 p1.isList p2.isList fun h2 z1 z2 z3 z4 z5 hsz hk => wpAny_pyIter_zip z1 ?_
      exact ⟨t.heap.objs.size + 4, [t.heap.objs.size + 4, t.heap.objs.size + 2, t.heap.objs.size + 3, t.heap.objs.size, t.heap.objs.size + 1], _, _, H1, rfl, I1.kept (t' := t.toks) hk, turn_zip (PySem.W.ktu_apart t.heap.objs.size a b p1.lt p2.lt), ⟨z1, z2, ⟨_, _, z3⟩, z4, z5⟩, fresh, q⟩
    · obtain ⟨us, rv, p1, _⟩ := I1.tuple hx
      obtain ⟨ws, rw2, p2, _⟩ := I1.tuple hy
      obtain ⟨o1, ho1, _⟩ := id p1
      obtain ⟨o2, ho2, _⟩ := id p2
      refine RZ.call_zipT (show t.heap.IsTuple a us.toArray from p1) (show t.heap.IsTuple b ws.toArray from p2) fun h2 z1 z2 z3 z4 z5 hsz hk => wpAny_pyIter_zip z1 ?_
      exact ⟨t.heap.objs.size + 4, [t.heap.objs.size + 4, t.heap.objs.size + 2, t.heap.objs.size + 3, t.heap.objs.size, t.heap.objs.size + 1], _, _, H1, rfl, I1.kept (t' := t.toks) hk, RZ.turn_zipT (PySem.W.ktu_apart t.heap.objs.size a b (Heap.lt_size ho1) (Heap.lt_size ho2)), ⟨z1, z2, ⟨_, _, z3⟩, z4, z5⟩, fresh, q⟩
  · subst ex
    cases r1 with
    | cons r rr =>
    cases rr with
    | cons r' rr =>
    cases rr
    cases r
    cases r'
    obtain ⟨us, rv, p1, _⟩ := I1.list hx
    obtain ⟨ws, rw2, p2, _⟩ := I1.tuple hy
    have p2 : t.heap.IsTuple b ws.toArray := p2
    have la : a < t.heap.objs.size := p1.lt
    have lb : b < t.heap.objs.size := by
      obtain ⟨o, ho, _⟩ := id p2
      exact Heap.lt_size ho
    refine zip_begins2 (begins_list a us.toArray) (begins_tuple b ws.toArray) p1.isList p2 fun h2 z1 z2 z3 z4 z5 hsz hk => wpAny_pyIter_zip z1 ?_
    refine ⟨t.heap.objs.size + 4, [t.heap.objs.size + 4, t.heap.objs.size + 2, t.heap.objs.size + 3, t.heap.objs.size, t.heap.objs.size + 1], _, _, H1, rfl, I1.kept (t' := t.toks) hk, turn_zipM (a := a) (b := b) (zip_sep2 (fp1 := [a]) (fp2 := [b]) (fun c hc => by rw [List.mem_singleton.mp hc]; exact la) fun c hc => by rw [List.mem_singleton.mp hc]; exact lb) (Nat.ne_of_lt la) (Nat.ne_of_lt (Nat.lt_succ_of_lt lb)), ⟨z1, z2, ⟨_, _, z3⟩, ⟨_, z4, rfl, rfl⟩, ⟨_, z5, rfl, rfl⟩⟩, fresh, q⟩
theorem walk_zipM {K : PySem.W.Frag} {a b : Addr} {xs ys : List V} {n : Nat} (hn : n = min xs.length ys.length) : L2.Walk (ItzM K a b) n (fun H => SqL K H a xs ∧ SqT K H b ys) (YPair (fun i => xs[i]?) (fun i => ys[i]?)) := by
  subst hn
  refine ⟨fun i _ hi q => ?_, fun _ q => ⟨xs, ys, q.1, q.2, by omega, by omega, by omega⟩, fun i H v H2 _ q y => ?_⟩
  · have h1 : i < xs.length := by omega
    have h2 : i < ys.length := by omega
    exact ⟨xs, ys, xs[i], ys[i], q.1, q.2, by simp [h1], by simp [h2]⟩
  · obtain ⟨T, x, z, h1, h2, h3, h4, h5⟩ := y
    exact ⟨T, x, z, h1, h2, h3, h4 xs q.1, h5 ys q.2⟩
end Z

set_option Elab.async false
set_option linter.all false
set_option maxRecDepth 100000
set_option maxHeartbeats 4000000
namespace Z
open PySem PySem.Spec PyProof.Rows L2
/-! ### zip of a tuple and a list -/
def ItzN (K : PySem.W.Frag) (a b : Addr) : It :=
  ⟨fun i H => ∃ (xs ys : List V) (x y : V), SqT K H a xs ∧ SqL K H b ys ∧ xs[i]? = some x ∧ ys[i]? = some y,
    fun i H v H2 => ∃ T x y, v = .ref T ∧ H T = none ∧ H2 = upd H T (.tup [x, y]) ∧ (∀ xs, SqT K H a xs → xs[i]? = some x) ∧ ∀ ys, SqL K H b ys → ys[i]? = some y,
    fun i H => ∃ xs ys : List V, SqT K H a xs ∧ SqL K H b ys ∧ i ≤ xs.length ∧ i ≤ ys.length ∧ (i = xs.length ∨ i = ys.length)⟩
theorem turn_zipN {P : Program} {w : World} {K : PySem.W.Frag} {elts : List Expr} {kk : Nat} {tpos : Pos} {a b z TI TO i1 i2 : Addr} (S : ZipSep2 z TI TO i1 i2 [i1, a] [i2, b]) (na : a ≠ i1) (nb : b ≠ i2) :
    Turn P w K (.Tuple elts kk tpos) (ItzN K a b) [z, TI, TO, i1, i2] z (fun i h => IsZip h z TI TO .none ∧ IsTupOf2 h TI (.ref i1) (.ref i2) ∧ (∃ x y, IsTupOf2 h TO x y) ∧ h.IsTupleIter i1 a i ∧ h.IsListIter i2 b i) where
  mem := by simp
  obj := fun i h st c hc => by
    obtain ⟨q1, q2, ⟨x, y, q3⟩, ⟨o1, e1, _, d1⟩, ⟨o2, e2, _, d2⟩⟩ := st
    have five : c = z ∨ c = TI ∨ c = TO ∨ c = i1 ∨ c = i2 := by simpa using hc
    rcases five with q | q | q | q | q
    · rw [q]; exact ⟨_, q1, fun v q => nomatch q⟩
    · rw [q]; exact ⟨_, q2, fun v q => nomatch q⟩
    · rw [q]; exact ⟨_, q3, fun v q => nomatch q⟩
    · rw [q]; exact ⟨o1, e1, fun v q => by rw [d1] at q; cases q⟩
    · rw [q]; exact ⟨o2, e2, fun v q => by rw [d2] at q; cases q⟩
  keep := fun i h h2 st k => by
    obtain ⟨q1, q2, ⟨x, y, q3⟩, q4, q5⟩ := st
    exact ⟨k z (by simp) _ q1, k TI (by simp) _ q2, ⟨x, y, k TO (by simp) _ q3⟩, q4.at fun o q => k i1 (by simp) o q, q5.at fun o q => k i2 (by simp) o q⟩
  item := by
    intro X hP hw hK hc i pins s σ H E I hf st hg
    subst hP hw hK
    obtain ⟨q1, q2, ⟨x0, y0, q3⟩, q4, q5⟩ := st
    obtain ⟨xs, ys, x, y, sx, sy, gx, gy⟩ := hg
    obtain ⟨us, rv, pl, _⟩ := I.tuple sx
    obtain ⟨ws, rw2, pt, _⟩ := I.list sy
    obtain ⟨u, hu, ru⟩ := rv.get gx
    obtain ⟨t, ht, rt⟩ := rw2.get gy
    have pl : s.heap.IsTuple a us.toArray := pl
    have zl : z < s.heap.objs.size := Heap.lt_size q1
    have lu : i < us.toArray.size := by
      have := (List.getElem?_eq_some_iff.mp hu).1
      simpa using this
    have lt : i < ws.toArray.size := by
      have := (List.getElem?_eq_some_iff.mp ht).1
      simpa using this
    have h0 : X.A.in1.handled = none := I.ok.hd hc
    refine wpAny_pyNext_zipD2_item S (Draws.tuple (A := X.A.in1) h0 i1 a na us.toArray) (Draws.list (A := X.A.in1) h0 i2 b nb ws.toArray) q1 q2 q3 ⟨q4, pl⟩ ⟨q5, pt.isList⟩ lu lt fun x1 x2 h2 tk e1 e2 z2 T2 st1 st2 hT hsz hk => ?_
    have e1 : us.toArray[i]? = some x1 := e1
    have e2 : ws.toArray[i]? = some x2 := e2
    have ex1 : x1 = u := by
      have k : us.toArray[i]? = some u := by simpa using hu
      rw [e1] at k
      cases k
      rfl
    have ex2 : x2 = t := by
      have k : ws.toArray[i]? = some t := by simpa using ht
      rw [e2] at k
      cases k
      rfl
    subst ex1 ex2
    refine ⟨_, rfl, wpAny_letOwnedTupleGo_zip (s := { s with heap := h2, toks := tk }) z2 fun h3 z3 sb => ?_⟩
    have hT2 : h3.get? s.heap.objs.size = some { cls := .type "tuple", data := .seq #[x1, x2] } := (sb.2 _ (Nat.ne_of_gt zl)).trans hT
    have new : ObjOk X.prog X.w (upd H s.heap.objs.size (.tup [x, y])) h3 s.heap.objs.size (.tup [x, y]) := ⟨by show 2 ≤ sizeLine; decide, [x1, x2], .cons ru (.cons rt .nil), ⟨_, hT2, rfl, _, rfl⟩⟩
    have I1 : Inv X pins σ (upd H s.heap.objs.size (.tup [x, y])) { s with heap := h3, toks := tk } :=
      I.turnedNew (ch := [z, TI, TO, i1, i2]) (fun c o hb q => (sb.2 c (fun k => hb (by simp [k]))).trans (hk c o (fun k => hb (by simp [k])) (fun k => hb (by simp [k])) (fun k => hb (by simp [k])) (fun k => hb (by simp [k])) q)) hf (Nat.le_refl _) new
    refine ⟨.ref s.heap.objs.size, _, I1, rfl, ⟨_, x, y, rfl, I.hok.fresh (Nat.le_refl _), rfl, fun l hl => by rw [I.tuple_inj hl sx]; exact gx, fun l hl => by rw [I.list_inj hl sy]; exact gy⟩, ⟨z3, ?_, ⟨x1, x2, ?_⟩, ?_, ?_⟩, fun c hcm => ?_⟩
    · exact (sb.2 _ S.TIz).trans (hk _ _ S.TIz S.TITO S.TIi1 S.TIi2 q2)
    · exact (sb.2 _ S.TOz).trans T2
    · exact st1.1.at fun o q => (sb.2 _ (Ne.symm S.zi1)).trans q
    · exact st2.1.at fun o q => (sb.2 _ (Ne.symm S.zi2)).trans q
    · have hlt : c < s.heap.objs.size := by
        have five : c = z ∨ c = TI ∨ c = TO ∨ c = i1 ∨ c = i2 := by simpa using hcm
        rcases five with q | q | q | q | q
        · rw [q]; exact zl
        · rw [q]; exact Heap.lt_size q2
        · rw [q]; exact Heap.lt_size q3
        · rw [q]; obtain ⟨_, e1, _⟩ := q4; exact Heap.lt_size e1
        · rw [q]; obtain ⟨_, e2, _⟩ := q5; exact Heap.lt_size e2
      rw [upd_ne (Nat.ne_of_lt hlt)]
      exact (hf c hcm).1
  done := by
    intro X hP hw hK hc i pins s σ H E I hf st hg
    subst hP hw hK
    obtain ⟨q1, q2, ⟨x0, y0, q3⟩, q4, q5⟩ := st
    obtain ⟨xs, ys, sx, sy, l1, l2, l3⟩ := hg
    obtain ⟨us, rv, pl, _⟩ := I.tuple sx
    obtain ⟨ws, rw2, pt, _⟩ := I.list sy
    have pl : s.heap.IsTuple a us.toArray := pl
    have k1 := rv.length
    have k2 := rw2.length
    have h0 : X.A.in1.handled = none := I.ok.hd hc
    exact wpAny_pyNext_zipD2_end S (Draws.tuple (A := X.A.in1) h0 i1 a na us.toArray) (Draws.list (A := X.A.in1) h0 i2 b nb ws.toArray) q1 q2 q3 ⟨q4, pl⟩ ⟨q5, pt.isList⟩ (by simp; omega) (by simp; omega) (by simp; omega) fun h2 tk hk => ⟨rfl, I.turnedL (t' := tk) (ch := [z, TI, TO, i1, i2]) (fun c o hb q =>
      hk c o (fun k => hb (by simp [k])) (fun k => hb (by simp [k])) (fun k => hb (by simp [k])) (fun k => hb (by simp [k])) q) hf⟩
  self := fun A i s Q E st h => wpAny_pyIter_zip st.1 h
/-- .. of a tuple and a list, too -/
def iZipN (K : PySem.W.Frag) (ta : TA) : TI := fun σ H R => ta σ H fun vs H1 => (∃ a b xs ys, vs = [.ref a, .ref b] ∧ ((SqL K H1 a xs ∧ SqL K H1 b ys ∧ R (Itz K a b) H1) ∨ (SqT K H1 a xs ∧ SqT K H1 b ys ∧ R (RZ.ItzT K a b) H1))) ∨ (∃ a b xs ys, vs = [.ref a, .ref b] ∧ SqL K H1 a xs ∧ SqT K H1 b ys ∧ R (ItzM K a b) H1) ∨ ∃ a b xs ys, vs = [.ref a, .ref b] ∧ SqT K H1 a xs ∧ SqL K H1 b ys ∧ R (ItzN K a b) H1
theorem pi_zipN {X : Cx} {e e2 : Expr} {ta : TA} {p pos tpos : Pos} {elts : List Expr} {kk : Nat} (hg : Gl X "zip") (hm : X.mg "zip" = none) (ha : PA X [e, e2] ta)
    (hs : starEach [e, e2] X.env = (false, eval e X.env) :: starEach [e2] X.env) (hpl : (backTo pos (starEach [e2] X.env)).any (·.1) = false) :
    PI X (.Tuple elts kk tpos) (.Call (.Name "zip" p) [e, e2] [] pos) (iZipN X.K ta) := by
  refine ⟨fun pins s σ H R I h => ?_⟩
  refine Call_ (ld_blt I hg hm PyProof.Rows.boot_zip (PyProof.Rows.callWith_type1 (thn (ha.run pos pins s σ H _ I h) fun us t ⟨vs, H1, I1, r1, q1⟩ => ?_) hs hpl))
  have fresh : ∀ c, c ∈ [t.heap.objs.size + 4, t.heap.objs.size + 2, t.heap.objs.size + 3, t.heap.objs.size, t.heap.objs.size + 1] → FpOk X pins H1 c := fun c hcm => by
    have five : c = t.heap.objs.size + 4 ∨ c = t.heap.objs.size + 2 ∨ c = t.heap.objs.size + 3 ∨ c = t.heap.objs.size ∨ c = t.heap.objs.size + 1 := by simpa using hcm
    have le1 : t.heap.objs.size ≤ c := by omega
    exact I1.fpOk le1 (I1.hok.fresh le1)
  rcases q1 with ⟨a, b, xs, ys, ex, q1⟩ | ⟨a, b, xs, ys, ex, hx, hy, q⟩ | ⟨a, b, xs, ys, ex, hx, hy, q⟩
  · subst ex
    cases r1 with
    | cons r rr =>
    cases rr with
    | cons r' rr =>
    cases rr
    cases r
    cases r'
    rcases q1 with ⟨hx, hy, q⟩ | ⟨hx, hy, q⟩
    · obtain ⟨us, rv, p1, _⟩ := I1.list hx
      obtain ⟨ws, rw2, p2, _⟩ := I1.list hy
      refine call_zip_2 p1.isList p2.isList fun h2 z1 z2 z3 z4 z5 hsz hk => wpAny_pyIter_zip z1 ?_
      exact ⟨t.heap.objs.size + 4, [t.heap.objs.size + 4, t.heap.objs.size + 2, t.heap.objs.size + 3, t.heap.objs.size, t.heap.objs.size + 1], _, _, H1, rfl, I1.kept (t' := t.toks) hk, turn_zip (PySem.W.ktu_apart t.heap.objs.size a b p1.lt p2.lt), ⟨z1, z2, ⟨_, _, z3⟩, z4, z5⟩, fresh, q⟩
    · obtain ⟨us, rv, p1, _⟩ := I1.tuple hx
      obtain ⟨ws, rw2, p2, _⟩ := I1.tuple hy
      obtain ⟨o1, ho1, _⟩ := id p1
      obtain ⟨o2, ho2, _⟩ := id p2
      refine RZ.call_zipT (show t.heap.IsTuple a us.toArray from p1) (show t.heap.IsTuple b ws.toArray from p2) fun h2 z1 z2 z3 z4 z5 hsz hk => wpAny_pyIter_zip z1 ?_
      exact ⟨t.heap.objs.size + 4, [t.heap.objs.size + 4, t.heap.objs.size + 2, t.heap.objs.size + 3, t.heap.objs.size, t.heap.objs.size + 1], _, _, H1, rfl, I1.kept (t' := t.toks) hk, RZ.turn_zipT (PySem.W.ktu_apart t.heap.objs.size a b (Heap.lt_size ho1) (Heap.lt_size ho2)), ⟨z1, z2, ⟨_, _, z3⟩, z4, z5⟩, fresh, q⟩
  · subst ex
    cases r1 with
    | cons r rr =>
    cases rr with
    | cons r' rr =>
    cases rr
    cases r
    cases r'
    obtain ⟨us, rv, p1, _⟩ := I1.list hx
    obtain ⟨ws, rw2, p2, _⟩ := I1.tuple hy
    have p2 : t.heap.IsTuple b ws.toArray := p2
    have la : a < t.heap.objs.size := p1.lt
    have lb : b < t.heap.objs.size := by
      obtain ⟨o, ho, _⟩ := id p2
      exact Heap.lt_size ho
    refine zip_begins2 (begins_list a us.toArray) (begins_tuple b ws.toArray) p1.isList p2 fun h2 z1 z2 z3 z4 z5 hsz hk => wpAny_pyIter_zip z1 ?_
    refine ⟨t.heap.objs.size + 4, [t.heap.objs.size + 4, t.heap.objs.size + 2, t.heap.objs.size + 3, t.heap.objs.size, t.heap.objs.size + 1], _, _, H1, rfl, I1.kept (t' := t.toks) hk, turn_zipM (a := a) (b := b) (zip_sep2 (fp1 := [a]) (fp2 := [b]) (fun c hc => by rw [List.mem_singleton.mp hc]; exact la) fun c hc => by rw [List.mem_singleton.mp hc]; exact lb) (Nat.ne_of_lt la) (Nat.ne_of_lt (Nat.lt_succ_of_lt lb)), ⟨z1, z2, ⟨_, _, z3⟩, ⟨_, z4, rfl, rfl⟩, ⟨_, z5, rfl, rfl⟩⟩, fresh, q⟩
  · subst ex
    cases r1 with
    | cons r rr =>
    cases rr with
    | cons r' rr =>
    cases rr
    cases r
    cases r'
    obtain ⟨us, rv, p1, _⟩ := I1.tuple hx
    obtain ⟨ws, rw2, p2, _⟩ := I1.list hy
    have p1 : t.heap.IsTuple a us.toArray := p1
    have lb : b < t.heap.objs.size := p2.lt
    have la : a < t.heap.objs.size := by
      obtain ⟨o, ho, _⟩ := id p1
      exact Heap.lt_size ho
    refine zip_begins2 (begins_tuple a us.toArray) (begins_list b ws.toArray) p1 p2.isList fun h2 z1 z2 z3 z4 z5 hsz hk => wpAny_pyIter_zip z1 ?_
    refine ⟨t.heap.objs.size + 4, [t.heap.objs.size + 4, t.heap.objs.size + 2, t.heap.objs.size + 3, t.heap.objs.size, t.heap.objs.size + 1], _, _, H1, rfl, I1.kept (t' := t.toks) hk, turn_zipN (a := a) (b := b) (zip_sep2 (fp1 := [a]) (fp2 := [b]) (fun c hc => by rw [List.mem_singleton.mp hc]; exact la) fun c hc => by rw [List.mem_singleton.mp hc]; exact lb) (Nat.ne_of_lt la) (Nat.ne_of_lt (Nat.lt_succ_of_lt lb)), ⟨z1, z2, ⟨_, _, z3⟩, ⟨_, z4, rfl, rfl⟩, ⟨_, z5, rfl, rfl⟩⟩, fresh, q⟩
theorem walk_zipN {K : PySem.W.Frag} {a b : Addr} {xs ys : List V} {n : Nat} (hn : n = min xs.length ys.length) : L2.Walk (ItzN K a b) n (fun H => SqT K H a xs ∧ SqL K H b ys) (YPair (fun i => xs[i]?) (fun i => ys[i]?)) := by
  subst hn
  refine ⟨fun i _ hi q => ?_, fun _ q => ⟨xs, ys, q.1, q.2, by omega, by omega, by omega⟩, fun i H v H2 _ q y => ?_⟩
  · have h1 : i < xs.length := by omega
    have h2 : i < ys.length := by omega
    exact ⟨xs, ys, xs[i], ys[i], q.1, q.2, by simp [h1], by simp [h2]⟩
  · obtain ⟨T, x, z, h1, h2, h3, h4, h5⟩ := y
    exact ⟨T, x, z, h1, h2, h3, h4 xs q.1, h5 ys q.2⟩
end Z

set_option Elab.async false
set_option linter.all false
set_option maxRecDepth 100000
set_option maxHeartbeats 4000000
namespace Z
open PySem PySem.Spec PyProof.Rows L2
section
variable {G : Gx} {k : Nat} {Γ : List (Fk × ZSp)}
/-- only the walk is to be shown -/
theorem Sd.ofI {z : Y} (hE : ∀ S e, (ck (Γ.map (·.1)) z S).E e = false) (hT : ∀ S e, (ck (Γ.map (·.1)) z S).T e = false) (hA : ∀ S e, (ck (Γ.map (·.1)) z S).A e = false) (hO : ∀ S e, (ck (Γ.map (·.1)) z S).O e = false)
    (h : ∀ X W0 S, Good X G W0 k S Γ → ∀ tg e, (ck (Γ.map (·.1)) z S).I tg e = true → PI X tg e (LfI G W0 (vc Γ z))) : Sd G k Γ z where
  E := fun X W0 S g e c => by rw [hE] at c; cases c
  T := fun X W0 S g e c => by rw [hT] at c; cases c
  W := fun X W0 S g op xs p c => by rw [hT] at c; cases c
  A := fun X W0 S g es c => by rw [hA] at c; cases c
  I := h
  O := fun X W0 S g e c => by rw [hO] at c; cases c
/-- data from here on -/
theorem later {B B2 : Addr → Prop} {α α2 : List Addr} {O O2 : List DO} {H H2 : Hp} (hm : ∀ b, Mu B2 α2 O2 b → Mu B α O b ∨ H b = none) (hk : ∀ b o, H b = some o → ¬ Ho α O b → (∀ ps, o ≠ .tbl ps) → H2 b = some o) :
    ∀ a o, ¬ Mu B α O a → H a = some o → (∀ ps, o ≠ .tbl ps) → H2 a = some o ∧ ¬ Mu B2 α2 O2 a := fun b o m e n =>
  ⟨hk b o e (fun z => m (.inr z.ow)) n, fun z => by
    rcases hm b z with z | z
    · exact m z
    · rw [e] at z; cases z⟩
/-- a walk over a list or a tuple -/
def iSeq (K : PySem.W.Frag) (tl : TE) : TI := fun σ H R => tl σ H fun x H1 => ∃ a, x = .ref a ∧ (((∃ xs, SqL K H1 a xs) ∧ R (Itl K a) H1) ∨ ((∃ xs, SqT K H1 a xs) ∧ R (Itt K a) H1) ∨ ∃ o kvs, H1 a = some (.frz o (.dK kvs)) ∧ R (Itk a o kvs) H1)
theorem pi_seq {X : Cx} {tg l : Expr} {tl : TE} (hl : PE X l tl) : PI X tg l (iSeq X.K tl) := by
  refine ⟨fun pins s σ H R I h => ?_⟩
  refine thn (hl.run pins s σ H _ I h) fun v s1 ⟨x, H1, I1, r1, q1⟩ => ?_
  obtain ⟨a, rfl, q⟩ := q1
  cases r1
  rcases q with ⟨⟨xs, hq⟩, q⟩ | ⟨⟨xs, hq⟩, q⟩ | ⟨o, kvs, hd, q⟩
  · obtain ⟨its, rv, p, hz⟩ := I1.list hq
    refine wpAny_pyIter_list p.isList ?_
    refine ⟨s1.heap.objs.size, [s1.heap.objs.size], _, _, H1, rfl, I1.kept (t' := s1.toks) fun b o e => Heap.get?_push_of_some _ e, turn_list a _, ⟨_, Heap.get?_push_size _ rfl, rfl, rfl⟩, fun b hb => ?_, q⟩
    cases (show b = s1.heap.objs.size by simpa using hb)
    exact I1.fpOk (Nat.le_refl _) (I1.hok.fresh (Nat.le_refl _))
  · obtain ⟨its, rv, p, hz⟩ := I1.tuple hq
    refine wpAny_pyIter_tuple (show s1.heap.IsTuple a its.toArray from p) ?_
    refine ⟨s1.heap.objs.size, [s1.heap.objs.size], _, _, H1, rfl, I1.kept (t' := s1.toks) fun b o e => Heap.get?_push_of_some _ e, turn_tuple a _, ⟨_, Heap.get?_push_size _ rfl, rfl, rfl⟩, fun b hb => ?_, q⟩
    cases (show b = s1.heap.objs.size by simpa using hb)
    exact I1.fpOk (Nat.le_refl _) (I1.hok.fresh (Nat.le_refl _))
  · obtain ⟨hs, hgd, hx, es, ep, vs, hdt, hsz, kv, hm⟩ := I1.frzK hd
    refine iter_keys hs hgd hx hdt (pi_one (tk := s1.toks) I1 _ (turn_keys _ hdt) ⟨_, Heap.get?_push_size _ rfl, rfl, ?_⟩ q)
    rw [hsz] <;> rfl
/-- .. or a text -/
def iSeqS (K : PySem.W.Frag) (tl : TE) : TI := fun σ H R => tl σ H fun x H1 => (∃ a, x = .ref a ∧ (((∃ xs, SqL K H1 a xs) ∧ R (Itl K a) H1) ∨ ((∃ xs, SqT K H1 a xs) ∧ R (Itt K a) H1) ∨ ∃ o kvs, H1 a = some (.frz o (.dK kvs)) ∧ R (Itk a o kvs) H1)) ∨ ∃ z, x = .str z ∧ R (Its z) H1
theorem pi_seqS {X : Cx} {tg l : Expr} {tl : TE} (hl : PE X l tl) : PI X tg l (iSeqS X.K tl) := by
  refine ⟨fun pins s σ H R I h => ?_⟩
  refine thn (hl.run pins s σ H _ I h) fun v s1 ⟨x, H1, I1, r1, q1⟩ => ?_
  rcases q1 with ⟨a, rfl, q⟩ | ⟨z, rfl, q⟩
  · cases r1
    rcases q with ⟨⟨xs, hq⟩, q⟩ | ⟨⟨xs, hq⟩, q⟩ | ⟨o, kvs, hd, q⟩
    · obtain ⟨its, rv, p, hz⟩ := I1.list hq
      refine wpAny_pyIter_list p.isList ?_
      refine ⟨s1.heap.objs.size, [s1.heap.objs.size], _, _, H1, rfl, I1.kept (t' := s1.toks) fun b o e => Heap.get?_push_of_some _ e, turn_list a _, ⟨_, Heap.get?_push_size _ rfl, rfl, rfl⟩, fun b hb => ?_, q⟩
      cases (show b = s1.heap.objs.size by simpa using hb)
      exact I1.fpOk (Nat.le_refl _) (I1.hok.fresh (Nat.le_refl _))
    · obtain ⟨its, rv, p, hz⟩ := I1.tuple hq
      refine wpAny_pyIter_tuple (show s1.heap.IsTuple a its.toArray from p) ?_
      refine ⟨s1.heap.objs.size, [s1.heap.objs.size], _, _, H1, rfl, I1.kept (t' := s1.toks) fun b o e => Heap.get?_push_of_some _ e, turn_tuple a _, ⟨_, Heap.get?_push_size _ rfl, rfl, rfl⟩, fun b hb => ?_, q⟩
      cases (show b = s1.heap.objs.size by simpa using hb)
      exact I1.fpOk (Nat.le_refl _) (I1.hok.fresh (Nat.le_refl _))
    · obtain ⟨hs, hgd, hx, es, ep, vs, hdt, hsz, kv, hm⟩ := I1.frzK hd
      refine iter_keys hs hgd hx hdt (pi_one (tk := s1.toks) I1 _ (turn_keys _ hdt) ⟨_, Heap.get?_push_size _ rfl, rfl, ?_⟩ q)
      rw [hsz] <;> rfl
  · obtain ⟨t, rfl⟩ := r1
    cases ha : z.cps.all (· < 128)
    · exact wpAny_pyIter_wide ha (pi_one (tk := s1.toks) I1 _ (turn_str _ z t "str_iterator" (.inr rfl)) ⟨_, Heap.get?_push_size _ rfl, rfl, rfl⟩ q)
    · exact wpAny_pyIter_ascii ha (pi_one (tk := s1.toks) I1 _ (turn_str _ z t "str_ascii_iterator" (.inl rfl)) ⟨_, Heap.get?_push_size _ rfl, rfl, rfl⟩ q)
theorem walkD_of {B : Addr → Prop} {α : List Addr} {O : List DO} {H : Hp} {J : It} {vs : List V} {ds : List D} {Gd : Hp → Prop} (wk : L2.Walk J ds.length Gd (YAt vs)) (r : Ats G.K (Mu B α O) H vs ds)
    (hg : ∀ (B2 : Addr → Prop) (α2 : List Addr) (O2 : List DO) (H2 : Hp), (∀ b, Mu B2 α2 O2 b → Mu B α O b ∨ H b = none) → (∀ b o, H b = some o → ¬ Ho α O b → (∀ ps, o ≠ .tbl ps) → H2 b = some o) → Gd H2) : WalkD G B α O H J ds :=
  ⟨_, _, wk, fun B2 α2 O2 H2 hm hk w => ⟨hg B2 α2 O2 H2 hm hk, fun i x H3 hi y => by
    obtain ⟨rfl, e⟩ := y
    obtain ⟨d, e2, a⟩ := r.get e
    exact ⟨d, e2, .inl rfl, a.imp (later hm hk)⟩⟩⟩
theorem unmap {ds ds' : List D} (h : ds.map U.d = ds'.map U.d) : ds = ds' := (List.map_inj_right (fun _ _ h => by cases h; rfl)).mp h
/-- ready to be walked -/
def Rdy (G : Gx) (B : Addr → Prop) (α : List Addr) (O : List DO) (H : Hp) (v : V) (x : D) : Prop :=
  (∃ ds a vs, x = .lst ds ∧ v = .ref a ∧ H a = some (.lst vs) ∧ ¬ Ho α O a ∧ Ats G.K (Mu B α O) H vs ds) ∨ At G.K (Mu B α O) H v x
theorem Rdy.lst {B : Addr → Prop} {α : List Addr} {O : List DO} {H : Hp} {v : V} {ds : List D} (h : Rdy G B α O H v (.lst ds)) : ∃ a vs, v = .ref a ∧ H a = some (.lst vs) ∧ ¬ Ho α O a ∧ Ats G.K (Mu B α O) H vs ds := by
  rcases h with ⟨ds', a, vs, h1, h2, h3, h4, h5⟩ | h
  · cases h1
    exact ⟨a, vs, h2, h3, h4, h5⟩
  · cases h with
    | lst e m r => exact ⟨_, _, rfl, e, fun z => m (.inr z.ow), r⟩
theorem Rdy.tup {B : Addr → Prop} {α : List Addr} {O : List DO} {H : Hp} {v : V} {ds : List D} (h : Rdy G B α O H v (.tup ds)) : ∃ a vs, v = .ref a ∧ SqT G.K H a vs ∧ (∀ H2, (∀ b o, H b = some o → ¬ Ho α O b → (∀ ps, o ≠ .tbl ps) → H2 b = some o) → SqT G.K H2 a vs) ∧ Ats G.K (Mu B α O) H vs ds := by
  rcases h with ⟨ds', a, vs, h1, _⟩ | h
  · cases h1
  · cases h with
    | tup e m r => exact ⟨_, _, rfl, SqT.of e, fun H2 hk => SqT.of (hk _ _ e (fun z => m (.inr z.ow)) (fun _ z => by cases z)), r⟩
    | tupK e r => exact ⟨_, _, rfl, e H, fun H2 _ => e H2, r⟩
theorem Rdy.dct {B : Addr → Prop} {α : List Addr} {O : List DO} {H : Hp} {v : V} {ks : List Key} {ds : List D} (h : Rdy G B α O H v (.dct ks ds)) : ∃ a o kvs, v = .ref a ∧ H a = some (.frz o (.dK kvs)) ∧ ¬ Ho α O a ∧ kvs.map (·.1) = ks := by
  rcases h with ⟨ds', a, vs, h1, _⟩ | h
  · cases h1
  · cases h with
    | dct e m k r => exact ⟨_, _, _, rfl, e, fun z => m (.inr z.ow), k⟩
theorem Rdy.stp {B : Addr → Prop} {α α' : List Addr} {O O' : List DO} {H H' : Hp} {v : V} {x : D} (h : Rdy G B α O H v x) (s : Stp α O H α' O' H') : Rdy G B α' O' H' v x := by
  rcases h with ⟨ds, a, vs, h1, h2, h3, h4, h5⟩ | h
  · refine .inl ⟨ds, a, vs, h1, h2, s.keep a _ h3 h4 (fun _ z => by cases z), fun z => ?_, s.ats h5⟩
    rcases s.hnew a z with z | z
    · exact h4 z
    · rw [h3] at z; cases z
  · exact .inr (s.at_ h)
theorem brK_of {B : Addr → Prop} {α : List Addr} {O : List DO} {H : Hp} {u : U} {v : V} {kk : D → List DO → Prop} (w : Own G B α O H) (a : AtU G.K B α O H v u) (h : brK O u kk) : ∃ x O2, kk x O2 ∧ Stp α O H α O2 H ∧ Own G B α O2 H ∧ Rdy G B α O2 H v x := by
  have dat : (match toD O u with
    | some x => kk x O
    | none => False) → ∃ x O2, kk x O2 ∧ Stp α O H α O2 H ∧ Own G B α O2 H ∧ Rdy G B α O2 H v x := fun h => by
    cases q : toD O u with
    | none => rw [q] at h; exact h.elim
    | some x =>
      rw [q] at h
      exact ⟨x, O, h, Stp.refl, w, .inr (At.of w a q)⟩
  cases u with
  | d x => exact dat h
  | t x => exact dat h
  | l x => exact dat h
  | o j =>
    simp only [brK, go_eq] at h
    cases a with
    | @o _ p ep =>
    cases q : O[j]? with
    | none => simp only [q] at h
    | some o =>
      have hat := w.at_ j p o ep q
      cases o with
      | lst ds =>
        simp only [q] at h
        rw [so_eq] at h
        obtain ⟨vs, e, r⟩ := hat
        have hlt := (List.getElem?_eq_some_iff.mp q).1
        have s : Stp α O H α (O.set j (.brw ds)) H := ⟨⟨[], by simp⟩, fun b u e _ _ => e, fun b e => e, fun b m => .inl (ow_set' q rfl m), fun b m => .inl (ho_set' q (fun z => by cases z) m), fun b m => .inl m⟩
        refine ⟨_, _, h, s, ?_, .inl ⟨ds, p, vs, rfl, rfl, e, fun ⟨i, o, e1, e2, l⟩ => ?_, s.ats r⟩⟩
        · refine ⟨by rw [List.length_set]; exact w.len, w.nd, fun i b o e1 e2 => ?_, w.bt, fun b m => w.nb b (ow_set' q rfl m), w.tabs⟩
          by_cases hi : i = j
          · subst hi
            rw [List.getElem?_set_self hlt] at e2
            cases e2
            rw [ep] at e1
            cases e1
            exact ⟨vs, e, s.ats r⟩
          · rw [List.getElem?_set_ne (Ne.symm hi)] at e2
            exact (w.at_ i b o e1 e2).stp s fun _ => rfl
        · have := nodup_at w.nd e1 ep
          subst this
          rw [List.getElem?_set_self hlt] at e2
          cases e2
          cases l
      | brw ds =>
        simp only [q] at h
        obtain ⟨vs, e, r⟩ := hat
        refine ⟨_, _, h, Stp.refl, w, .inl ⟨ds, p, vs, rfl, rfl, e, fun ⟨i, o, e1, e2, l⟩ => ?_, r⟩⟩
        have := nodup_at w.nd e1 ep
        subst this
        rw [q] at e2
        cases e2
        cases l
      | frz ds =>
        simp only [q] at h
        exact ⟨_, _, h, Stp.refl, w, .inr hat⟩
      | ob _ _ => simp only [q] at h
theorem sd_seq {z : Y} (dz : Sd G k Γ z) : Sd G k Γ (.seq z) := .ofI (fun _ _ => rfl) (fun _ _ => rfl) (fun _ _ => rfl) (fun _ _ => rfl) fun X W0 S g tg e c => by
  refine pi_imp (pi_seqS (dz.E X W0 S g e c)) fun σ H Q ⟨B, α, ρ, O, Q0, E0, R, h, hq, hl⟩ => ?_
  refine seqE R h hl fun u O1 f α1 v H1 s1 w1 a1 => ?_
  obtain ⟨x, O2, f, s2, w2, ax⟩ := brK_of w1 a1 f
  cases x with
  | lst ds =>
    obtain ⟨a, vs, rfl, e, m, r⟩ := ax.lst
    obtain ⟨ds', e2, f⟩ := hq _ _ f
    cases unmap e2
    refine .inl ⟨a, rfl, .inl ⟨⟨vs, SqL.of e⟩, f α1 H1 _ (s1.trans s2) w2 ?_⟩⟩
    rw [g.hK]
    exact walkD_of (by rw [← r.length]; exact walk_list (xs := vs)) r fun B2 α2 O2 H2 hm hk => SqL.of (hk _ _ e m (fun _ z => by cases z))
  | tup ds =>
    obtain ⟨a, vs, rfl, e, m, r⟩ := ax.tup
    obtain ⟨ds', e2, f⟩ := hq _ _ f
    cases unmap e2
    refine .inl ⟨a, rfl, .inr (.inl ⟨⟨vs, by rw [g.hK]; exact e⟩, f α1 H1 _ (s1.trans s2) w2 ?_⟩)⟩
    rw [g.hK]
    exact walkD_of (by rw [← r.length]; exact walk_tup (xs := vs)) r fun B2 α2 O2 H2 hm hk => m H2 hk
  | dct ks ds =>
    obtain ⟨a, o, kvs, rfl, e, m, hk⟩ := ax.dct
    obtain ⟨ds', e2, f⟩ := hq _ _ f
    cases unmap e2
    refine .inl ⟨a, rfl, .inr (.inr ⟨o, kvs, e, f α1 H1 _ (s1.trans s2) w2 ?_⟩)⟩
    subst hk
    refine ⟨_, _, by rw [List.length_map, List.length_map]; exact walk_keys, fun B2 α2 O2 H2 hm hk w => ⟨hk _ _ e m (fun _ z => by cases z), fun i x H3 hi y => ?_⟩⟩
    obtain ⟨rfl, kk, vv, e4, rfl⟩ := y
    refine ⟨keyD kk, by rw [List.getElem?_map, List.getElem?_map, e4]; rfl, .inl rfl, ?_⟩
    cases kk with
    | inl i => exact .int i
    | inr i => exact .str i
  | str z =>
    obtain ⟨ds', e2, f⟩ := hq _ _ f
    cases unmap e2
    have ez : v = .str z := by
      rcases ax with ⟨_, _, _, h1, _⟩ | ax
      · cases h1
      · cases ax; rfl
    refine .inr ⟨z, ez, f α1 H1 _ (s1.trans s2) w2 ⟨_, _, by rw [chD, List.length_map]; exact walk_str, fun B2 α2 O2 H2 hm hk w => ⟨trivial, fun i x H3 hi y => ?_⟩⟩⟩
    obtain ⟨rfl, cc, e4, rfl⟩ := y
    exact ⟨.str ⟨#[cc]⟩, by rw [chD, List.getElem?_map, show z.cps.toList[i]? = some cc by simpa using e4]; rfl, .inl rfl, .str _⟩
  | _ => exact f.elim
theorem walkD_fn {B : Addr → Prop} {α : List Addr} {O : List DO} {H : Hp} {lo : Int} {n : Nat} : WalkD G B α O H (Itr lo n) ((List.range n).map fun (i : Nat) => D.int (lo + (i : Int))) :=
  ⟨_, _, by rw [List.length_map, List.length_range]; exact walk_range, fun B2 α2 O2 H2 hm hk w => ⟨trivial, fun i x H3 hi y => by
    obtain ⟨rfl, rfl⟩ := y
    rw [List.length_map, List.length_range] at hi
    exact ⟨.int (lo + i), by simp [hi], .inl rfl, .int _⟩⟩⟩
theorem sd_rng {a : Y} (da : Sd G k Γ a) : Sd G k Γ (.rng a) := .ofI (fun _ _ => rfl) (fun _ _ => rfl) (fun _ _ => rfl) (fun _ _ => rfl) fun X W0 S g tg e c => by
  have c' : rngC S.sc (ck (Γ.map (·.1)) a S).E e = true := c
  unfold rngC at c'
  split at c'
  · obtain ⟨c, c4⟩ := ba c'
    obtain ⟨c, c3⟩ := ba c
    obtain ⟨c1, c2⟩ := ba c
    cases of_decide_eq_true c1
    refine pi_imp (pi_range1 (glo_of g c2) (g.free "range" (by decide)) (pa_one (da.E X W0 S g _ c4) c3) (starEach_plain c3)) fun σ H Q ⟨B, α, ρ, O, Q0, E0, R, h, hq, hl⟩ => ?_
    refine seqE R h hl fun u O1 f α1 v H1 s1 w1 a1 => ?_
    obtain ⟨x, e1, f⟩ := nrK_of f
    have ax := Vw.of w1 a1 e1
    cases x with
    | int j =>
      obtain rfl := ax.int
      obtain ⟨ds, e2, f2⟩ := hq _ _ f.2
      refine ⟨j, rfl, f.1.1, f.1.2, f2 α1 H1 _ s1 w1 ?_⟩
      rw [← unmap e2]
      exact walkD_fn
    | _ => exact f.elim
  · cases c'
theorem sd_rng2 {a b : Y} (da : Sd G k Γ a) (db : Sd G k Γ b) : Sd G k Γ (.rng2 a b) := .ofI (fun _ _ => rfl) (fun _ _ => rfl) (fun _ _ => rfl) (fun _ _ => rfl) fun X W0 S g tg e c => by
  have c' : rng2C S.sc (ck (Γ.map (·.1)) a S).E (ck (Γ.map (·.1)) b S).E e = true := c
  unfold rng2C at c'
  split at c'
  · obtain ⟨c, c6⟩ := ba c'
    obtain ⟨c, c5⟩ := ba c
    obtain ⟨c, c4⟩ := ba c
    obtain ⟨c, c3⟩ := ba c
    obtain ⟨c1, c2⟩ := ba c
    cases of_decide_eq_true c1
    refine pi_imp (pi_range2 (glo_of g c2) (g.free "range" (by decide)) (pa_two (da.E X W0 S g _ c5) (db.E X W0 S g _ c6) c3 c4) (by rw [starEach_plain c3, starEach_plain c4]; rfl) (by rw [starEach_plain c4]; rfl)) fun σ H Q ⟨B, α, ρ, O, Q0, E0, R, h, hq, hl⟩ => ?_
    refine seq2 R h hl fun u w O2 f α2 v v2 H2 s2 w2 a1 a2 => ?_
    obtain ⟨x, e1, f⟩ := nrK_of f
    obtain ⟨y, e2, f⟩ := nrK_of f
    have ax := Vw.of w2 a1 e1
    have ay := Vw.of w2 a2 e2
    split at f
    · obtain rfl := ax.int
      obtain rfl := ay.int
      obtain ⟨ds, e2, f2⟩ := hq _ _ f.2
      refine ⟨_, _, rfl, f.1, f2 α2 H2 _ s2 w2 ?_⟩
      rw [← unmap e2]
      exact walkD_fn
    · exact f.elim
  · cases c'
theorem isTup_of {e : Expr} (h : isTup e = true) : ∃ es kk p, e = .Tuple es kk p := by
  cases e <;> first | exact ⟨_, _, _, rfl⟩ | cases h
theorem walkD_pair {B : Addr → Prop} {α : List Addr} {O : List DO} {H : Hp} {J : It} {ds : List D} {Gd : Hp → Prop} {xs ys : Nat → Option V} (wk : L2.Walk J ds.length Gd (YPair xs ys))
    (hg : ∀ (B2 : Addr → Prop) (α2 : List Addr) (O2 : List DO) (H2 : Hp), (∀ b, Mu B2 α2 O2 b → Mu B α O b ∨ H b = none) → (∀ b o, H b = some o → ¬ Ho α O b → (∀ ps, o ≠ .tbl ps) → H2 b = some o) → Gd H2)
    (hd : ∀ i x y, i < ds.length → xs i = some x → ys i = some y → ∃ d e, ds[i]? = some (.tup [d, e]) ∧ At G.K (Mu B α O) H x d ∧ At G.K (Mu B α O) H y e) : WalkD G B α O H J ds :=
  ⟨_, _, wk, fun B2 α2 O2 H2 hm hk w => ⟨hg B2 α2 O2 H2 hm hk, fun i x H3 hi y => by
    obtain ⟨T, x, y, rfl, hT, rfl, e1, e2⟩ := y
    obtain ⟨d, e, e3, a1, a2⟩ := hd i x y hi e1 e2
    exact ⟨_, e3, .inr ⟨T, _, hT, rfl⟩, At.tupNew w hT (.cons (a1.imp (later hm hk)) (.cons (a2.imp (later hm hk)) .nil))⟩⟩⟩
theorem sd_enm {z : Y} (dz : Sd G k Γ z) : Sd G k Γ (.enm z) := .ofI (fun _ _ => rfl) (fun _ _ => rfl) (fun _ _ => rfl) (fun _ _ => rfl) fun X W0 S g tg e c => by
  have c' : enmC S.sc (ck (Γ.map (·.1)) z S).E tg e = true := c
  unfold enmC at c'
  split at c'
  · obtain ⟨c, c5⟩ := ba c'
    obtain ⟨c, c4⟩ := ba c
    obtain ⟨c, c3⟩ := ba c
    obtain ⟨c1, c2⟩ := ba c
    cases of_decide_eq_true c2
    obtain ⟨es, kk, tp, rfl⟩ := isTup_of c1
    refine pi_imp (pi_enumA (glo_of g c3) (g.free "enumerate" (by decide)) (pa_one (dz.E X W0 S g _ c5) c4) (starEach_plain c4)) fun σ H Q ⟨B, α, ρ, O, Q0, E0, R, h, hq, hl⟩ => ?_
    refine seqE R h hl fun u O1 f α1 v H1 s1 w1 a1 => ?_
    obtain ⟨x, O2, f, s2, w2, ax⟩ := brK_of w1 a1 f
    cases x with
    | lst ds =>
      obtain ⟨a, vs, rfl, e, m, r⟩ := ax.lst
      obtain ⟨ds', e2, f⟩ := hq _ _ f
      refine ⟨a, vs, rfl, .inl ⟨SqL.of e, f α1 H1 _ (s1.trans s2) w2 ?_⟩⟩
      rw [← unmap e2, g.hK]
      refine walkD_pair (by rw [List.length_mapIdx, ← r.length]; exact walk_enum (xs := vs)) (fun B2 α2 O2 H2 hm hk => SqL.of (hk _ _ e m (fun _ z => by cases z))) fun i x y hi h1 h2 => ?_
      obtain ⟨d, e3, a3⟩ := r.get h2
      cases h1
      exact ⟨_, d, by rw [List.getElem?_mapIdx, e3]; rfl, .int _, a3⟩
    | tup ds =>
      obtain ⟨a, vs, rfl, e, m, r⟩ := ax.tup
      obtain ⟨ds', e2, f⟩ := hq _ _ f
      refine ⟨a, vs, rfl, .inr ⟨by rw [g.hK]; exact e, f α1 H1 _ (s1.trans s2) w2 ?_⟩⟩
      rw [← unmap e2, g.hK]
      refine walkD_pair (by rw [List.length_mapIdx, ← r.length]; exact walk_enumT (xs := vs)) (fun B2 α2 O2 H2 hm hk => m H2 hk) fun i x y hi h1 h2 => ?_
      obtain ⟨d, e3, a3⟩ := r.get h2
      cases h1
      exact ⟨_, d, by rw [List.getElem?_mapIdx, e3]; rfl, .int _, a3⟩
    | _ => exact f.elim
  · cases c'
theorem sd_zip {a b : Y} (da : Sd G k Γ a) (db : Sd G k Γ b) : Sd G k Γ (.zip a b) := .ofI (fun _ _ => rfl) (fun _ _ => rfl) (fun _ _ => rfl) (fun _ _ => rfl) fun X W0 S g tg e c => by
  have c' : zipC S.sc (ck (Γ.map (·.1)) a S).E (ck (Γ.map (·.1)) b S).E tg e = true := c
  unfold zipC at c'
  split at c'
  · obtain ⟨c, c7⟩ := ba c'
    obtain ⟨c, c6⟩ := ba c
    obtain ⟨c, c5⟩ := ba c
    obtain ⟨c, c4⟩ := ba c
    obtain ⟨c, c3⟩ := ba c
    obtain ⟨c1, c2⟩ := ba c
    cases of_decide_eq_true c2
    obtain ⟨es, kk, tp, rfl⟩ := isTup_of c1
    refine pi_imp (pi_zipN (glo_of g c3) (g.free "zip" (by decide)) (pa_two (da.E X W0 S g _ c6) (db.E X W0 S g _ c7) c4 c5) (starEach_plain c4) (any_plain (by rw [List.all_cons, c5]; rfl))) fun σ H Q ⟨B, α, ρ, O, Q0, E0, R, h, hq, hl⟩ => ?_
    refine seq2 R h hl fun u w O2 f α2 v v2 H2 s2 w2 a1 a2 => ?_
    obtain ⟨x, O3, f, s3, w3, ax⟩ := brK_of w2 a1 f
    obtain ⟨y, O4, f, s4, w4, ay⟩ := brK_of w3 (s3.atU a2) f
    have ax := ax.stp s4
    have s24 := (s2.trans s3).trans s4
    have get : ∀ {vs ws : List V} {ds es : List D}, Ats G.K (Mu B α2 O4) H2 vs ds → Ats G.K (Mu B α2 O4) H2 ws es → ∀ (i : Nat) (x y : V), vs[i]? = some x → ws[i]? = some y → ∃ d e, (List.zipWith (fun d e => D.tup [d, e]) ds es)[i]? = some (D.tup [d, e]) ∧ At G.K (Mu B α2 O4) H2 x d ∧ At G.K (Mu B α2 O4) H2 y e := by
      intro vs ws ds es r1 r2 i x y h1 h2
      obtain ⟨d, e3, a3⟩ := r1.get h1
      obtain ⟨e, e4, a4⟩ := r2.get h2
      exact ⟨d, e, by rw [List.getElem?_zipWith, e3, e4], a3, a4⟩
    split at f
    · obtain ⟨a, vs, rfl, e, m, r⟩ := ax.lst
      obtain ⟨b, ws, rfl, e', m', r'⟩ := ay.lst
      obtain ⟨ds', e2, f⟩ := hq _ _ f
      refine .inl ⟨a, b, vs, ws, rfl, .inl ⟨SqL.of e, SqL.of e', f α2 H2 _ s24 w4 ?_⟩⟩
      rw [← unmap e2, g.hK]
      refine walkD_pair (walk_zip (xs := vs) (ys := ws) (by rw [List.length_zipWith, r.length, r'.length])) (fun B2 α2 O2 H2 hm hk => ⟨SqL.of (hk _ _ e m (fun _ z => by cases z)), SqL.of (hk _ _ e' m' (fun _ z => by cases z))⟩) fun i x y hi h1 h2 => get r r' i x y h1 h2
    · obtain ⟨a, vs, rfl, e, m, r⟩ := ax.tup
      obtain ⟨b, ws, rfl, e', m', r'⟩ := ay.tup
      obtain ⟨ds', e2, f⟩ := hq _ _ f
      refine .inl ⟨a, b, vs, ws, rfl, .inr ⟨by rw [g.hK]; exact e, by rw [g.hK]; exact e', f α2 H2 _ s24 w4 ?_⟩⟩
      rw [← unmap e2, g.hK]
      refine walkD_pair (Gd := fun H => SqT G.K H a vs ∧ SqT G.K H b ws) (xs := fun i => vs[i]?) (ys := fun i => ws[i]?) ?_ (fun B2 α2 O2 H2 hm hk => ⟨m H2 hk, m' H2 hk⟩) fun i x y hi h1 h2 => get r r' i x y h1 h2
      rw [List.length_zipWith, ← r.length, ← r'.length]
      refine ⟨fun i _ hi q => ?_, fun _ q => ⟨vs, ws, q.1, q.2, by omega⟩, fun i H v H' _ q y => ?_⟩
      · have h1 : i < vs.length := by omega
        have h2 : i < ws.length := by omega
        exact ⟨vs, ws, vs[i], ws[i], q.1, q.2, by simp [h1], by simp [h2]⟩
      · obtain ⟨T, x, z, h1, h2, h3, h4, h5⟩ := y
        exact ⟨T, x, z, h1, h2, h3, h4 vs q.1, h5 ws q.2⟩
    · obtain ⟨a, vs, rfl, e, m, r⟩ := ax.lst
      obtain ⟨b, ws, rfl, e', m', r'⟩ := ay.tup
      obtain ⟨ds', e2, f⟩ := hq _ _ f
      refine .inr (.inl ⟨a, b, vs, ws, rfl, SqL.of e, by rw [g.hK]; exact e', f α2 H2 _ s24 w4 ?_⟩)
      rw [← unmap e2, g.hK]
      refine walkD_pair (walk_zipM (xs := vs) (ys := ws) (by rw [List.length_zipWith, r.length, r'.length])) (fun B2 α2 O2 H2 hm hk => ⟨SqL.of (hk _ _ e m (fun _ z => by cases z)), m' H2 hk⟩) fun i x y hi h1 h2 => get r r' i x y h1 h2
    · obtain ⟨a, vs, rfl, e, m, r⟩ := ax.tup
      obtain ⟨b, ws, rfl, e', m', r'⟩ := ay.lst
      obtain ⟨ds', e2, f⟩ := hq _ _ f
      refine .inr (.inr ⟨a, b, vs, ws, rfl, by rw [g.hK]; exact e, SqL.of e', f α2 H2 _ s24 w4 ?_⟩)
      rw [← unmap e2, g.hK]
      refine walkD_pair (walk_zipN (xs := vs) (ys := ws) (by rw [List.length_zipWith, r.length, r'.length])) (fun B2 α2 O2 H2 hm hk => ⟨m H2 hk, SqL.of (hk _ _ e' m' (fun _ z => by cases z))⟩) fun i x y hi h1 h2 => get r r' i x y h1 h2
    · exact f.elim
  · cases c'
theorem sd_rev {z : Y} (dz : Sd G k Γ z) : Sd G k Γ (.rev z) := .ofI (fun _ _ => rfl) (fun _ _ => rfl) (fun _ _ => rfl) (fun _ _ => rfl) fun X W0 S g tg e c => by
  have c' : revC S.sc (ck (Γ.map (·.1)) z S).E e = true := c
  unfold revC at c'
  split at c'
  · obtain ⟨c, c4⟩ := ba c'
    obtain ⟨c, c3⟩ := ba c
    obtain ⟨c1, c2⟩ := ba c
    cases of_decide_eq_true c1
    refine pi_imp (pi_reversed (glo_of g c2) (g.free "reversed" (by decide)) (pa_one (dz.E X W0 S g _ c4) c3) (starEach_plain c3)) fun σ H Q ⟨B, α, ρ, O, Q0, E0, R, h, hq, hl⟩ => ?_
    refine seqE R h hl fun u O1 f α1 v H1 s1 w1 a1 => ?_
    obtain ⟨x, O2, f, s2, w2, ax⟩ := brK_of w1 a1 f
    cases x with
    | lst ds =>
      obtain ⟨a, vs, rfl, e, m, r⟩ := ax.lst
      obtain ⟨ds', e2, f⟩ := hq _ _ f
      refine ⟨a, vs, rfl, SqL.of e, f α1 H1 _ (s1.trans s2) w2 ?_⟩
      rw [← unmap e2, g.hK]
      refine ⟨_, _, by rw [List.length_reverse, ← r.length]; exact walk_rev, fun B2 α2 O2 H2 hm hk w => ⟨SqL.of (hk _ _ e m (fun _ z => by cases z)), fun i x H3 hi y => ?_⟩⟩
      obtain ⟨rfl, e3⟩ := y
      rw [List.length_reverse] at hi
      obtain ⟨d, e4, a4⟩ := r.get e3
      refine ⟨d, ?_, .inl rfl, a4.imp (later hm hk)⟩
      rw [List.getElem?_reverse hi, ← r.length]
      exact e4
    | _ => exact f.elim
  · cases c'
end
end Z

set_option Elab.async false
set_option linter.all false
set_option maxRecDepth 100000
set_option maxHeartbeats 4000000
namespace Z
open PySem PySem.Spec PyProof.Rows L2
/-! ### targets -/
def LfG (G : Gx) (tg : T1) : TG := fun v σ H Q => ∃ B α O ρ d Q0, Rep G B α σ H ρ O ∧ At G.K (Mu B α O) H v d ∧ bindT tg d ρ Q0 ∧
  ∀ ρ', Q0 ρ' → ∀ σ', Rep G B α σ' H ρ' O → (∀ i, i ∉ slots tg → σ'[i]? = σ[i]?) → σ'.length = σ.length → Q σ' H
def LfGs (G : Gx) (tg : T1) : TGs := fun vs σ H Q => ∃ B α O ρ ds Q0, Rep G B α σ H ρ O ∧ Ats G.K (Mu B α O) H vs ds ∧ bindTs tg ds ρ Q0 ∧
  ∀ ρ', Q0 ρ' → ∀ σ', Rep G B α σ' H ρ' O → (∀ i, i ∉ slots tg → σ'[i]? = σ[i]?) → σ'.length = σ.length → Q σ' H
theorem pg_imp {X : Cx} {e : Expr} {t t' : TG} (h : PG X e t) (i : ∀ v σ H Q, t' v σ H Q → t v σ H Q) : PG X e t' := ⟨fun pins s σ H v u Q I r q => h.run pins s σ H v u Q I r (i v σ H Q q)⟩
theorem pg_or {X : Cx} {e : Expr} {t t' : TG} (h : PG X e t) (h' : PG X e t') : PG X e (fun v σ H Q => t v σ H Q ∨ t' v σ H Q) := ⟨fun pins s σ H v u Q I r q => q.elim (fun q => h.run pins s σ H v u Q I r q) fun q => h'.run pins s σ H v u Q I r q⟩
theorem pgs_imp {X : Cx} {e : List Expr} {t t' : TGs} (h : PGs X e t) (i : ∀ v σ H Q, t' v σ H Q → t v σ H Q) : PGs X e t' := ⟨fun pins s σ H v u Q I r q => h.run pins s σ H v u Q I r (i v σ H Q q)⟩
theorem pts_imp {X : Cx} {e : List Expr} {t t' : TT} (h : PTs X e t) (i : ∀ σ H Q, t' σ H Q → t σ H Q) : PTs X e t' := ⟨fun pins s σ H Q I q => h.run pins s σ H Q I (i σ H Q q)⟩
section
variable {G : Gx} {k : Nat} {Γ : List (Fk × ZSp)}
theorem st_len : ∀ (ρ : List (Option U)) (i : Nat) (u : U), (st ρ i u).length = ρ.length
  | [], _, _ => rfl
  | _ :: _, 0, _ => rfl
  | _ :: r, i + 1, u => congrArg (· + 1) (st_len r i u)
theorem gt_lt : ∀ (ρ : List (Option U)) (i : Nat) (u : U), gt ρ i = some u → i < ρ.length
  | [], _, _, h => by cases h
  | _ :: _, 0, _, _ => Nat.succ_pos _
  | _ :: r, i + 1, u, h => Nat.succ_lt_succ (gt_lt r i u h)
theorem Rep.st {B : Addr → Prop} {α : List Addr} {σ : L2.St} {H : Hp} {ρ : List (Option U)} {O : List DO} (R : Rep G B α σ H ρ O) (i : Nat) {v : V} {u : U} (a : AtU G.K B α O H v u) : Rep G B α (σ.set i (some v)) H (st ρ i u) O := by
  refine ⟨fun j w e => ?_, R.own, by rw [st_len, List.length_set]; exact R.len⟩
  have hj := gt_lt _ _ _ e
  rw [st_len] at hj
  rcases gt_st ρ i j u w e with ⟨rfl, rfl⟩ | ⟨hne, e⟩
  · exact ⟨v, by rw [List.getElem?_set_self (Nat.lt_of_lt_of_le hj R.len)], a⟩
  · obtain ⟨v', e1, a1⟩ := R.vars j w e
    exact ⟨v', by rw [List.getElem?_set_ne (Ne.symm hne)]; exact e1, a1⟩
theorem assignEach_plain {e : Expr} {es : List Expr} {env : Env} (h : noStar e = true) : assignEach (e :: es) env = (false, assign e env) :: assignEach es env := by
  cases e <;> first | rfl | cases h
theorem ckGs_star {S : Sx} {env : Env} : ∀ {r : T1} {es : List Expr}, ckGs S r es = true → (assignEach es env).length = es.length ∧ (assignEach es env).findIdx? (·.1) = none
  | _, [], _ => ⟨rfl, rfl⟩
  | .cons a r, e :: es, h => by
    rw [ckGs] at h
    obtain ⟨h, h3⟩ := ba h
    obtain ⟨h1, h2⟩ := ba h
    obtain ⟨i1, i2⟩ := ckGs_star (env := env) h3
    rw [assignEach_plain h1]
    refine ⟨by rw [List.length_cons, List.length_cons, i1], ?_⟩
    rw [List.findIdx?_cons]
    show (if false = true then some 0 else _) = none
    rw [if_neg (by decide), i2]
    rfl
  | .nm _, e :: es, h => by rw [ckGs] at h; cases h; all_goals (intros; contradiction)
  | .tp _, e :: es, h => by rw [ckGs] at h; cases h; all_goals (intros; contradiction)
  | .nil, e :: es, h => by rw [ckGs] at h; cases h; all_goals (intros; contradiction)
def tlen : T1 → Nat
  | .cons _ r => tlen r + 1
  | _ => 0
mutual
theorem bindT_ex : ∀ {t : T1} {d : D} {ρ : List (Option U)} {k : List (Option U) → Prop}, bindT t d ρ k → ∃ ρ', k ρ'
  | .nm i, d, ρ, k, h => ⟨_, h⟩
  | .tp r, d, ρ, k, h => by
    cases d <;> first | exact bindTs_ex (t := r) h | exact False.elim h
  | .nil, d, ρ, k, h => h.elim
  | .cons _ _, d, ρ, k, h => h.elim
theorem bindTs_ex : ∀ {t : T1} {ds : List D} {ρ : List (Option U)} {k : List (Option U) → Prop}, bindTs t ds ρ k → ∃ ρ', k ρ'
  | .nil, [], ρ, k, h => ⟨_, h⟩
  | .nil, _ :: _, ρ, k, h => h.elim
  | .cons a r, d :: ds, ρ, k, h => by
    obtain ⟨ρ1, h⟩ := bindT_ex (t := a) (d := d) h
    exact bindTs_ex h
  | .cons a r, [], ρ, k, h => h.elim
  | .nm _, ds, ρ, k, h => h.elim
  | .tp _, ds, ρ, k, h => h.elim
end
theorem bindTs_len : ∀ {t : T1} {ds : List D} {ρ : List (Option U)} {k : List (Option U) → Prop}, bindTs t ds ρ k → ds.length = tlen t
  | .nil, [], ρ, k, h => rfl
  | .nil, _ :: _, ρ, k, h => h.elim
  | .cons a r, d :: ds, ρ, k, h => by
    obtain ⟨ρ1, h⟩ := bindT_ex (t := a) (d := d) h
    exact congrArg (· + 1) (bindTs_len h)
  | .cons a r, [], ρ, k, h => h.elim
  | .nm _, ds, ρ, k, h => h.elim
  | .tp _, ds, ρ, k, h => h.elim
theorem ckGs_len {S : Sx} : ∀ {r : T1} {es : List Expr}, ckGs S r es = true → es.length = tlen r
  | .nil, [], _ => rfl
  | .cons a r, [], h => by rw [ckGs] at h; cases h; all_goals (intros; contradiction)
  | .nm _, [], h => by rw [ckGs] at h; cases h; all_goals (intros; contradiction)
  | .tp _, [], h => by rw [ckGs] at h; cases h; all_goals (intros; contradiction)
  | .cons a r, e :: es, h => by
    rw [ckGs] at h
    obtain ⟨h, h3⟩ := ba h
    rw [List.length_cons, ckGs_len h3]
    rfl
  | .nm _, e :: es, h => by rw [ckGs] at h; cases h; all_goals (intros; contradiction)
  | .tp _, e :: es, h => by rw [ckGs] at h; cases h; all_goals (intros; contradiction)
  | .nil, e :: es, h => by rw [ckGs] at h; cases h; all_goals (intros; contradiction)
mutual
theorem sd_tg {X : Cx} {W0 : XK} {S : Sx} (g : Good X G W0 k S Γ) : ∀ {t : T1} {e : Expr}, ckG S t e = true → PG X e (LfG G t)
  | .nm i, e, h => by
    rw [ckG.eq_def] at h
    split at h
    · rename_i j x p h0
      cases h0
      obtain ⟨h1, h2⟩ := ba h
      obtain ⟨l, hf⟩ := g.sto x h2
      refine pg_imp (pg_name g.nd (by rw [g.hN]; exact of_decide_eq_true h1) l hf) fun v σ H Q ⟨B, α, O, ρ, d, Q0, R, a, h, hq⟩ => ?_
      refine hq _ h _ (R.st i (.d a)) (fun j hj => ?_) List.length_set
      rw [List.getElem?_set_ne (fun z => hj (by rw [← z]; simp [slots]))]
    · rename_i h0; cases h0
    · cases h
  | .tp r, e, h => by
    rw [ckG.eq_def] at h
    split at h
    · rename_i h0; cases h0
    · rename_i r' es p1 p2 h0
      cases h0
      obtain ⟨i1, i2⟩ := ckGs_star (env := X.env) h
      refine pg_imp (pg_or (pg_tup g.calm (sd_tgs g h) i1 i2) (pg_unl g.calm (sd_tgs g h) i1 i2)) fun v σ H Q ⟨B, α, O, ρ, d, Q0, R, a, hb, hq⟩ => ?_
      cases d with
      | tup ds =>
        have hb' : bindTs r ds ρ Q0 := hb
        obtain ⟨p, vs, rfl, e, r'⟩ := (Vw.at_ a).tup
        refine .inl ⟨p, vs, rfl, by rw [g.hK]; exact e, by rw [r'.length, ckGs_len h, bindTs_len hb'], B, α, O, ρ, ds, Q0, R, r', hb', fun ρ' q σ' R' hs hl => hq ρ' q σ' R' (fun i hi => hs i (by simpa [slots] using hi)) hl⟩
      | lst ds =>
        have hb' : bindTs r ds ρ Q0 := hb
        obtain ⟨p, vs, rfl, e, r'⟩ := (Vw.at_ a).lst
        refine .inr ⟨p, vs, rfl, by rw [g.hK]; exact SqL.of e, by rw [r'.length, ckGs_len h, bindTs_len hb'], B, α, O, ρ, ds, Q0, R, r', hb', fun ρ' q σ' R' hs hl => hq ρ' q σ' R' (fun i hi => hs i (by simpa [slots] using hi)) hl⟩
      | _ => exact False.elim hb
    · cases h
  | .nil, e, h => by rw [ckG] at h; cases h; all_goals (intros; contradiction)
  | .cons _ _, e, h => by rw [ckG] at h; cases h; all_goals (intros; contradiction)
theorem sd_tgs {X : Cx} {W0 : XK} {S : Sx} (g : Good X G W0 k S Γ) : ∀ {t : T1} {es : List Expr}, ckGs S t es = true → PGs X es (LfGs G t)
  | .nil, [], h => by
    refine pgs_imp pgs_nil fun v σ H Q ⟨B, α, O, ρ, ds, Q0, R, a, hb, hq⟩ => ?_
    cases a with
    | nil => exact ⟨rfl, hq _ hb _ R (fun _ _ => rfl) rfl⟩
    | cons _ _ => exact False.elim hb
  | .cons t r, e :: es, h => by
    rw [ckGs] at h
    obtain ⟨h, h3⟩ := ba h
    obtain ⟨h1, h2⟩ := ba h
    refine pgs_imp (pgs_cons (sd_tg g h2) (sd_tgs g h3) (by rw [assignEach_plain h1]; rfl)) fun v σ H Q ⟨B, α, O, ρ, ds, Q0, R, a, hb, hq⟩ => ?_
    cases a with
    | nil => exact False.elim hb
    | @cons v' d vs' ds a ar =>
      refine ⟨v', vs', rfl, B, α, O, ρ, d, _, R, a, hb, fun ρ1 q1 σ1 R1 hs1 hl1 => ?_⟩
      refine ⟨B, α, O, ρ1, ds, Q0, R1, ar, q1, fun ρ2 q2 σ2 R2 hs2 hl2 => hq ρ2 q2 σ2 R2 (fun i hi => ?_) (hl2.trans hl1)⟩
      have hi' : i ∉ slots t ∧ i ∉ slots r := by simpa [slots] using hi
      rw [hs2 i hi'.2, hs1 i hi'.1]
  | .nil, e :: es, h => by rw [ckGs] at h; cases h; all_goals (intros; contradiction)
  | .cons _ _, [], h => by rw [ckGs] at h; cases h; all_goals (intros; contradiction)
  | .nm _, _, h => by rw [ckGs] at h; cases h; all_goals (intros; contradiction)
  | .tp _, _, h => by rw [ckGs] at h; cases h; all_goals (intros; contradiction)
end
end
end Z

set_option Elab.async false
set_option linter.all false
set_option maxRecDepth 100000
set_option maxHeartbeats 4000000
namespace Z
open PySem PySem.Spec PyProof.Rows L2
section
variable {G : Gx} {k : Nat} {Γ : List (Fk × ZSp)}
theorem good_lam {X : Cx} {W0 : XK} {S : Sx} (g : Good X G W0 k S Γ) {scope : Scope} (L : LamX.LamS X.env.scope scope) (A : Around) (outer : List Env) (t : Shared) (HZ : Hp) (E : XK) (f c' : Addr) (hr : Room k (A.deeper (LamX.lamEnv X scope t.heap.objs.size f c'))) :
    Good (LamX.lamCx X A outer t HZ E scope f c') G E k (S.inn scope scope) Γ where
  hN := g.hN
  nd := g.nd
  sc := rfl
  calm := rfl
  hK := g.hK
  takes := takes_of rfl rfl rfl rfl
  rm := hr
  fns := g.fns
  free := g.free
  sto := fun x h => by
    have h : ownB scope x = true := h
    unfold ownB at h
    split at h
    · rename_i q
      exact absurd rfl (L.own _ (PySem.mem_of_lookup q)).1
    · rename_i q
      exact absurd rfl (L.own _ (PySem.mem_of_lookup q)).2
    · cases h
  gi := g.gi
  gs := g.gs
  xs := g.xs
  mkx := fun z => by cases z
  lam := fun z => by cases z
theorem lookD_of {K : PySem.W.Frag} {M : Addr → Prop} {H : Hp} : ∀ {fs : List (Str × V)} {gs : List (Str × D)}, fs.map (·.1) = gs.map (·.1) → Ats K M H (fs.map (·.2)) (gs.map (·.2)) → ∀ {n : Str} {d : D}, gs.lookup n = some d → ∃ v, fs.lookup n = some v ∧ At K M H v d
  | [], [], _, _, n, d, h => by cases h
  | [], _ :: _, e, _, _, _, _ => by cases e
  | _ :: _, [], e, _, _, _, _ => by cases e
  | (a, v) :: fs, (b, d0) :: gs, e, r, n, d, h => by
    obtain ⟨e1, e2⟩ := List.cons.inj e
    have e1 : a = b := e1
    subst e1
    cases r with
    | cons x r =>
    by_cases hn : n = a
    · subst hn
      simp [List.lookup] at h ⊢
      subst h
      exact x
    · have hb : (n == a) = false := by simpa using hn
      simp only [List.lookup, hb] at h ⊢
      exact lookD_of e2 r h
theorem lookAll_of {K : PySem.W.Frag} {M : Addr → Prop} {H : Hp} {fs : List (Str × V)} {gs : List (Str × D)} (e : fs.map (·.1) = gs.map (·.1)) (r : Ats K M H (fs.map (·.2)) (gs.map (·.2))) : ∀ {ns : List Str} {ds : List D}, lookD gs ns = some ds → ∃ vs, lookAll fs ns = some vs ∧ Ats K M H vs ds
  | [], ds, h => by cases h; exact ⟨[], rfl, .nil⟩
  | n :: ns, ds, h => by
    rw [lookD] at h
    split at h
    · rename_i v ws h1 h2
      cases h
      obtain ⟨x, e1, a1⟩ := lookD_of e r h1
      obtain ⟨xs, e2, a2⟩ := lookAll_of e r h2
      exact ⟨x :: xs, by rw [lookAll, e1, e2], .cons a1 a2⟩
    · cases h
theorem lookAll_len {fs : List (Str × V)} : ∀ {ns : List Str} {vs : List V}, lookAll fs ns = some vs → vs.length = ns.length
  | [], vs, h => by cases h; rfl
  | n :: ns, vs, h => by
    rw [lookAll] at h
    split at h
    · rename_i v ws h1 h2
      cases h
      exact congrArg (· + 1) (lookAll_len h2)
    · cases h
theorem pick_len (c : Str) : (pickF fldT c).length ≤ 2 := by
  have key : ∀ t : FT, (∀ p ∈ t, p.2.2.length ≤ 2) → (pickF t c).length ≤ 2 := by
    intro t
    induction t with
    | nil => intro _; exact Nat.zero_le _
    | cons p r ih =>
      intro h
      obtain ⟨m, cs, fs⟩ := p
      rw [pickF]
      split
      · exact h _ List.mem_cons_self
      · exact ih fun p hp => h p (List.mem_cons_of_mem _ hp)
  exact key _ (by decide)
theorem stp_ext {α : List Addr} {O : List DO} {H H' : Hp} (e : ExtH H H') : Stp α O H α O H' := ⟨⟨[], by simp⟩, fun b o q _ _ => e b o q, fun b q => (by
  cases z : H b with
  | none => rfl
  | some o =>
    rw [e b o z] at q
    cases q), fun _ m => .inl m, fun _ m => .inl m, fun _ m => .inl m⟩
theorem own_ext {B : Addr → Prop} {α : List Addr} {O : List DO} {H H' : Hp} (w : Own G B α O H) (e : ExtH H H') : Own G B α O H' :=
  ⟨w.len, w.nd, fun k a o e1 e2 => (w.at_ k a o e1 e2).stp (stp_ext e) fun l => by
    obtain ⟨q, e3⟩ := Ow.some w ⟨k, o, e1, e2, l⟩
    rw [e3, e a q e3], fun a m => let ⟨o, q⟩ := w.bt a m; ⟨o, e a o q⟩, w.nb, tabs_keep w.tabs fun b o q _ => e b o q⟩
/-- the suite's reading: the error a, told -/
def rdSuite (K : PySem.W.Frag) (xs : List Str) (a : Addr) (cls : Value) (d : Option Addr) : TS := fun D σ H => ∃ C, C ∈ xs ∧ cls = .ref (He.ga K C) ∧ ∃ dd fs code vs, d = some dd ∧ fsAt 1 a dd fs σ H ∧ fs.lookup ("code" : Str) = some (.str code) ∧ lookAll fs (pickF fldT code) = some vs ∧
  ∀ H' p, ExtH H H' → H p = none → H' p = some (.tup (.str code :: vs)) → D.rt (.ref p) H'
theorem got_suite {Y : Cx} {isd : Bool} {xs : List Str} {a : Addr} {cls : Value} {d : Option Addr} {oe : Obj} {pn : List (Addr × Obj)} {at_ : Expr} {q1 q2 q3 q4 q5 : Pos} {kk : Nat} {p1 : Pos} (W : AskE Y.K Y.mg xs isd) (hd : Y.A.depth < recursionLimit) (hz : Zc cls d oe) (hf : ∃ vs, oe.data = .fields vs)
    (hN : Y.N[1]? = some ("_law_e" : Str)) (hl : Y.env.kindOf "_law_e" = some .local) (hg : Y.env.kindOf "_law_fields" = some .globalImplicit) (c : attC "_law_e" "code" at_ = true) :
    PSs (Y.suite a ((a, oe) :: pn)) [.Return (some (.BinOp (.Tuple [at_] kk p1) .Add (.Call (.Name "_law_fields" q1) [.Name "_law_e" q2] [] q3) q4)) q5] (rdSuite Y.K xs a cls d) := by
  refine ⟨fun pins s σ H D I q => ?_⟩
  obtain ⟨C, hC, rfl, dd, fs, code, vs, rfl, q1, q2, q3, q4⟩ := q
  have h : HotE (Y.suite a ((a, oe) :: pn)) 1 "_law_e" a (He.ga Y.K C) dd oe := { hN := hN, vis := .inl hl, okd := by decide, okc := by decide, T := (W.exc C hC).xf, no := (W.exc C hC).no, pn := List.mem_cons_self, hz := hz, hf := hf }
  have st : starEach [at_] (Y.suite a ((a, oe) :: pn)).env = [(false, eval at_ (Y.suite a ((a, oe) :: pn)).env)] := by
    unfold attC at c
    split at c
    · rfl
    · cases c
  refine (pss_one (ps_ret (pe_op (X := Y.suite a ((a, oe) :: pn)) op_catA (pe_tup (pa_cons (hot_att (fs := fs) h (by decide) c) pa_nil st)) (pe_fields (fs := fs) W hC hd hz hf hN hl hg)))).run pins s σ H D I ?_
  refine ⟨q1, .str code, q2, by show 1 ≤ sizeLine; decide, fun p hp => ?_⟩
  have dp : dd ≠ p := ne_of_none q1.2 hp
  refine ⟨⟨q1.1, by rw [upd_ne dp]; exact q1.2⟩, code, vs, q2, q3, ?_, fun H' p2 e2 hp2 => ?_⟩
  · rw [lookAll_len q3]
    exact Nat.le_trans (pick_len code) (by decide)
  · have hpp : H' p = some (.tup [.str code]) := e2 p _ upd_same
    have e3 : ExtH H (upd H' p2 (.tup vs)) := ((ExtH.new hp).trans e2).trans (ExtH.new hp2)
    refine ⟨p, p2, [.str code], vs, rfl, rfl, SqT.of ?_, SqT.of upd_same, ?_, (fun z => absurd z (by simp)), (fun _ z => ?_), (fun _ _ p3 hp3 => ?_)⟩
    · rw [upd_ne (ne_of_none hpp hp2)]
      exact hpp
    · rw [lookAll_len q3]
      exact Nat.le_trans (Nat.add_le_add_left (pick_len code) 1) (by rw [sizeLine_eq]; decide)
    · subst z
      refine q4 _ p e3 hp ?_
      rw [upd_ne (ne_of_none hpp hp2)]
      exact hpp
    · refine q4 _ p3 (e3.trans (ExtH.new hp3)) ?_ upd_same
      cases z : H p3 with
      | none => rfl
      | some o =>
        rw [e3 _ _ z] at hp3
        cases hp3
/-- what _law_got gives: the reading of the lambda's body b -/
def rdGot (G : Gx) (xs : List Str) (t : ZE) (σ : L2.St) (HZ : Hp) (Q : VK) : Prop := ∃ B α ρ O Q0, Rep G B α σ HZ ρ O ∧ t (fun x O2 => x.cls ∈ xs ∧ ∃ f, lawFields x = some f ∧ Q0 [.d f] O2) ρ O (fun ws O2 => oneK ws fun w => toK O2 w fun x => Q0 [.d (.tup [.str "", x])] O2) ∧ QLow G B α O HZ Q0 Q
theorem got_run {X : Cx} {isd : Bool} {pins : List (Addr × Obj)} {σ : L2.St} {H HZ : Hp} {s t : Shared} {f c' : Addr} {pm ctv : Value} {params : Arguments} {body : Expr} {scope : Scope} {A : Around} {outer : List Env} {Q : VK} {xs : List Str} {tz : ZE} {gf : Addr} (hK : X.K = G.K) (W : AskE X.K X.mg xs isd)
    (hgf : X.mg "_law_got" = some (.ref gf)) (I : Inv X pins σ H s) (L : LamX.LamS X.env.scope scope)
    (hf : s.heap.get? f = some (lamObj X params body scope pm c' ctv)) (hfn : H f = none) (hfr : f ∉ frs X.stack) (hbind : bindArgs (PySem.W.kla_fn "<lambda>" (X.env.qual ++ "<lambda>") params body scope (cloFrom X.env.cells scope.names []) pm (.ref c') ctv) ⟨[], []⟩ = pure [])
    (hr : Room (k + 2) A) (e0 : Env0 X.prog X.w X.K X.mg X.base A outer t HZ) (up : ∀ H4 h4, Un (frs outer) [] HZ H4 t.heap h4 → Un (frs X.stack) [] H H4 s.heap h4) (hc : HZ c' = some (LamX.CodeO c' (X.env.qual ++ "<lambda>")))
    (hbody : ∀ (A : Around) (outer : List Env) (t : Shared) (HZ : Hp) (E : XK), Room k (A.deeper (LamX.lamEnv X scope t.heap.objs.size f c')) → PE (LamX.lamCx X A outer t HZ E scope f c') body (LfE G E tz)) (h : rdGot G xs tz σ HZ Q) :
    codeAny (model X.prog X.w) A (.call (.ref gf) ⟨[.ref f], []⟩) (CR (L2.CX X.prog X.w) outer X.prog X.w HZ t Q fun _ _ _ => False) t := by
  obtain ⟨gb, sc, ⟨⟨gf', fd, gps, F, hm, hb⟩, fsc⟩, ck⟩ := W.got
  cases hm.symm.trans hgf
  obtain ⟨oc, od, dV, kV, doc, pmg, an, cdv, ct, osl, rfl, lk, hcd, _, _⟩ := F.ex
  have KX : X.K.In t.heap := e0.mod.kin.keeps fun b o e => (e0.bs b o e).1
  have b2 := hb t [.ref f] KX rfl
  refine LamX.run_ofS (k := k + 1) (N := ["_law_ask", "_law_e"]) (ps := ["_law_ask"]) (us := [.ref f]) (vs := [.ref f]) (E := fun _ _ _ => False) lk hcd fsc hr e0 b2 (.cons rfl .nil) rfl fun hr2 => ?_
  unfold gotC at ck
  split at ck
  · rename_i z _ _ a pa pc _ _ _ e1 _ e2 _ _ _ n at_ _ _ g _ m _ _ _ _ _ _
    obtain ⟨ck, k13⟩ := ba ck
    obtain ⟨ck, k12⟩ := ba ck
    obtain ⟨ck, k11⟩ := ba ck
    obtain ⟨ck, k10⟩ := ba ck
    obtain ⟨ck, k9⟩ := ba ck
    obtain ⟨ck, k8⟩ := ba ck
    obtain ⟨ck, k7⟩ := ba ck
    obtain ⟨ck, k6⟩ := ba ck
    obtain ⟨ck, k5⟩ := ba ck
    obtain ⟨ck, k4⟩ := ba ck
    obtain ⟨ck, k3⟩ := ba ck
    obtain ⟨k1, k2⟩ := ba ck
    cases of_decide_eq_true k1
    cases of_decide_eq_true k2
    cases of_decide_eq_true k3
    cases of_decide_eq_true k4
    cases of_decide_eq_true k5
    cases of_decide_eq_true k7
    cases of_decide_eq_true k8
    have k9 := of_decide_eq_true k9
    have k10 := of_decide_eq_true k10
    have k11 := of_decide_eq_true k11
    have k12 := of_decide_eq_true k12
    have k13 := of_decide_eq_true k13
    refine ⟨_, pss_one (ps_try_pair (X := cxOf (L2.CX X.prog X.w) X.prog X.w X.K X.mg X.base ["_law_ask", "_law_e"] "_law_got" sc gf cdv A outer t HZ fun _ _ _ => False) (i := 1) (c1 := .ref (He.ga X.K "NetError")) (c2 := .ref (He.ga X.K "Missing")) (ts := rdSuite X.K xs)
      (tb := fun W D σ' H' => ∃ E : XK, (∀ cls d σ2 H2, E cls d H2 → W cls d σ2 H2) ∧ σ'[0]? = some (some (.ref f)) ∧ H' c' = some (LamX.CodeO c' (X.env.qual ++ "<lambda>")) ∧ LfE G E tz σ H' fun v H1 => ∀ p, H1 p = none → D.rt (.ref p) (upd H1 p (.tup [.str "", v])))
      rfl rfl fsc.nd rfl k13 k9 k10 W.ne W.mi (by decide) (by decide) ?_ ?_), ?_⟩
    · intro W2 pn xe tk
      refine ⟨fun pinsZ sZ σZ H1 D IZ q => ?_⟩
      obtain ⟨E, hE, s0, hc1, q⟩ := q
      have call : PE ((cxOf (L2.CX X.prog X.w) X.prog X.w X.K X.mg X.base ["_law_ask", "_law_e"] "_law_got" sc gf cdv A outer t HZ fun _ _ _ => False).tr pn xe) (.Call (.Name "_law_ask" pa) [] [] pc) (fun σ2 H2 Q2 => σ2[0]? = some (some (.ref f)) ∧ H2 c' = some (LamX.CodeO c' (X.env.qual ++ "<lambda>")) ∧ LfE G E tz σ H2 Q2) := by
        refine ⟨fun pins2 s2 σ2 H2 Q2 I2 q2 => ?_⟩
        obtain ⟨y1, y2, y3⟩ := q2
        refine wpAny_Call_Name_kw (thn ((pe_var (i := 0) rfl (.inl k12) (by decide) (by decide)).run pins2 s2 σ2 H2 (fun v H1 => v = .ref f ∧ H1 = H2) I2 ⟨.ref f, y1, rfl, rfl⟩) fun u s3 ⟨v, H3, I3, r3, e3⟩ => ?_)
        obtain ⟨rfl, rfl⟩ := e3
        cases (show u = Value.ref f from r3)
        have un := up _ _ I3.base
        refine PySem.W.callWith_F0 ⟨_, _, _, _, un.keep f _ hf hfn hfr (by simp)⟩ ?_
        refine of_run I3 (E := E) (passes_call tk hE) ?_
        exact act_run (X := X) (k := k) I L hf hfn hfr hbind hr2 I3.env0 un y2 (fun hr3 => hbody _ _ _ _ _ hr3) y3
      refine (pss_one (ps_ret (pe_tup (pa_cons pe_str (pa_cons call pa_nil))))).run pinsZ sZ σZ H1 D IZ ⟨s0, hc1, ?_⟩
      obtain ⟨B, α, ρ, O, Q1, E1, R, hz, hq, hl⟩ := q
      exact ⟨B, α, ρ, O, Q1, E1, R, hz, fun us O' z => let ⟨u, e, kk⟩ := hq us O' z; ⟨u, e, fun α' v H' s' w' a' => ⟨by show 2 ≤ sizeLine; decide, kk α' v H' s' w' a'⟩⟩, hl⟩
    · intro a oe cls d pn hz hf2
      exact got_suite (Y := cxOf (L2.CX X.prog X.w) X.prog X.w X.K X.mg X.base ["_law_ask", "_law_e"] "_law_got" sc gf cdv A outer t HZ fun _ _ _ => False) W hr2.depth hz hf2 rfl k13 k11 k6
    · obtain ⟨B, α, ρ, O, Q0, R, hz, hq⟩ := h
      refine ⟨fun cls d H' => PySem.W.exmAny X.K cls [.ref (He.ga X.K "NetError"), .ref (He.ga X.K "Missing")] = some true ∧ ∀ σ2 : L2.St, σ2.length = 2 → ∀ a, H' a = none → rdSuite X.K xs a cls d { nx := fun _ _ => False, rt := Q } (σ2.set 1 (some (.ref a))) H',
        fun cls d σ2 H2 z => ⟨z.1, fun hl => z.2 σ2 hl⟩, rfl, hc, ?_⟩
      refine ⟨B, α, ρ, O, _, _, R, hz, fun us O' z => ?_, fun x O' z => ?_⟩
      · obtain ⟨u, e, z⟩ := oneK_of z
        obtain ⟨d, e1, z⟩ := toK_of z
        refine ⟨u, e, fun α' v H' s' w' a' p hp => ?_⟩
        refine hq.to z (s'.trans (stp_new hp)) (own_new w' hp) (.d (At.tupNew w' hp (.cons (.str _) (.cons (At.of w' a' e1) .nil))))
      · obtain ⟨hx, d, e1, z⟩ := z
        intro α' cls dd H' s' w' a'
        obtain ⟨rfl, dx, fs, rfl, e3, nm, e4, r4⟩ := a'
        refine ⟨by rw [← hK]; exact (W.exc _ hx).exm, fun σ2 hl a ha => ?_⟩
        unfold lawFields at e1
        split at e1
        · rename_i code e5
          split at e1
          · rename_i ds e6
            cases e1
            obtain ⟨v, l1, a1⟩ := lookD_of e4 r4 e5
            cases a1
            obtain ⟨vs, l2, r2⟩ := lookAll_of e4 r4 e6
            refine ⟨x.cls, hx, by rw [hK], dx, fs, code, vs, rfl, ⟨?_, e3⟩, l1, l2, fun H2 p x2 hn hp => ?_⟩
            · rw [List.getElem?_set_self (by omega)]
            · refine hq.to z (s'.trans (stp_ext x2)) (own_ext w' x2) (.d (.tup hp (w'.mu_ne hn) (.cons (.str _) ((stp_ext x2).ats r2))))
          · cases e1
        · cases e1
  · cases ck
end
end Z

set_option Elab.async false
set_option linter.all false
set_option maxRecDepth 100000
set_option maxHeartbeats 4000000
namespace Z
open PySem PySem.Spec PyProof.Rows L2
section
variable {G : Gx} {k : Nat} {Γ : List (Fk × ZSp)} {B : Addr → Prop} {α : List Addr} {O : List DO}
theorem lamH_keep {P : Addr} {q : Str} {H H1 : Hp} (h : LamH P q H H1) : (∀ b o, H b = some o → (∀ ps, o ≠ .tbl ps) → H1 b = some o) ∧ ∀ b, H1 b = none → H b = none := by
  rcases h with rfl | ⟨ps, ps', c, hP, hc, rfl⟩
  · exact ⟨fun _ _ e _ => e, fun _ e => e⟩
  · refine ⟨fun b o e n => ?_, fun b e => ?_⟩
    · have h1 : b ≠ P := fun z => by
        rw [z, hP] at e
        exact n ps (Option.some.inj e).symm
      rw [upd_ne (ne_of_none e hc), upd_ne h1]
      exact e
    · by_cases h2 : b = c
      · rw [h2]; exact hc
      · rw [upd_ne h2] at e
        by_cases h1 : b = P
        · rw [h1, upd_same] at e
          cases e
        · rw [upd_ne h1] at e
          exact e
theorem stp_lam {P : Addr} {q : Str} {H H1 : Hp} (h : LamH P q H H1) : Stp α O H α O H1 := ⟨⟨[], by simp⟩, fun b o e _ n => (lamH_keep h).1 b o e n, (lamH_keep h).2, fun _ m => .inl m, fun _ m => .inl m, fun _ m => .inl m⟩
theorem own_lam {P : Addr} {q : Str} {H H1 : Hp} (w : Own G B α O H) (h : LamH P q H H1) (t : LamX.Tabs G.T H1) : Own G B α O H1 := by
  refine ⟨w.len, w.nd, fun k a o e1 e2 => (w.at_ k a o e1 e2).stp (stp_lam h) fun l => ?_, fun a m => ?_, w.nb, t⟩
  · have hh := w.at_ k a o e1 e2
    cases o with
    | lst ds =>
      obtain ⟨vs, e, _⟩ := hh
      rw [e, (lamH_keep h).1 a _ e (fun _ z => by cases z)]
    | brw ds =>
      obtain ⟨vs, e, _⟩ := hh
      rw [e, (lamH_keep h).1 a _ e (fun _ z => by cases z)]
    | ob _ _ =>
      obtain ⟨_, _, e, _⟩ := hh
      rw [e, (lamH_keep h).1 a _ e (fun _ z => by cases z)]
    | frz ds => cases l
  · obtain ⟨o, e⟩ := w.bt a m
    cases q : H1 a with
    | some o => exact ⟨o, rfl⟩
    | none =>
      rw [(lamH_keep h).2 a q] at e
      cases e
theorem noArgs_eq {ps : Arguments} (h : noArgs ps = true) : ps = ⟨[], [], none, [], [], none, []⟩ := by
  unfold noArgs at h
  split at h
  · rfl
  · cases h
theorem noArgs_bind {n q : Str} {body : Expr} {scope : Scope} {cl : List (Str × Addr)} {pm cv ctv : Value} : bindArgs (PySem.W.kla_fn n q ⟨[], [], none, [], [], none, []⟩ body scope cl pm cv ctv) ⟨[], []⟩ = pure [] := by rfl
theorem AskE.less {K : PySem.W.Frag} {mg : Str → Option Value} {xs ys : List Str} {isd : Bool} (h : AskE K mg xs isd) (s : ∀ x ∈ ys, x ∈ xs) : AskE K mg ys isd := ⟨h.fld, h.got, h.is_, h.ne, h.mi, fun C hC => h.exc C (s C hC)⟩
theorem passes0 {X : Cx} : Passes (L2.CX X.prog X.w) X (fun _ _ _ => False) := passes_call LamX.takes0 fun _ _ _ _ h => h
theorem not_ho {H : Hp} (w : Own G B α O H) {c : Addr} {o : HO} (e : H c = some o) (n : ∀ xs, o ≠ .lst xs) (n2 : ∀ C d fs, o ≠ .ins C d fs) : ¬ Ho α O c := fun ⟨j, u, e1, e2, l⟩ => by
  have h := w.at_ j c u e1 e2
  cases u with
  | lst ds =>
    obtain ⟨vs, e3, _⟩ := h
    rw [e] at e3
    exact n vs (Option.some.inj e3)
  | brw _ => cases l
  | frz _ => cases l
  | ob _ _ =>
    obtain ⟨_, _, e3, _⟩ := h
    rw [e] at e3
    exact n2 _ _ _ (Option.some.inj e3)
theorem codeO_ins {c : Addr} {q : Str} (C d : Addr) (fs : List (Str × V)) : LamX.CodeO c q ≠ .ins C d fs := fun z => by
  unfold LamX.CodeO at z
  cases z
theorem codeO_lst {c : Addr} {q : Str} (xs : List V) : LamX.CodeO c q ≠ .lst xs := fun z => by
  unfold LamX.CodeO at z
  cases z
theorem sub_all {xs ys : List Str} (h : (xs.all fun x => decide (x ∈ ys)) = true) : ∀ x ∈ xs, x ∈ ys := fun x hx => of_decide_eq_true (List.all_eq_true.mp h x hx)
theorem sd_got (xs : List Str) {b : Y} (db : Sd G k Γ b) : Sd G k Γ (.got xs b) := .ofE _ (fun _ => rfl) fun X W0 S g e c => by
  unfold gotEC at c
  split at c
  · rename_i f fp ps body scope lp pos
    obtain ⟨c, c7⟩ := ba c
    obtain ⟨c, c6⟩ := ba c
    obtain ⟨c, c5⟩ := ba c
    obtain ⟨c, c4⟩ := ba c
    obtain ⟨c, c3⟩ := ba c
    obtain ⟨c1, c2⟩ := ba c
    cases of_decide_eq_true c2
    cases noArgs_eq c4
    obtain ⟨⟨cc, P, TB, hcode, hmT, hu⟩, W, hst⟩ := g.lam c1
    have W := W.less (sub_all c6)
    obtain ⟨gb, sc, ⟨⟨gf, fd, gps, F, hm, hb⟩, fsc⟩, ck⟩ := id W.got
    have L := LamX.lamS_by (by rw [← g.sc] at c5; exact c5)
    refine ⟨fun pins s σ H Q I h => ?_⟩
    obtain ⟨B, α, ρ, O, Q0, E0, R, h, hq, hl⟩ := h
    refine wpAny_Call_Name_kw (ld_glob I (glo_of g c3) hm ?_ (by decide))
    refine PySem.W.callWith_K (h₀ := X.base) I.ok.mod.kin F.kp ?_ (by rfl) (by rfl)
    have st : starEach [.Lambda ⟨[], [], none, [], [], none, []⟩ body scope lp] X.env = [(false, eval (.Lambda ⟨[], [], none, [], [], none, []⟩ body scope lp) X.env)] := starEach_plain rfl
    rw [st]
    show wpAny _ _ (spliced [(false, eval (.Lambda ⟨[], [], none, [], [], none, []⟩ body scope lp) X.env)]) _ _ s
    refine Calls.spliced_cons (lam_lay (params := ⟨[], [], none, [], [], none, []⟩) I TB hcode hmT hu R.own.tabs rfl (L.has I.ok) fun f c' pm ctv H1 t I1 lh T1 hf hfn hsz hco => ?_)
    refine Calls.spliced_nil ⟨I1.kIn, ?_⟩
    have hfr : f ∉ frs X.stack := fun z => by
      rcases List.mem_cons.mp (I.stkSub _ z) with e | e
      · have h1 := I.lt
        rw [← e] at h1
        exact Nat.lt_irrefl _ (Nat.lt_of_lt_of_le h1 hsz)
      · exact I.nofs hsz e
    have R1 := R.stp (stp_lam lh) (own_lam R.own lh T1)
    have rm : Room (k + 2) X.A := (show Room (k + 3) X.A by have := g.rm; rw [if_pos c1] at this; exact this).mono (by omega)
    refine of_run I1 passes0 ?_
    exact got_run (X := X) (tz := vc Γ b) (outer := X.stack) g.hK W hm I1 L hf hfn hfr noArgs_bind rm I1.env0 (fun _ _ u => u) hco (fun A outer t HZ E hr => db.E _ E _ (good_lam g L A outer t HZ E f c' hr) _ c7)
      ⟨B, α, ρ, O, Q0, R1, h, hq.stp (stp_lam lh)⟩
  · cases c
theorem sd_ask (i : Nat) (xs : List Str) {b d : Y} (db : Sd G k Γ b) (dd : Sd G k Γ d) : Sd G k Γ (.ask i xs b d) := .ofE _ (fun _ => rfl) fun X W0 S g e c => by
  obtain ⟨cn, c⟩ := ba c
  unfold askC at c
  split at c
  · rename_i f fp ps body scope lp de pos _
    obtain ⟨c, c9⟩ := ba c
    obtain ⟨c, c8⟩ := ba c
    obtain ⟨c, c7⟩ := ba c
    obtain ⟨c, c6⟩ := ba c
    obtain ⟨c, c5⟩ := ba c
    obtain ⟨c, c4⟩ := ba c
    obtain ⟨c, c3⟩ := ba c
    obtain ⟨c1, c2⟩ := ba c
    cases of_decide_eq_true c2
    cases noArgs_eq c4
    obtain ⟨c1, cis⟩ := ba c1
    obtain ⟨⟨cc, P, TB, hcode, hmT, hu⟩, W, hst⟩ := g.lam c1
    have W := W.less (sub_all c6)
    have L := LamX.lamS_by (by rw [← g.sc] at c5; exact c5)
    rw [List.getElem?_map] at cn
    cases q : Γ[i]? with
    | none => rw [q] at cn; cases cn
    | some p =>
    obtain ⟨⟨sn, sk⟩, PS⟩ := p
    rw [q] at cn
    have cn : (match (some (sn, sk) : Option Fk) with
      | some (f, []) => decide (f = "_law_same")
      | _ => false) = true := cn
    cases sk with
    | cons _ _ => cases cn
    | nil =>
    cases of_decide_eq_true cn
    obtain ⟨f3, hm3, hk3, F3⟩ := FnX.glo (g.fns i _ PS q) rfl
    obtain ⟨ib, isc, ⟨⟨fi, fdi, psi, Fi, hmi, hbi⟩, fsi⟩, cki⟩ := W.is_ cis
    obtain ⟨gb, gsc, ⟨⟨gf, gfd, gps, GF, hmg, hbg⟩, gfs⟩, gck⟩ := id W.got
    have rm : Room (k + 3) X.A := by have := g.rm; rw [if_pos c1] at this; exact this
    refine ⟨fun pins s σ H Q I h => ?_⟩
    obtain ⟨B, α, ρ, O, Q0, E0, R, h, hq, hl⟩ := h
    refine wpAny_Call_Name_kw (ld_glob I (glo_of g c3) hmi ?_ (by decide))
    refine PySem.W.callWith_K (h₀ := X.base) I.ok.mod.kin Fi.kp ?_ (by rfl) (any_plain (by rw [List.all_cons, c8]; rfl))
    have st : starEach [.Lambda ⟨[], [], none, [], [], none, []⟩ body scope lp, de] X.env = [(false, eval (.Lambda ⟨[], [], none, [], [], none, []⟩ body scope lp) X.env), (false, eval de X.env)] := by
      rw [starEach_plain rfl, starEach_plain c8]
      rfl
    rw [st]
    show wpAny _ _ (spliced [(false, eval (.Lambda ⟨[], [], none, [], [], none, []⟩ body scope lp) X.env), (false, eval de X.env)]) _ _ s
    refine Calls.spliced_cons (lam_lay (params := ⟨[], [], none, [], [], none, []⟩) I TB hcode hmT hu R.own.tabs rfl (L.has I.ok) fun f c' pm ctv H1 t I1 lh T1 hf hfn hsz hco => ?_)
    have hfs : f ∉ X.fs := fun z => I.nofs hsz z
    have hfl : f ≠ X.env.locals := fun z => by
      have h1 := I.lt
      rw [← z] at h1
      exact Nat.lt_irrefl _ (Nat.lt_of_lt_of_le h1 hsz)
    have w1 := own_lam R.own lh T1
    have R1 := R.stp (stp_lam lh) w1
    have I1p : Inv X (pins ++ [(f, lamObj X ⟨[], [], none, [], [], none, []⟩ body scope pm c' ctv)]) σ H1 t := I1.pins_of fun p hp => by
      rcases List.mem_append.mp hp with hp | hp
      · exact I1.pin p (List.mem_append_right _ hp)
      · cases List.mem_singleton.mp hp
        exact ⟨hf, hfn, hfl, hfs, fun v z => by cases z⟩
    have hD : LfE G W0 (vc Γ d) σ H1 fun v H2 => ∃ B2 α2 O2 due, Rep G B2 α2 σ H2 ρ O2 ∧ At G.K (Mu B2 α2 O2) H2 v due ∧ H2 c' = some (LamX.CodeO c' (X.env.qual ++ "<lambda>")) ∧ QLow G B2 α2 O2 H2 Q0 Q ∧
        vc Γ b (fun x O2 => x.cls ∈ xs ∧ ∃ f, lawFields x = some f ∧ callZ PS [.d f, .d due] O2 (fun u O3 => Q0 [u] O3) fun _ _ => False) ρ O2 fun ws O2 => oneK ws fun w => toK O2 w fun x => callZ PS [.d (.tup [.str "", x]), .d due] O2 (fun u O3 => Q0 [u] O3) fun _ _ => False := by
      refine seqE R1 h (hl.stp (stp_lam lh)) fun u O2 hf2 α2 v H2 s2 w2 a2 => ?_
      obtain ⟨due, e1, hf2⟩ := toK_of hf2
      simp only [q] at hf2
      exact ⟨B, α2, O2, due, R1.stp s2 w2, At.of w2 a2 e1, s2.keep c' _ hco (not_ho w1 hco codeO_lst codeO_ins) (fun ps => LamX.codeO_ne ps), (hq.stp (stp_lam lh)).stp s2, hf2⟩
    refine Calls.spliced_cons (thn ((dd.E X W0 S g _ c9).run _ t σ H1 _ I1p hD) fun u2 t2 hv => ?_)
    obtain ⟨v2, H2, I2p, r2, B2, α2, O2, due, R2, a2, hco2, hq2, hz⟩ := hv
    refine Calls.spliced_nil ⟨I2p.kIn, ?_⟩
    have I2 : Inv X pins σ H2 t2 := I2p.pins_of fun p hp => I2p.pin p (by rw [← List.append_assoc]; exact List.mem_append_left _ (List.mem_append_right _ hp))
    obtain ⟨hf2, hfn2, _, _, _⟩ := I2p.pin (f, lamObj X ⟨[], [], none, [], [], none, []⟩ body scope pm c' ctv) (List.mem_append_right _ (List.mem_append_right _ (by simp)))
    have hfr : f ∉ frs X.stack := fun z => (List.mem_cons.mp (I2.stkSub _ z)).elim hfl hfs
    refine of_run I2 passes0 ?_
    show codeAny _ _ (.call (.ref fi) ⟨[.ref f, u2], []⟩) _ _
    obtain ⟨oc, od, dV, kV, doc, pmg, an, cdv, ct, osl, rfl, lk, hcd, _, _⟩ := Fi.ex
    have bI := hbi t2 [.ref f, u2] I2.kIn rfl
    refine LamX.run_ofS (k := k + 2) (N := ["_law_ask", "_law_due"]) (ps := ["_law_ask", "_law_due"]) (us := [.ref f, u2]) (vs := [.ref f, v2]) (E := fun _ _ _ => False) lk hcd fsi rm I2.env0 bI (.cons rfl (.cons r2 .nil)) rfl fun hr2 => ?_
    unfold isC at cki
    split at cki
    · rename_i n1 p1 n2 p2 n3 p3 p4 n4 p5 p6 p7
      obtain ⟨cki, k8⟩ := ba cki
      obtain ⟨cki, k7⟩ := ba cki
      obtain ⟨cki, k6⟩ := ba cki
      obtain ⟨cki, k5⟩ := ba cki
      obtain ⟨cki, k4⟩ := ba cki
      obtain ⟨cki, k3⟩ := ba cki
      obtain ⟨k1, k2⟩ := ba cki
      cases of_decide_eq_true k1
      cases of_decide_eq_true k2
      cases of_decide_eq_true k3
      cases of_decide_eq_true k4
      have k5 := of_decide_eq_true k5
      have k6 := of_decide_eq_true k6
      have k7 := of_decide_eq_true k7
      have k8 := of_decide_eq_true k8
      have gotE : PE (cxOf (L2.CX X.prog X.w) X.prog X.w X.K X.mg X.base ["_law_ask", "_law_due"] "_law_is" isc fi cdv X.A X.stack t2 H2 fun _ _ _ => False) (.Call (.Name "_law_got" p2) [.Name "_law_ask" p3] [] p4)
          (fun σ3 H3 Q3 => σ3[0]? = some (some (.ref f)) ∧ H3 c' = some (LamX.CodeO c' (X.env.qual ++ "<lambda>")) ∧ rdGot G xs (vc Γ b) σ H3 Q3) := by
        refine ⟨fun pins3 s3 σ3 H3 Q3 I3 q3 => ?_⟩
        obtain ⟨y1, y2, y3⟩ := q3
        refine wpAny_Call_Name_kw (ld_glob I3 k6 hmg ?_ (by decide))
        refine PySem.W.callWith_K (h₀ := X.base) I3.ok.mod.kin GF.kp (thn ((pa_cons (pe_var (i := 0) rfl (.inl k7) (by decide) (by decide)) pa_nil).run _ pins3 s3 σ3 H3 (fun ws H1 => ws = [.ref f] ∧ H1 = H3) I3 ⟨.ref f, y1, rfl, rfl⟩) fun us s4 ⟨ws, H4, I4, r4, e4⟩ => ⟨I4.kIn, ?_⟩) rfl rfl
        obtain ⟨rfl, rfl⟩ := e4
        cases r4 with
        | cons ra rr =>
        cases rr
        cases ra
        refine of_run I4 passes0 ?_
        refine got_run (X := X) (tz := vc Γ b) g.hK W hmg I2 L hf2 hfn2 hfr noArgs_bind hr2 I4.env0 (fun H5 h5 un => un_up I4.base un ?_) y2 (fun A outer t HZ E hr => db.E _ E _ (good_lam g L A outer t HZ E f c' hr) _ c7) y3
        cases z : t2.heap.get? t2.heap.objs.size with
        | none => rfl
        | some o => exact absurd (Heap.lt_size z) (Nat.lt_irrefl _)
      have whole : PE (cxOf (L2.CX X.prog X.w) X.prog X.w X.K X.mg X.base ["_law_ask", "_law_due"] "_law_is" isc fi cdv X.A X.stack t2 H2 fun _ _ _ => False) (.Call (.Name "_law_same" p1) [.Call (.Name "_law_got" p2) [.Name "_law_ask" p3] [] p4, .Name "_law_due" p5] [] p6)
          (fun σ3 H3 Q3 => σ3[0]? = some (some (.ref f)) ∧ H3 c' = some (LamX.CodeO c' (X.env.qual ++ "<lambda>")) ∧ rdGot G xs (vc Γ b) σ H3 fun x H4 => ∃ v, σ3[1]? = some (some v) ∧ lowSp G PS [x, v] H4 Q3 fun _ _ _ => False) := by
        refine ⟨fun pins3 s3 σ3 H3 Q3 I3 q3 => ?_⟩
        refine wpAny_Call_Name_kw (ld_glob I3 k5 hm3 ?_ (by decide))
        refine PySem.W.callWith_K (h₀ := X.base) I3.ok.mod.kin hk3 (thn ((pa_cons gotE (pa_cons (pe_var (i := 1) rfl (.inl k8) (by decide) (by decide)) pa_nil)).run _ pins3 s3 σ3 H3 (fun vs H4 => lowSp G PS vs H4 Q3 fun _ _ _ => False) I3 q3) fun us s4 ⟨ws, H4, I4, r4, e4⟩ => ⟨I4.kIn, ?_⟩) rfl rfl
        exact run_fk (ks := []) (ws := []) (zs := []) F3 (hr2.mono (by omega)) passes0 I4 r4 .nil rfl (by rw [List.append_nil]; exact e4)
      refine ⟨_, pss_one (ps_ret whole), rfl, hco2, B2, α2, ρ, O2, fun us O3 => ∃ f, us = [.d f] ∧ callZ PS [.d f, .d due] O3 (fun u O4 => Q0 [u] O4) fun _ _ => False, R2, ?_, fun us O3 z => ?_⟩
      · have e1 : (fun (x : Exc) (O2 : List DO) => x.cls ∈ xs ∧ ∃ f, lawFields x = some f ∧ callZ PS [.d f, .d due] O2 (fun u O3 => Q0 [u] O3) fun _ _ => False) = fun x O2 => x.cls ∈ xs ∧ ∃ f, lawFields x = some f ∧ ∃ g, [U.d f] = [U.d g] ∧ callZ PS [.d g, .d due] O2 (fun u O3 => Q0 [u] O3) fun _ _ => False := by
          funext x O2
          apply propext
          constructor
          · rintro ⟨h1, f, h2, h3⟩
            exact ⟨h1, f, h2, f, rfl, h3⟩
          · rintro ⟨h1, f, h2, g, h3, h4⟩
            cases h3
            exact ⟨h1, f, h2, h4⟩
        have e2 : (fun (ws : List U) (O2 : List DO) => oneK ws fun w => toK O2 w fun x => callZ PS [.d (.tup [.str "", x]), .d due] O2 (fun u O3 => Q0 [u] O3) fun _ _ => False) = fun ws O2 => oneK ws fun w => toK O2 w fun x => ∃ g, [U.d (.tup [.str "", x])] = [U.d g] ∧ callZ PS [.d g, .d due] O2 (fun u O3 => Q0 [u] O3) fun _ _ => False := by
          funext ws O2
          congr 1
          funext w
          congr 1
          funext x
          apply propext
          constructor
          · intro h1
            exact ⟨_, rfl, h1⟩
          · rintro ⟨g, h1, h2⟩
            cases h1
            exact h2
        rw [e1, e2] at hz
        exact hz
      · obtain ⟨f4, rfl, z⟩ := z
        refine ⟨_, rfl, fun α' v H' s' w' a' => ⟨v2, rfl, ?_⟩⟩
        exact call_low w' (.cons a' (.cons (.d (s'.at_ a2)) .nil)) z (fun u O4 h0 α5 v5 H5 s5 w5 a5 => hq2.to h0 (s'.trans s5) w5 a5) (fun _ _ z => z.elim)
    · cases cki
  · cases c
end
end Z

set_option Elab.async false
set_option linter.all false
set_option maxRecDepth 100000
set_option maxHeartbeats 4000000
namespace Z
open PySem PySem.Spec PyProof.Rows L2
/-! ### operators on objects of our classes -/
theorem inst_at {X : Cx} {pins : List (Addr × Obj)} {σ : L2.St} {H : Hp} {s : Shared} {a C dx : Addr} {fs : List (Str × V)} (I : L2.Inv X pins σ H s) (h : H a = some (.ins C dx fs)) : ∃ od, PySem.W.InstAt s.heap a (PySem.W.instObj C dx) C (some od) := by
  have h1 := I.hok a _ h
  simp only [ObjOk] at h1
  obtain ⟨_, _, _, h2, mA, ⟨o, es, ep, h3, _⟩, _⟩ := h1
  exact ⟨o, h2, rfl, rfl, h3⟩
section
variable {G : Gx} {k : Nat} {Γ : List (Fk × ZSp)} {X : Cx} {W0 : XK}
/-- a method of the object at a0 is called, hidden in an operator -/
def OwnCall (X : Cx) (G : Gx) (k : Nat) (W0 : XK) (m : Str) (a0 : Addr) (vs : List V) (H : Hp) (R : VK) : Prop :=
  ∃ c0 ns dx fs f P, H a0 = some (.ins (He.ga X.K c0) dx fs) ∧ OkC X.K c0 ns ∧ Meth X.K (He.ga X.K c0) m f ∧ FnRK X.prog X.w X.K X.mg X.base k f [] (lowSp G P) ∧ lowSp G P (.ref a0 :: vs) H R W0
theorem run_own {m : Str} {a0 : Addr} {vs : List V} {us : List Value} {H : Hp} {R : VK} {pins : List (Addr × Obj)} {s : Shared} {σ : L2.St} (hr : Room k X.A) (hp : Passes (L2.CX X.prog X.w) X W0) (I : L2.Inv X pins σ H s) (h : OwnCall X G k W0 m a0 vs H R) (r : Vals vs us) :
    ∃ c0 ns dx f od, PySem.W.InstAt s.heap a0 (PySem.W.instObj (He.ga X.K c0) dx) (He.ga X.K c0) (some od) ∧ OkC X.K c0 ns ∧ Meth X.K (He.ga X.K c0) m f ∧ wpAny (model X.prog X.w) X.A (call (.ref f) (.ref a0 :: us)) (EP X pins σ R) X.xe s := by
  obtain ⟨c0, ns, dx, fs, f, P, h1, h2, h3, h4, h5⟩ := h
  obtain ⟨od, h6⟩ := inst_at I h1
  exact ⟨c0, ns, dx, f, od, h6, h2, h3, run_fk (ks := []) (ws := []) (zs := []) (us := .ref a0 :: us) (vs := .ref a0 :: vs) h4 hr hp I (.cons rfl r) .nil rfl (by rw [List.append_nil]; exact h5)⟩
def rHas (X : Cx) (G : Gx) (k : Nat) (W0 : XK) (neg : Bool) : R2 := fun v w H Q => ∃ a0, w = .ref a0 ∧ OwnCall X G k W0 mHas a0 [v] H fun r H' => ∃ b, r = .bl b ∧ Q (.bl (b != neg)) H'
theorem op_has (hr : Room k X.A) (hp : Passes (L2.CX X.prog X.w) X W0) : ∀ neg : Bool, OpR X (compareOp (if neg = true then .NotIn else .In)) (rHas X G k W0 neg) := by
  intro neg pins s σ H v w v' w' Q I rv rw' ⟨a0, e, h⟩
  subst e
  obtain rfl : w' = Value.ref a0 := rw'
  obtain ⟨m, fr⟩ := I.fr
  obtain ⟨c0, ns, dx, f, od, h1, _, h3, h4⟩ := run_own (us := [v']) hr hp I h (.cons rv .nil)
  cases neg with
  | true => exact PySem.W.notIn_K fr I.ok.mod.kin h1 h3.at_ h3.fn (thn h4 fun u s' ⟨z, H', I', r, b, eb, q⟩ => by
      subst eb
      obtain rfl : u = Value.bool b := r
      exact wpAny_truthy_bool ⟨.bl (!b), H', I', rfl, by rw [Bool.bne_true] at q; exact q⟩)
  | false => exact PySem.W.in_K fr I.ok.mod.kin h1 h3.at_ h3.fn (thn h4 fun u s' ⟨z, H', I', r, b, eb, q⟩ => by
      subst eb
      obtain rfl : u = Value.bool b := r
      exact wpAny_truthy_bool ⟨.bl b, H', I', rfl, by rw [Bool.bne_false] at q; exact q⟩)
theorem own_low {B : Addr → Prop} {α : List Addr} {O : List DO} {H : Hp} {E0 : ZX} {c : Str} {ns : List Str} {ds : List D} {us : List U} {vs : List V} {a0 : V} {i : Nat} {m : Str} {S : Sx} {R : VK} {Q0 : U → List DO → Prop} (g : Good X G W0 k S Γ) (w : Own G B α O H) (a : AtU G.K B α O H a0 (.d (.obj c ns ds))) (r : AtUs G.K B α O H vs us) {P : ZSp} (hi : Γ[i]? = some ((m, [mDot, c]), P))
    (h : callZ P (.d (.obj c ns ds) :: us) O Q0 E0) (hq : ∀ u O', Q0 u O' → ∀ α' v H', Stp α O H α' O' H' → Own G B α' O' H' → AtU G.K B α' O' H' v u → R v H') (he : ELow G B W0 α O H E0) : ∃ p, a0 = .ref p ∧ OwnCall X G k W0 m p vs H R := by
  have a' := a
  cases a with
  | d a =>
  cases a with
  | obj e mo ok hn r' =>
    rename_i p dx gs
    obtain ⟨f, hM, hF⟩ := FnX.met (g.fns i _ P hi)
    rw [g.hK] at hM hF
    refine ⟨p, rfl, c, ns, dx, gs, f, P, by rw [g.hK]; exact e, by rw [g.hK]; exact ok, by rw [g.hK]; exact hM, by rw [g.hK]; exact hF, ?_⟩
    exact call_low w (.cons a' r) h hq he
theorem rd_has_eq {u w : U} {O : List DO} {E : ZX} {Q : ZQ} {i : Nat} {neg : Bool} : Op2.rd Γ (.has i neg) u w O E Q = (match w with
    | .d (.obj c ns ds) => (match Γ[i]? with
      | some (x, P) => x = (mHas, [mDot, c]) ∧ callZ P [.d (.obj c ns ds), u] O (fun r O2 => boolK [r] fun b => Q [.d (.bl (b != neg))] O2) E
      | none => False)
    | _ => False) := rfl
theorem rd_has {B : Addr → Prop} {α : List Addr} {O : List DO} {H : Hp} {E0 : ZX} {u w : U} {v v2 : V} {i : Nat} {neg : Bool} {S : Sx} {Q0 : ZQ} {Q : VK} (g : Good X G W0 k S Γ) (w2 : Own G B α O H) (a1 : AtU G.K B α O H v u) (a2 : AtU G.K B α O H v2 w) (h : Op2.rd Γ (.has i neg) u w O E0 Q0)
    (hq : ∀ b O', Q0 [.d (.bl b)] O' → ∀ α' H', Stp α O H α' O' H' → Own G B α' O' H' → Q (.bl b) H') (he : ELow G B W0 α O H E0) : rHas X G k W0 neg v v2 H Q := by
  rw [rd_has_eq] at h
  split at h
  · rename_i c ns ds
    cases q : Γ[i]? with
    | none => rw [q] at h; exact h.elim
    | some pr =>
      obtain ⟨x, P⟩ := pr
      rw [q] at h
      obtain ⟨rfl, h⟩ := h
      obtain ⟨p, e, hc⟩ := own_low (us := [u]) (vs := [v]) (R := fun r H' => ∃ b, r = .bl b ∧ Q (.bl (b != neg)) H') g w2 a2 (.cons a1 .nil) q h (fun r O' h0 α' v' H' s' w' a' => by
        obtain ⟨b, e, h1⟩ := boolK_of h0
        cases e
        cases a' with
        | d a' =>
        cases a'
        exact ⟨b, rfl, hq _ _ h1 _ _ s' w'⟩) he
      exact ⟨p, e, hc⟩
  · exact h.elim
/-- what operators ask of a class -/
structure OpF (K : PySem.W.Frag) (C : Addr) : Prop where
  sf : PySem.W.selfFirst K C = true
  nf : PySem.W.notFirst K C (.ref C) = true
  nt : ∀ t ∈ ltys, PySem.W.notFirst K C (.type t) = true ∧ PySem.W.kitOne K (.type t) (.ref C) = some false
  sb : ∀ t ∈ ltys, PySem.W.subIn K (.ref C) (.type t) = some false
  kb : ∀ t ∈ btys, PySem.W.kitOne K (.ref C) (.type t) = some false
  ks : PySem.W.kitOne K (.ref C) (.ref C) = some true
  ne : PySem.W.findIn K (.ref C) "__ne__" = some (some (.builtin "object.__ne__"))
  c1 : PySem.W.findIn K (.ref C) "__class__" = some (some (.builtin "object.__class__"))
  c2 : PySem.W.specialIn K (.builtin "object.__class__") "__get__" = some (some (.builtin "getset_descriptor.__get__"))
  c3 : PySem.W.takesIn K (.builtin "object.__class__") = some true
  c4 : PySem.W.mroIn K C (.type "object") = some true
theorem opF_of {K : PySem.W.Frag} {C : Addr} (h : opcB K C = true) : OpF K C := by
  unfold opcB at h
  obtain ⟨h, c4⟩ := ba h
  obtain ⟨h, c3⟩ := ba h
  obtain ⟨h, c2⟩ := ba h
  obtain ⟨h, c1⟩ := ba h
  obtain ⟨h, ne⟩ := ba h
  obtain ⟨h, ks⟩ := ba h
  obtain ⟨h, kb⟩ := ba h
  obtain ⟨h, nt⟩ := ba h
  obtain ⟨sf, nf⟩ := ba h
  exact ⟨sf, nf, fun t m => let ⟨c, _⟩ := ba (List.all_eq_true.mp nt t m); let ⟨a, b⟩ := ba c; ⟨a, of_decide_eq_true b⟩, fun t m => of_decide_eq_true (ba (List.all_eq_true.mp nt t m)).2, fun t m => of_decide_eq_true (List.all_eq_true.mp kb t m), of_decide_eq_true ks, of_decide_eq_true ne, of_decide_eq_true c1, of_decide_eq_true c2, of_decide_eq_true c3, of_decide_eq_true c4⟩
theorem ty_ins {K : PySem.W.Frag} {H : Hp} {a dx : Addr} {c : Str} {ns : List Str} {fs : List (Str × V)} (e : H a = some (.ins (He.ga K c) dx fs)) (ok : OkC K c ns) : TyX K H (.ref a) (.ref (He.ga K c)) := by
  have F := opF_of ok.2.2
  exact .base (.ins e ok.1 F.c1 F.c2 F.c3 F.c4)
theorem cmpBack_of {X : Cx} {pins : List (Addr × Obj)} {σ : L2.St} {Q : VK} {u : Value} {s' : Shared} (h : EP X pins σ Q u s') : PySem.W.CmpBack (EP X pins σ Q) u s' := by
  have h' := h
  obtain ⟨v, H', I', r, q⟩ := h'
  cases v with
  | non => obtain rfl : u = Value.none := r; exact h
  | bl b => obtain rfl : u = Value.bool b := r; exact h
  | int i => obtain ⟨t, rfl⟩ : ∃ t, u = Value.int i t := r; exact h
  | str i => obtain ⟨t, rfl⟩ : ∃ t, u = Value.str i t := r; exact h
  | byt i => obtain ⟨t, rfl⟩ : ∃ t, u = Value.bytes i t := r; exact h
  | flt i => obtain ⟨t, rfl⟩ : ∃ t, u = Value.float i t := r; exact h
  | ref a => obtain rfl : u = Value.ref a := r; exact h
  | ty n => obtain rfl : u = Value.type n := r; exact h
/-- the kind of what stands behind == -/
def TyR (K : PySem.W.Frag) (H : Hp) (w : V) (C : Addr) : Prop := ∃ T, TyX K H w T ∧ PySem.W.notFirst K C T = true
def rEqo (X : Cx) (G : Gx) (k : Nat) (W0 : XK) : R2 := fun v w H Q => ∃ a0, v = .ref a0 ∧ OwnCall X G k W0 mEq a0 [w] H (fun r H' => Q r H') ∧ ∀ C dx fs, H a0 = some (.ins C dx fs) → TyR X.K H w C
theorem inst_c {h : Heap} {x : Addr} {C dx C' dx' : Addr} {od od' : Option Obj} (a : PySem.W.InstAt h x (PySem.W.instObj C dx) C od) (b : PySem.W.InstAt h x (PySem.W.instObj C' dx') C' od') : C = C' := by
  have e := a.at_.symm.trans b.at_
  have e2 : (PySem.W.instObj C dx) = PySem.W.instObj C' dx' := Option.some.inj e
  have e3 := congrArg Obj.cls e2
  exact Value.ref.inj e3
theorem op_eqo (hr : Room k X.A) (hp : Passes (L2.CX X.prog X.w) X W0) : OpR X (compareOp .Eq) (rEqo X G k W0) := by
  intro pins s σ H v w v' w' Q I rv rw' ⟨a0, e, h, ht⟩
  subst e
  obtain rfl : v' = Value.ref a0 := rv
  obtain ⟨m, fr⟩ := I.fr
  obtain ⟨c0, ns, dx, fs, f, P, g1, g2, g3, g4, g5⟩ := id h
  obtain ⟨T, t1, t2⟩ := ht _ _ _ g1
  obtain ⟨Pk, kx, hk, _⟩ := kit_of I rw' t1
  obtain ⟨od, h1⟩ := inst_at I g1
  have h4 := run_fk (ks := []) (ws := []) (zs := []) (us := [.ref a0, w']) (vs := [.ref a0, w]) g4 hr hp I (.cons rfl (.cons rw' .nil)) .nil rfl (by rw [List.append_nil]; exact g5)
  exact PySem.W.cmp_ofEq (PySem.W.cmp_K (by have := hr.units; omega) fr I.ok.mod.kin h1 (kx.ty _ _ I.kIn hk) t2 g3.at_ g3.fn (thn h4 fun u s' h => cmpBack_of h))
theorem tyR_of {B : Addr → Prop} {α : List Addr} {O : List DO} {H : Hp} {c : Str} {w : U} {v2 : V} (ow : Own G B α O H) (a : AtU G.K B α O H v2 w) (h : okR O c w) {ns : List Str} (ok : OkC G.K c ns) : TyR G.K H v2 (He.ga G.K c) := by
  have F := opF_of ok.2.2
  unfold okR at h
  split at h
  · subst h
    cases a with
    | d a =>
    cases a with
    | obj e mo ok' hn r => exact ⟨_, ty_ins e ok', F.nf⟩
  · obtain ⟨t, e, m⟩ := h
    exact ⟨_, tyU_of ow a e, (F.nt t m).1⟩
theorem rd_eqo_eq {u w : U} {O : List DO} {E : ZX} {Q : ZQ} {i : Nat} {neg : Bool} : Op2.rd Γ (.eqo i neg) u w O E Q = (match u with
    | .d (.obj c ns ds) => (match Γ[i]? with
      | some (x, P) => x = (mEq, [mDot, c]) ∧ okR O c w ∧ callZ P [.d (.obj c ns ds), w] O (fun r O2 => boolK [r] fun b => Q [.d (.bl (b != neg))] O2) E
      | none => False)
    | _ => False) := rfl
theorem rd_eqo {B : Addr → Prop} {α : List Addr} {O : List DO} {H : Hp} {E0 : ZX} {u w : U} {v v2 : V} {i : Nat} {S : Sx} {Q0 : ZQ} {Q : VK} (g : Good X G W0 k S Γ) (w2 : Own G B α O H) (a1 : AtU G.K B α O H v u) (a2 : AtU G.K B α O H v2 w) (h : Op2.rd Γ (.eqo i false) u w O E0 Q0)
    (hq : ∀ b O', Q0 [.d (.bl b)] O' → ∀ α' H', Stp α O H α' O' H' → Own G B α' O' H' → Q (.bl b) H') (he : ELow G B W0 α O H E0) : rEqo X G k W0 v v2 H Q := by
  rw [rd_eqo_eq] at h
  split at h
  · rename_i c ns ds
    cases q : Γ[i]? with
    | none => rw [q] at h; exact h.elim
    | some pr =>
      obtain ⟨x, P⟩ := pr
      rw [q] at h
      obtain ⟨rfl, hR, h⟩ := h
      obtain ⟨p, e, hc⟩ := own_low (us := [w]) (vs := [v2]) (R := fun r H' => Q r H') g w2 a1 (.cons a2 .nil) q h (fun r O' h0 α' v' H' s' w' a' => by
        obtain ⟨b, e, h1⟩ := boolK_of h0
        cases e
        cases a' with
        | d a' =>
        cases a'
        rw [Bool.bne_false] at h1
        exact hq _ _ h1 _ _ s' w') he
      refine ⟨p, e, hc, fun C dx fs e1 => ?_⟩
      cases a1 with
      | d a1 =>
      cases a1 with
      | obj e2 mo ok hn r =>
        cases e
        rw [e2] at e1
        cases e1
        rw [g.hK]
        exact tyR_of w2 a2 hR ok
  · exact h.elim
/-- a call of a method, one step within -/
theorem run_own1 {j : Nat} {us : List Value} {vs : List V} {H : Hp} {R : VK} {pins : List (Addr × Obj)} {s : Shared} {σ : L2.St} {f : Addr} {P : ZSp} (hr : Room j X.A.in1) (hp : Passes (L2.CX X.prog X.w) X W0) (I : L2.Inv X pins σ H s) (h4 : FnRK X.prog X.w X.K X.mg X.base j f [] (lowSp G P)) (h5 : lowSp G P vs H R W0) (r : Vals vs us) :
    wpAny (model X.prog X.w) X.A.in1 (call (.ref f) us) (EP X pins σ R) X.xe s := by
  refine wpAny_call (codeAny_mono (h4 X.A.in1 X.stack s H us [] vs [] R W0 hr I.env0.in1 r .nil rfl (by rw [List.append_nil]; exact h5)) fun r t hq => ?_)
  cases r with
  | error e => exact hp pins σ H s e t I hq
  | ok fl =>
    cases fl with
    | ret u => exact I.after hq
    | next => exact False.elim hq
    | brk => exact False.elim hq
    | cont => exact False.elim hq
/-- .. of an object that is handed alone -/
def OwnCall1 (X : Cx) (G : Gx) (k : Nat) (W0 : XK) (m : Str) (a0 : Addr) (H : Hp) (R : VK) : Prop :=
  ∃ c0 ns dx fs f P j, H a0 = some (.ins (He.ga X.K c0) dx fs) ∧ OkC X.K c0 ns ∧ Meth X.K (He.ga X.K c0) m f ∧ j + 1 ≤ k ∧ FnRK X.prog X.w X.K X.mg X.base j f [] (lowSp G P) ∧ lowSp G P [.ref a0] H R W0
theorem own_low1 {B : Addr → Prop} {α : List Addr} {O : List DO} {H : Hp} {E0 : ZX} {c : Str} {ns : List Str} {ds : List D} {a0 : V} {i : Nat} {m : Str} {S : Sx} {R : VK} {Q0 : U → List DO → Prop} (g : Good X G W0 k S Γ) (w : Own G B α O H) (a : AtU G.K B α O H a0 (.d (.obj c ns ds))) {P : ZSp} (hi : Γ[i]? = some ((m, [mDot, c]), P))
    (h : callZ P [.d (.obj c ns ds)] O Q0 E0) (hq : ∀ u O', Q0 u O' → ∀ α' v H', Stp α O H α' O' H' → Own G B α' O' H' → AtU G.K B α' O' H' v u → R v H') (he : ELow G B W0 α O H E0) : ∃ p, a0 = .ref p ∧ OwnCall1 X G k W0 m p H R := by
  have a' := a
  cases a with
  | d a =>
  cases a with
  | obj e mo ok hn r' =>
    rename_i p dx gs
    obtain ⟨f, j, hj, hM, hF⟩ := FnX.met1 (g.fns i _ P hi)
    rw [g.hK] at hM hF
    refine ⟨p, rfl, c, ns, dx, gs, f, P, j, by rw [g.hK]; exact e, by rw [g.hK]; exact ok, by rw [g.hK]; exact hM, hj, by rw [g.hK]; exact hF, ?_⟩
    exact call_low w (.cons a' .nil) h hq he
def rLen1 (X : Cx) (G : Gx) (k : Nat) (W0 : XK) : List V → Hp → VK → Prop := fun vs H Q => ∃ a0, vs = [.ref a0] ∧ OwnCall1 X G k W0 mLen a0 H fun r H' => ∃ n : Int, r = .int n ∧ (0 ≤ n ∧ n < 2 ^ 63) ∧ Q (.int n) H'
theorem cr_lenO (hr : Room k X.A) (hp : Passes (L2.CX X.prog X.w) X W0) : CallR X (.builtin "len") (rLen1 X G k W0) := by
  intro pins s σ H vs us Q I r ⟨a0, e, c0, ns, dx, fs, f, P, j, g1, g2, g3, hj, g4, g5⟩
  subst e
  obtain ⟨u, rfl, ru⟩ : ∃ u, us = [u] ∧ RelV (.ref a0) u := by
    cases r with
    | cons a r => cases r; exact ⟨_, rfl, a⟩
  obtain rfl : u = Value.ref a0 := ru
  obtain ⟨m, fr⟩ := I.fr
  obtain ⟨od, h1⟩ := inst_at I g1
  have h4 := run_own1 (us := [.ref a0]) (Room.in1 (hr.mono hj)) hp I g4 g5 (.cons rfl .nil)
  exact PySem.W.len_K fr I.ok.mod.kin h1 g3.at_ g3.fn (thn h4 fun u s' ⟨z, H', I', r, n, en, hn, q⟩ => by
    subst en
    obtain ⟨t, rfl⟩ : ∃ t, u = Value.int n t := r
    exact ⟨hn, .int n, H', I'.tok _, ⟨_, rfl⟩, q⟩)
def rRep1 (X : Cx) (G : Gx) (k : Nat) (W0 : XK) : List V → Hp → VK → Prop := fun vs H Q => ∃ a0, vs = [.ref a0] ∧ OwnCall1 X G k W0 mRepr a0 H fun r H' => ∃ z, r = .str z ∧ Q (.str z) H'
theorem cr_repO (hr : Room k X.A) (hp : Passes (L2.CX X.prog X.w) X W0) : CallR X (.builtin "repr") (rRep1 X G k W0) := by
  intro pins s σ H vs us Q I r ⟨a0, e, c0, ns, dx, fs, f, P, j, g1, g2, g3, hj, g4, g5⟩
  subst e
  obtain ⟨u, rfl, ru⟩ : ∃ u, us = [u] ∧ RelV (.ref a0) u := by
    cases r with
    | cons a r => cases r; exact ⟨_, rfl, a⟩
  obtain rfl : u = Value.ref a0 := ru
  obtain ⟨m, fr⟩ := I.fr
  obtain ⟨od, h1⟩ := inst_at I g1
  have h4 := run_own1 (us := [.ref a0]) (Room.in1 (hr.mono hj)) hp I g4 g5 (.cons rfl .nil)
  refine PySem.W.repr_K (by have := hr.units; have := (Room.in1 (hr.mono hj)).units; omega) fr I.ok.mod.kin h1 g3.at_ g3.fn (thn h4 fun u s' ⟨z, H', I', r, n, en, q⟩ => ?_)
  subst en
  obtain ⟨t, rfl⟩ : ∃ t, u = Value.str n t := r
  exact ⟨.str n, H', I', ⟨_, rfl⟩, q⟩
def rIsc (X : Cx) (C : Addr) : List V → Hp → VK → Prop := fun vs H Q => ∃ v T b, vs = [v, .ref C] ∧ TyX X.K H v T ∧ PySem.W.kitOne X.K T (.ref C) = some b ∧ Q (.bl b) H
theorem cr_isc (C : Addr) : CallR X (.builtin "isinstance") (rIsc X C) := by
  intro pins s σ H vs us Q I r ⟨v, T, b, e, h1, h2, q⟩
  exact call_isi pins s σ H vs us Q I r ⟨v, .ref C, T, .ref C, b, e, .own C, h1, h2, q⟩
end
end Z

set_option Elab.async false
set_option linter.all false
set_option maxRecDepth 100000
set_option maxHeartbeats 4000000
namespace Z
open PySem PySem.Spec PyProof.Rows L2
section
variable {G : Gx} {k : Nat} {Γ : List (Fk × ZSp)}
mutual
theorem AtU.later {B B2 : Addr → Prop} {α α2 : List Addr} {O O2 : List DO} {H H2 : Hp} (hi : ∀ (k : Nat) a, α[k]? = some a → α2[k]? = some a) (h : ∀ a o, ¬ Mu B α O a → H a = some o → (∀ ps, o ≠ .tbl ps) → H2 a = some o ∧ ¬ Mu B2 α2 O2 a) :
    ∀ {v : V} {u : U}, AtU G.K B α O H v u → AtU G.K B2 α2 O2 H2 v u
  | _, _, .d a => .d (a.imp h)
  | _, _, .o e => .o (hi _ _ e)
  | _, _, .t e m r => let ⟨e', m'⟩ := h _ _ m e (fun _ z => by cases z); .t e' m' (AtUs.later hi h r)
  | _, _, .l e m r => let ⟨e', m'⟩ := h _ _ m e (fun _ z => by cases z); .l e' m' (AtUs.later hi h r)
theorem AtUs.later {B B2 : Addr → Prop} {α α2 : List Addr} {O O2 : List DO} {H H2 : Hp} (hi : ∀ (k : Nat) a, α[k]? = some a → α2[k]? = some a) (h : ∀ a o, ¬ Mu B α O a → H a = some o → (∀ ps, o ≠ .tbl ps) → H2 a = some o ∧ ¬ Mu B2 α2 O2 a) :
    ∀ {vs : List V} {us : List U}, AtUs G.K B α O H vs us → AtUs G.K B2 α2 O2 H2 vs us
  | _, _, .nil => .nil
  | _, _, .cons a r => .cons (AtU.later hi h a) (AtUs.later hi h r)
end
/-- what is made is locked for good -/
def tFz (t : TE) : TE := fun σ H Q => t σ H fun v H' => ∃ p u, v = .ref p ∧ H' p = some u ∧ Mut (some u) ∧ ∀ od, Q v (upd H' p (.frz od u))
theorem pe_frz {X : Cx} {e : Expr} {t : TE} (h : PE X e t) : PE X e (tFz t) := ⟨fun pins s σ H Q I q => thn (h.run pins s σ H _ I q) fun u s1 ⟨x, H1, I1, rx, p, w, ex, hp, mu, q⟩ => by
  obtain ⟨od, I2⟩ := I1.lock hp mu
  exact ⟨x, _, I2, rx, q od⟩⟩
theorem sd_dic0 : Sd G k Γ .dic0 := .ofE _ (fun _ => rfl) fun X W0 S g e c => by
  split at c
  · refine pe_imp (pe_frz pe_dnewK) fun σ H Q ⟨B, α, ρ, O, Q0, E0, R, h, hq, hl⟩ p hp => ⟨p, .dK [], rfl, upd_same, True.intro, fun od => ?_⟩
    rw [upd_upd]
    exact hq.to h (stp_new hp) (own_new R.own hp) (.d (.dct upd_same (R.own.mu_ne hp) rfl .nil))
  · cases c
section
variable {B : Addr → Prop} {α : List Addr} {O : List DO} {H : Hp} {p : Addr} {x : HO}
theorem more_key (hp : H p = none) : ∀ a o, ¬ Mu B α O a → H a = some o → (∀ ps, o ≠ .tbl ps) → upd H p x a = some o ∧ ¬ Mu (fun b => B b ∨ b = p) α O a := fun a o m e _ =>
  ⟨by rw [upd_ne (ne_of_none e hp)]; exact e, fun z => z.elim (fun z => z.elim (fun z => m (.inl z)) fun z => by rw [z, hp] at e; cases e) fun z => m (.inr z)⟩
theorem ownD_more (w : Own G B α O H) (hp : H p = none) : Own G (fun b => B b ∨ b = p) α O (upd H p x) := by
  have k := more_key (B := B) (α := α) (O := O) (x := x) hp
  have w1 := own_new (o := x) w hp
  refine ⟨w.len, w.nd, fun i a o e1 e2 => ?_, fun a m => m.elim (w1.bt a) fun e => ⟨x, by rw [e, upd_same]⟩, fun a m z => z.elim (w.nb a m) fun e => ?_, w1.tabs⟩
  · have h := w.at_ i a o e1 e2
    cases o with
    | lst ds => obtain ⟨vs, h1, h2⟩ := h; exact ⟨vs, by rw [upd_ne (ne_of_none h1 hp)]; exact h1, h2.imp k⟩
    | brw ds => obtain ⟨vs, h1, h2⟩ := h; exact ⟨vs, by rw [upd_ne (ne_of_none h1 hp)]; exact h1, h2.imp k⟩
    | ob _ _ => obtain ⟨dx, gs, h1, g1, g2, h2⟩ := h; exact ⟨dx, gs, by rw [upd_ne (ne_of_none h1 hp)]; exact h1, g1, g2, h2.imp k⟩
    | frz ds => exact At.imp k h
  · obtain ⟨o, q⟩ := m.some w
    rw [e, hp] at q
    cases q
theorem less_key : ∀ a o, ¬ Mu (fun b => B b ∨ b = p) α O a → H a = some o → (∀ ps, o ≠ .tbl ps) → upd H p x a = some o ∧ ¬ Mu B α O a := fun a o m e _ =>
  ⟨by rw [upd_ne fun z => m (.inl (.inr z))]; exact e, fun z => m (z.elim (fun z => .inl (.inl z)) .inr)⟩
theorem ownD_less (w : Own G (fun b => B b ∨ b = p) α O H) (he : H p = some (.dK [])) : Own G B α O (upd H p x) := by
  have k := less_key (B := B) (α := α) (O := O) (x := x) (H := H) (p := p)
  refine ⟨w.len, w.nd, fun i a o e1 e2 => ?_, fun a m => ?_, fun a m z => w.nb a m (.inl z), tabs_keep w.tabs fun b o e hb => ?_⟩
  · have h := w.at_ i a o e1 e2
    have hne : live o = true → a ≠ p := fun l z => w.nb a ⟨i, o, e1, e2, l⟩ (.inr z)
    cases o with
    | lst ds => obtain ⟨vs, h1, h2⟩ := h; exact ⟨vs, by rw [upd_ne (hne rfl)]; exact h1, h2.imp k⟩
    | brw ds => obtain ⟨vs, h1, h2⟩ := h; exact ⟨vs, by rw [upd_ne (hne rfl)]; exact h1, h2.imp k⟩
    | ob _ _ => obtain ⟨dx, gs, h1, g1, g2, h2⟩ := h; exact ⟨dx, gs, by rw [upd_ne (hne rfl)]; exact h1, g1, g2, h2.imp k⟩
    | frz ds => exact At.imp k h
  · by_cases e : a = p
    · exact ⟨x, by rw [e, upd_same]⟩
    · obtain ⟨o, q⟩ := w.bt a (.inl m)
      exact ⟨o, by rw [upd_ne e]; exact q⟩
  · have hne : b ≠ p := fun z => by
      rw [z, he] at e
      cases e
      rcases hb with ⟨_, z⟩ | ⟨_, z⟩ <;> cases z
    rw [upd_ne hne]
    exact e
end
section
variable {B : Addr → Prop} {α α1 : List Addr} {O O1 : List DO} {H H2 : Hp} {σ : L2.St} {ρ : List (Option U)} {p : Addr} {W0 : XK} {E0 : ZX} {Q0 : ZQ} {Q : VK}
/-- a dict's display begins: its place is nobody's yet -/
theorem dk_rep (R : Rep G B α σ H ρ O) (hp : H p = none) : Rep G (fun b => B b ∨ b = p) α σ (upd H p (.dK [])) ρ O :=
  ⟨fun i u e => by
    obtain ⟨v, e1, a1⟩ := R.vars i u e
    exact ⟨v, e1, AtU.later (fun _ _ e => e) (more_key (B := B) (α := α) (O := O) (x := .dK []) hp) a1⟩, ownD_more R.own hp, R.len⟩
theorem dk_low (hl : ELow G B W0 α O H E0) (hp : H p = none) : ELow G (fun b => B b ∨ b = p) W0 α O (upd H p (.dK [])) E0 := fun y O' q α' cls dd H' s w a => by
  obtain ⟨e1, dx, fs, e2, e3, e4, e5, e6⟩ := a
  have k2 : ∀ a o, ¬ Mu (fun b => B b ∨ b = p) α' O' a → H' a = some o → (∀ ps, o ≠ .tbl ps) → H' a = some o ∧ ¬ Mu B α' O' a := fun a o m e _ => ⟨e, fun z => m (z.elim (fun z => .inl (.inl z)) .inr)⟩
  have wB : Own G B α' O' H' := ⟨w.len, w.nd, fun i a o e1 e2 => by
    have h := w.at_ i a o e1 e2
    cases o with
    | lst ds => obtain ⟨vs, h1, h2⟩ := h; exact ⟨vs, h1, h2.imp k2⟩
    | brw ds => obtain ⟨vs, h1, h2⟩ := h; exact ⟨vs, h1, h2.imp k2⟩
    | ob _ _ => obtain ⟨dx, gs, h1, g1, g2, h2⟩ := h; exact ⟨dx, gs, h1, g1, g2, h2.imp k2⟩
    | frz ds => exact At.imp k2 h, fun a m => w.bt a (.inl m), fun a m z => w.nb a m (.inl z), w.tabs⟩
  exact hl y O' q α' cls dd H' ((stp_new hp).trans s) wB ⟨e1, dx, fs, e2, e3, fun z => e4 (z.elim (fun z => .inl (.inl z)) .inr), e5, e6.imp k2⟩
/-- .. it stands, locked -/
theorem dk_end (R : Rep G B α σ H ρ O) (hp : H p = none) (s1 : Stp α O (upd H p (.dK [])) α1 O1 H2) (w1 : Own G (fun b => B b ∨ b = p) α1 O1 H2) {ks : List Key} {vs : List V} {ds : List D} (hk : ks.length = vs.length)
    (a : Ats G.K (Mu (fun b => B b ∨ b = p) α1 O1) H2 vs ds) (hq : QLow G B α O H Q0 Q) (f : Q0 [.d (.dct ks ds)] O1) :
    H2 p = some (.dK []) ∧ ∀ od, Q (.ref p) (upd H2 p (.frz od (.dK (ks.zip vs)))) := by
  have hpn : ¬ Ho α O p := fun m => by
    obtain ⟨o, q⟩ := m.ow.some R.own
    rw [hp] at q
    cases q
  have he : H2 p = some (.dK []) := s1.keep p _ upd_same hpn fun ps z => by cases z
  refine ⟨he, fun od => ?_⟩
  have un : ∀ b, upd H p (.dK []) b = none → H b = none := fun b e => by
    by_cases hb : b = p
    · rw [hb]; exact hp
    · rw [upd_ne hb] at e; exact e
  have s2 : Stp α O H α1 O1 (upd H2 p (.frz od (.dK (ks.zip vs)))) := ⟨s1.pre, fun b o e n t => by
    have hb := ne_of_none e hp
    rw [upd_ne hb]
    exact s1.keep b o (by rw [upd_ne hb]; exact e) n t, fun b e => by
    by_cases hb : b = p
    · rw [hb, upd_same] at e; cases e
    · rw [upd_ne hb] at e; exact un b (s1.there b e), fun b m => (s1.new b m).imp_right (un b), fun b m => (s1.hnew b m).imp_right (un b), fun b m => (s1.fresh b m).imp_right (un b)⟩
  have hm : ¬ Mu B α1 O1 p := fun m => m.elim (fun z => by
    obtain ⟨o, q⟩ := R.own.bt p z
    rw [hp] at q
    cases q) fun z => w1.nb p z (.inr rfl)
  have z1 : (ks.zip vs).map (·.1) = ks := List.map_fst_zip (by omega)
  have z2 : (ks.zip vs).map (·.2) = vs := List.map_snd_zip (by omega)
  exact hq.to f s2 (ownD_less w1 he) (.d (.dct upd_same hm z1 (by rw [z2]; exact a.imp less_key)))
end
def dckZ (O : List DO) (Q : ZQ) (w u : U) : Prop := match u with
  | .d (.str x) => toK O w fun d => Q [.d (.dct [.inr x] [d])] O
  | _ => False
theorem rd_dck {u w : U} {O : List DO} {E : ZX} {Q : ZQ} (h : Op2.rd Γ .dck u w O E Q) : ∃ x, u = .d (.str x) ∧ toK O w fun d => Q [.d (.dct [.inr x] [d])] O := by
  have h' : dckZ O Q w u := h
  unfold dckZ at h'
  split at h'
  · exact ⟨_, rfl, h'⟩
  · exact h'.elim
theorem sd_dck {a b : Y} (da : Sd G k Γ a) (db : Sd G k Γ b) : Sd G k Γ (.op2 .dck a b) := .ofE _ (fun _ => rfl) fun X W0 S g e c => by
  have c : dckC (ck (Γ.map (·.1)) a S).E (ck (Γ.map (·.1)) b S).E e = true := c
  unfold dckC at c
  split at c
  · obtain ⟨c1, c2⟩ := ba c
    refine pe_imp (pe_frz (pe_disp (pps_cons (da.E X W0 S g _ c1) (db.E X W0 S g _ c2) pps_nil) rfl rfl (by simp) (by simp))) fun σ H Q ⟨B, α, ρ, O, Q0, E0, R, h, hq, hl⟩ p hp => ?_
    refine seq2 (dk_rep R hp) h (dk_low hl hp) fun u w O2 f α2 v v2 H2 s2 w2 a1 a2 => ?_
    obtain ⟨x, rfl, f⟩ := rd_dck f
    obtain ⟨d, e1, f⟩ := toK_of f
    cases a1 with
    | d a1 =>
    cases a1
    obtain ⟨he, q⟩ := dk_end (ks := [.inr x]) R hp s2 w2 rfl (.cons (At.of w2 a2 e1) .nil) hq f
    exact ⟨he, [(.inr x, v2)], rfl, by simp, p, _, rfl, upd_same, True.intro, fun od => by rw [upd_upd]; exact q od⟩
  · cases c
theorem rd_dc2 {x y : Str} {u w : U} {O : List DO} {E : ZX} {Q : ZQ} (h : Op2.rd Γ (.dc2 x y) u w O E Q) : (x == y) = false ∧ toK O u fun d => toK O w fun d2 => Q [.d (.dct [.inr x, .inr y] [d, d2])] O := h
theorem sd_dc2 (x y : Str) {a b : Y} (da : Sd G k Γ a) (db : Sd G k Γ b) : Sd G k Γ (.op2 (.dc2 x y) a b) := .ofE _ (fun _ => rfl) fun X W0 S g e c => by
  have c : dc2C x y (ck (Γ.map (·.1)) a S).E (ck (Γ.map (·.1)) b S).E e = true := c
  unfold dc2C at c
  split at c
  · obtain ⟨c, c2⟩ := ba c
    obtain ⟨c, c1⟩ := ba c
    obtain ⟨k1, k2⟩ := ba c
    cases of_decide_eq_true k1
    cases of_decide_eq_true k2
    refine pe_imp (pe_frz (pe_disp (pps_cons pe_str (da.E X W0 S g _ c1) (pps_cons pe_str (db.E X W0 S g _ c2) pps_nil)) rfl rfl (by simp) (by simp))) fun σ H Q ⟨B, α, ρ, O, Q0, E0, R, h, hq, hl⟩ p hp => ?_
    refine seq2 (dk_rep R hp) h (dk_low hl hp) fun u w O2 f α2 v v2 H2 s2 w2 a1 a2 => ?_
    obtain ⟨hne, f⟩ := rd_dc2 f
    obtain ⟨d, e1, f⟩ := toK_of f
    obtain ⟨d2, e2, f⟩ := toK_of f
    obtain ⟨he, q⟩ := dk_end (ks := [.inr x, .inr y]) R hp s2 w2 rfl (.cons (At.of w2 a1 e1) (.cons (At.of w2 a2 e2) .nil)) hq f
    have em : mergeK [] [(.inr x, v), (.inr y, v2)] = ([(.inr x, v), (.inr y, v2)] : List (Key × V)) := by
      have hxy : x ≠ y := by simpa using hne
      simp [mergeK, putK, hxy]
    refine ⟨he, [(.inr x, v), (.inr y, v2)], rfl, by simp, p, _, rfl, upd_same, True.intro, fun od => ?_⟩
    rw [upd_upd, em]
    exact q od
  · cases c
theorem baseS_of {o : Expr} {m : Str} {env : Env} (h : plainS o = true) : attributeBase o m env (eval o env) = eval o env := by
  cases o <;> first | rfl | cases h
theorem ats_strs {K : PySem.W.Frag} {M : Addr → Prop} {H : Hp} : ∀ {ys : List Str} {vs : List V}, Ats K M H vs (ys.map .str) → vs = ys.map V.str
  | [], _, .nil => rfl
  | y :: ys, _, .cons a r => by
    cases a
    rw [ats_strs r]
    rfl
theorem sjn_t {x : Str} {w : U} {Q : Str → Prop} (h : sjnD true x w Q) : ∃ ys : List Str, w = .d (.lst (ys.map .str)) ∧ (ys.map (·.length)).sum + ys.length * x.length ≤ 16777216 ∧ Q (Txt.join x ys) := by
  unfold sjnD at h
  split at h
  · obtain ⟨ys, rfl, h1, h2⟩ := h
    exact ⟨ys, rfl, h1, h2⟩
  · contradiction
  · exact h.elim
theorem sjn_f {x : Str} {w : U} {Q : Str → Prop} (h : sjnD false x w Q) : ∃ y, w = .d (.str y) ∧ x.length ≤ sizeLine ∧ Q (Txt.stripChars x y) := by
  unfold sjnD at h
  split at h
  · contradiction
  · exact ⟨_, rfl, h.1, h.2⟩
  · exact h.elim
theorem sd_sjn (j : Bool) {a b : Y} (da : Sd G k Γ a) (db : Sd G k Γ b) : Sd G k Γ (.sjn j a b) := .ofE _ (fun _ => rfl) fun X W0 S g e c => by
  replace c : m1C (if j = true then "join" else "strip") (ck (Γ.map (·.1)) a S).E (ck (Γ.map (·.1)) b S).E e = true := c
  unfold m1C at c
  split at c
  · rename_i o m ap e cp
    obtain ⟨c, c6⟩ := ba c
    obtain ⟨c, c5⟩ := ba c
    obtain ⟨c, c4⟩ := ba c
    obtain ⟨c, c3⟩ := ba c
    obtain ⟨c1, c2⟩ := ba c
    have c2 := of_decide_eq_true c2
    have hs := @starEach_plain e [] X.env c4
    cases j with
    | true =>
      have c2 : m = "join" := c2
      subst c2
      refine pe_imp (pe_join (da.E X W0 S g _ c5) (db.E X W0 S g _ c6) hs (baseS_of c3) c1) fun σ H Q ⟨B, α, ρ, O, Q0, E0, R, h, hq, hl⟩ => ?_
      refine seqE R h hl fun u O1 ⟨x, e0, f1⟩ α1 v H1 s1 w1 a1 => ?_
      subst e0
      cases a1 with
      | d a1 =>
      cases a1
      refine ⟨⟨x, rfl⟩, seqE (R.stp s1 w1) f1 (hl.stp s1) fun w O2 f α2 v2 H2 s2 w2 a2 => ?_⟩
      obtain ⟨ys, rfl, f1, f⟩ := sjn_t f
      cases a2 with
      | d a2 =>
      cases a2 with
      | lst e4 m4 r =>
        obtain rfl := ats_strs r
        exact ⟨x, _, ys, rfl, rfl, .inl (SqL.of e4), f1, hq.to f (s1.trans s2) w2 (.d (.str _))⟩
    | false =>
      have c2 : m = "strip" := c2
      subst c2
      refine pe_imp (pe_m1 F.slot_str_strip F.type_str_strip mt_stripChars (da.E X W0 S g _ c5) (db.E X W0 S g _ c6) hs (baseS_of c3) c1) fun σ H Q ⟨B, α, ρ, O, Q0, E0, R, h, hq, hl⟩ => ?_
      refine seqE R h hl fun u O1 ⟨x, e0, f1⟩ α1 v H1 s1 w1 a1 => ?_
      subst e0
      cases a1 with
      | d a1 =>
      cases a1
      refine ⟨⟨x, rfl⟩, seqE (R.stp s1 w1) f1 (hl.stp s1) fun w O2 f α2 v2 H2 s2 w2 a2 => ?_⟩
      obtain ⟨y, rfl, f1, f⟩ := sjn_f f
      cases a2 with
      | d a2 =>
      cases a2
      exact ⟨x, y, rfl, rfl, f1, hq.to f (s1.trans s2) w2 (.d (.str _))⟩
  · cases c
end
end Z

set_option Elab.async false
set_option linter.all false
set_option maxRecDepth 100000
set_option maxHeartbeats 4000000
namespace Z
open PySem PySem.Spec PyProof.Rows L2 PySem.W
section
variable {prog : Program} {w : World} {A : Around} {E : Value → Shared → Prop} {s : Shared}
theorem bool_new_ref (x : Addr) : MeetsIn prog w (Builtin.«bool.__new__» ⟨[.type "bool", .ref x], []⟩) (fun A R s => wpAny (model prog w) A.in1 (truthy (.ref x)) (fun b s' => R (.ok (.ret (.bool b))) s') (fun e s' => R (.error e) s') s) :=
  .of_wp fun A R s h => by
    have f1 := F.conv_sub_bool
    obtain ⟨hp, g, d, tk, os⟩ := s
    have h' : ∀ {Q : Bool → Shared → Prop}, (∀ b s', R (.ok (.ret (.bool b))) s' → Q b s') → wpAny (model prog w) A.in1 (truthy (.ref x)) Q (fun e s' => R (.error e) s') ⟨hp, g, d, tk, os⟩ := fun hQ => wpAny_mono h (fun b s' q => hQ b s' q) (fun _ _ q => q)
    clear h
    repeat (any_goals (first | (with_reducible refine h' fun b s' q => ?_) | wp_step))
    exact ⟨_, rfl, q⟩
theorem call_bool_ref {x : Addr} {Q : Value → Shared → Prop} (h : wpAny (model prog w) A.in1.in1 (truthy (.ref x)) (fun b s' => Q (.bool b) s') E s) : wpAny (model prog w) A (call (.type "bool") [.ref x]) Q E s :=
  callType_newIn F.called_bool F.newNe_bool (F.typeCall_bool_1 _) (F.newCall_bool_1 _) (fun obj => F.args_object_init_2 obj _) F.entry_bool_new (bool_new_ref x) (wpAny_mono h (fun b s' q => ⟨rfl, q⟩) fun _ _ q => q)
theorem entry_neO {K : PySem.W.Frag} {x f C L : Addr} {b : Value} {ox : Obj} {od : Option Obj} {Q : Fin → Shared → Prop} (hu : A.units < cLine) (X : K.In s.heap) (I : PySem.W.InstAt s.heap x ox C od) (hs : PySem.W.findIn K (.ref C) "__eq__" = some (some (.ref f))) (hf : PySem.W.isFn K (.ref f) = true)
    (h : wpAny (model prog w) A (call (.ref f) [.ref x, b]) (fun v s' => ∃ r, v = .bool r ∧ Q (.done (.ret (.bool (!r)))) s') E s) : wpAny (model prog w) A (Builtin.«object.__ne__» ⟨[.ref x, b], []⟩) Q E s := by
  unfold Builtin.«object.__ne__»
  have hX0 : wpAny (model prog w) A (callSpecialIfBound? (.ref x) "__eq__" [b]) (fun v s' => ∃ r, v = some (.bool r) ∧ Q (.done (.ret (.bool (!r)))) s') E s := PySem.W.ifBound_K X I hs hf (wpAny_mono h (fun v s' ⟨r, e, q⟩ => ⟨r, by rw [e], q⟩) fun _ _ q => q)
  have hX : ∀ {Q' : Option Value → Shared → Prop}, (∀ v s', (∃ r, v = some (.bool r) ∧ Q (.done (.ret (.bool (!r)))) s') → Q' v s') → wpAny (model prog w) A (callSpecialIfBound? (.ref x) "__eq__" [b]) Q' E s := fun hQ => wpAny_mono hX0 hQ (fun _ _ q => q)
  clear hX0
  repeat (first | (with_reducible refine wpAny_cRoomFor hu ?_) | (with_reducible refine hX fun v s' q => ?_) | wp_step)
  obtain ⟨r, e, q⟩ := q
  subst e
  refine wpAny_bind (wpAny_truthy_bool ?_)
  exact wpAny_of_eq (rfl : (ret (Value.bool (!r)) : Sem Fin) = pure (.done (.ret (.bool (!r))))) q
theorem call_neO {K : PySem.W.Frag} {x f C L : Addr} {b : Value} {ox : Obj} {od : Option Obj} {Q : Value → Shared → Prop} (hu : A.in1.units < cLine) (X : K.In s.heap) (I : PySem.W.InstAt s.heap x ox C od) (hm : PySem.W.mroIn K C (.type "object") = some true) (hs : PySem.W.findIn K (.ref C) "__eq__" = some (some (.ref f))) (hf : PySem.W.isFn K (.ref f) = true)
    (h : wpAny (model prog w) A.in1 (call (.ref f) [.ref x, b]) (fun v s' => ∃ r, v = .bool r ∧ Q (.bool (!r)) s') E s) : wpAny (model prog w) A (call (.builtin "object.__ne__") [.ref x, b]) Q E s :=
  wpAny_call (codeAny_call_builtin F.cmp_object.ne.plain F.cmpEntry_ne (PySem.W.check_slot F.cmpKind_ne F.cmpSplit_ne (I.type.andThen (PySem.W.looks_mroIn X hm)) (F.cmpArgs_ne _ _) (entry_neO (L := 0) hu X I hs hf h)))
theorem ifBound_neO {K : PySem.W.Frag} {x C : Addr} {ox : Obj} {od : Option Obj} {M : Model} {args : List Value} {Q : Option Value → Shared → Prop} (X : K.In s.heap) (I : PySem.W.InstAt s.heap x ox C od) (hs : PySem.W.findIn K (.ref C) "__ne__" = some (some (.builtin "object.__ne__")))
    (h : wpAny M A (call (.builtin "object.__ne__") (.ref x :: args)) (fun v => Q (some v)) E s) : wpAny M A (callSpecialIfBound? (.ref x) "__ne__" args) Q E s := by
  simp only [callSpecialIfBound?, bindSpecialIfBound?]
  refine wpAny_holding (wpAny_bind (wpAny_bind (wpAny_bind (I.type.here ((PySem.W.looks_findIn X hs).here ?_)))))
  refine wpAny_bind (wpAny_askSetting (wpAny_ite ?_))
  have fin : wpAny M A (call (.builtin "object.__ne__") ([.ref x] ++ args) >>= fun v => pure (some v)) Q E s := wpAny_bind (wpAny_mono h (fun v s' h' => wpAny_pure h') fun _ _ h' => h')
  split
  · exact wpAny_bind (wpAny_of_eq (F.cmp_object.ne.bind _) (wpAny_pure (by exact fin)))
  · exact wpAny_tryCatch (wpAny_bind (wpAny_of_eq (F.cmp_object.ne.bind _) (wpAny_pure (by exact fin))))
theorem rc_neO {K : PySem.W.Frag} {x C L f : Addr} {h₀ : Heap} {m : Str → Option Value} {b tb : Value} {ox : Obj} {od : Option Obj} {Q : Value → Shared → Prop} (hu : A.units < cLine) (hu1 : A.in1.units < cLine) (X : K.In s.heap) (I : PySem.W.InstAt s.heap x ox C od) (hb : Looks (model prog w) s.heap (typeOf b) tb) (hn : PySem.W.notFirst K C tb = true)
    (hm : PySem.W.mroIn K C (.type "object") = some true) (hne : PySem.W.findIn K (.ref C) "__ne__" = some (some (.builtin "object.__ne__"))) (hs : PySem.W.findIn K (.ref C) "__eq__" = some (some (.ref f))) (hf : PySem.W.isFn K (.ref f) = true)
    (h : wpAny (model prog w) A.in1 (call (.ref f) [.ref x, b]) (fun v s' => ∃ r, v = .bool r ∧ Q (.bool (!r)) s') E s) : wpAny (model prog w) A (richCompare .NotEq (.ref x) b) Q E s := by
  have one : wpAny (model prog w) A (tryCompare (.ref x) "__ne__" b) (fun r s' => ∃ v, r = some v ∧ Q v s') E s := by
    unfold tryCompare
    refine wpAny_bind (ifBound_neO X I hne (call_neO (L := 0) hu1 X I hm hs hf (wpAny_mono h (fun v s' ⟨r, e, q⟩ => ⟨r, e, ?_⟩) fun _ _ e => e)))
    exact wpAny_pure ⟨_, rfl, q⟩
  unfold richCompare
  simp only [oneThing_ref]
  refine wpAny_holding (wpAny_bind (wpAny_cRoomFor hu ?_))
  refine wpAny_bind (I.type.here (wpAny_bind (hb.here ?_)))
  split
  · rename_i q
    have e : PySem.W.subIn K tb (.ref C) = some false := by
      rcases Bool.or_eq_true_iff.mp hn with e | e
      · rw [beq_iff_eq.mp e] at q; simp at q
      · exact beq_iff_eq.mp e
    refine wpAny_bind ((PySem.W.looks_subIn X e).here ?_)
    simp only [Bool.false_eq_true, if_false]
    refine wpAny_bind (wpAny_mono one (fun r s' z => ?_) fun _ _ e => e)
    obtain ⟨v, rfl, hq⟩ := z
    exact wpAny_pure hq
  · refine wpAny_bind (wpAny_pure ?_)
    simp only [Bool.false_eq_true, if_false]
    refine wpAny_bind (wpAny_mono one (fun r s' z => ?_) fun _ _ e => e)
    obtain ⟨v, rfl, hq⟩ := z
    exact wpAny_pure hq
end

inductive LeftK (h : Heap) : Value → String → Prop where
  | none : LeftK h .none "NoneType"
  | bool (b : Bool) : LeftK h (.bool b) "bool"
  | int (i : Int) (t : Tok) : LeftK h (.int i t) "int"
  | str (z : Str) (t : Tok) : LeftK h (.str z t) "str"
  | ref {l : Addr} {o : Obj} {T : String} (e : h.get? l = some o) (c : o.cls = .type T) (m : T ∈ ["list", "tuple", "dict"]) : LeftK h (.ref l) T
theorem LeftK.is {s : Shared} {u : Value} {T : String} (k : LeftK s.heap u T) : s.TypeIs u T := by
  cases k with
  | none => rfl
  | bool => rfl
  | int => rfl
  | str => rfl
  | ref e c m => exact ⟨_, e, c⟩
theorem leftK_of {X : Cx} {pins : List (Addr × Obj)} {σ : L2.St} {H : Hp} {s : Shared} {x : V} {u t : Value} {T : String} (I : Inv X pins σ H s) (rx : RelV x u) (ty : TyX X.K H x t) (ht : t = .type T) (hf : T ∈ ltys) : LeftK s.heap u T := by
  cases ty with
  | base b =>
    cases b with
    | non => cases (show u = Value.none from rx); cases ht; exact .none
    | bl y => cases (show u = Value.bool y from rx); cases ht; exact .bool _
    | int i => obtain ⟨t, q⟩ := (show ∃ t, u = Value.int i t from rx); cases q; cases ht; exact .int _ _
    | str y => obtain ⟨t, q⟩ := (show ∃ t, u = Value.str y t from rx); cases q; cases ht; exact .str _ _
    | flt y => cases ht; exact absurd hf (by decide)
    | @lst a xs ea =>
      cases (show u = Value.ref a from rx)
      obtain ⟨_, _, n, _, h1⟩ := (show ObjOk X.prog X.w H s.heap a (.lst xs) from I.hok a _ ea)
      cases ht; exact .ref (h1) (rfl) (by decide)
    | @frz a ob xs ea =>
      cases (show u = Value.ref a from rx)
      obtain ⟨_, _, _, n, _, h1⟩ := (show ObjOk X.prog X.w H s.heap a (.frz ob (.lst xs)) from I.hok a _ ea)
      cases ht; exact .ref (h1) (rfl) (by decide)
    | @tup a xs ea =>
      cases (show u = Value.ref a from rx)
      obtain ⟨_, _, _, o, h1, h2, _⟩ := (show ObjOk X.prog X.w H s.heap a (.tup xs) from I.hok a _ ea)
      cases ht; exact .ref (h1) (h2) (by decide)
    | @dK a kvs ea =>
      cases (show u = Value.ref a from rx)
      obtain ⟨_, _, vs, _, o, es, ep, h1, h2, _⟩ := (show ObjOk X.prog X.w H s.heap a (.dK kvs) from I.hok a _ ea)
      cases ht; exact .ref (h1) (h2.1) (by decide)
    | @dT a kvs ea =>
      cases (show u = Value.ref a from rx)
      obtain ⟨_, _, xs, _, o, es, ep, h1, h2, _⟩ := (show ObjOk X.prog X.w H s.heap a (.dT kvs) from I.hok a _ ea)
      cases ht; exact .ref (h1) (h2.1) (by decide)
    | @ins a C dx fs ea cl ha hn htk hm => cases ht
  | byt y => cases ht; exact absurd hf (by decide)
  | @set a S n ea =>
    cases (show u = Value.ref a from rx)
    obtain ⟨o, _, _, _, e, ex, _⟩ := I.hok a _ ea
    cases ht; exact absurd hf (by decide)
  | @kList a o e c =>
    cases (show u = Value.ref a from rx)
    cases ht; exact .ref (I.kIn a o e) (c) (by decide)
  | @kTuple a o e c =>
    cases (show u = Value.ref a from rx)
    cases ht; exact .ref (I.kIn a o e) (c) (by decide)
  | @kDict a o e c =>
    cases (show u = Value.ref a from rx)
    cases ht; exact .ref (I.kIn a o e) (c) (by decide)
  | @fTuple a ob xs ea =>
    cases (show u = Value.ref a from rx)
    obtain ⟨_, _, _, _, o, h1, h2, _⟩ := (show ObjOk X.prog X.w H s.heap a (.frz ob (.tup xs)) from I.hok a _ ea)
    cases ht; exact .ref (h1) (h2) (by decide)
  | @fDict a ob kvs ea =>
    cases (show u = Value.ref a from rx)
    obtain ⟨_, _, _, vs, _, o, es, ep, h1, h2, _⟩ := (show ObjOk X.prog X.w H s.heap a (.frz ob (.dK kvs)) from I.hok a _ ea)
    cases ht; exact .ref (h1) (h2.1) (by decide)
section
variable {A : Around} {s : Shared} {E : Value → Shared → Prop}
theorem loadI {M : Model} {y C : Addr} {ox : Obj} {od : Option Obj} {part : Option Value} {Q : Obj → Shared → Prop} (I : PySem.W.InstAt s.heap y ox C od) (q : Q ox s) : wpAny M A (loadPart y part) Q E s := wpAny_loadPart I.at_ q
theorem sub_inst {M : Model} {K : PySem.W.Frag} {y C dx : Addr} {od : Option Obj} {T : String} (X : K.In s.heap) (I : PySem.W.InstAt s.heap y (PySem.W.instObj C dx) C od) (e : PySem.W.subIn K (.ref C) (.type T) = some false) : PySem.W.Looks M s.heap (isInstance (.ref y) (.type T)) false := I.type.andThen (PySem.W.looks_subIn X e)
/-- x == o of a value of a built-in kind declines -/
def Decl (T : String) : Prop := ∃ id, Slot T (cmpInfo .Eq).2.1 id ∧ ∀ (prog : Program) (w : World) (K : PySem.W.Frag) (A : Around) (E : Value → Shared → Prop) (s : Shared) (a : Value) (y C dx : Addr) (od : Option Obj) (Q : Value → Shared → Prop), LeftK s.heap a T → K.In s.heap → PySem.W.InstAt s.heap y (PySem.W.instObj C dx) C od →
  PySem.W.subIn K (.ref C) (.type T) = some false → Q .notImplemented s → wpAny (model prog w) A (call (.builtin id) [a, .ref y]) Q E s
theorem decl_none : Decl "NoneType" := ⟨_, F.slot_NoneType_eq_refl, fun prog w K A E s a y C dx od Q hT _ _ _ q => by
  generalize eT : "NoneType" = T at hT
  cases hT with
  | none => exact call_gives F.slot_NoneType_eq_refl rfl F.entry_NoneType_eq (F.args_NoneType_eq_2 _ _) (SeqAt.NoneType___eq___none_ref_0 y) q
  | ref e c m => subst eT; exact absurd m (by decide)
  | _ => exact absurd eT (by decide)⟩
open AutoSeq1 (wpAny_loadPart')
theorem intd_bool (b : Bool) (y : Addr) (C dx : Addr) : Meets (Builtin.«int.__eq__» ⟨[.bool b, .ref y], []⟩) (fun _ R s => s.heap.get? y = some (PySem.W.instObj C dx) ∧ R (.ok (.ret .notImplemented)) s) :=
  .of_wp fun prog w A R s h => by obtain ⟨hp, g, d, tk, os⟩ := s; obtain ⟨hl, h⟩ := h; unfold PySem.W.instObj at hl; wp_walk using wpAny_loadPart' hl, wpAny_load hl; all_goals exact ⟨_, rfl, h⟩
theorem intd_int (b : Int) (u : Tok) (y : Addr) (C dx : Addr) : Meets (Builtin.«int.__eq__» ⟨[.int b u, .ref y], []⟩) (fun _ R s => s.heap.get? y = some (PySem.W.instObj C dx) ∧ R (.ok (.ret .notImplemented)) s) :=
  .of_wp fun prog w A R s h => by obtain ⟨hp, g, d, tk, os⟩ := s; obtain ⟨hl, h⟩ := h; unfold PySem.W.instObj at hl; wp_walk using wpAny_loadPart' hl, wpAny_load hl; all_goals exact ⟨_, rfl, h⟩
theorem strd (b : Str) (u : Tok) (y : Addr) (C dx : Addr) : Meets (Builtin.«str.__eq__» ⟨[.str b u, .ref y], []⟩) (fun _ R s => s.heap.get? y = some (PySem.W.instObj C dx) ∧ R (.ok (.ret .notImplemented)) s) :=
  .of_wp fun prog w A R s h => by obtain ⟨hp, g, d, tk, os⟩ := s; obtain ⟨hl, h⟩ := h; unfold PySem.W.instObj at hl; wp_walk using wpAny_loadPart' hl, wpAny_load hl; all_goals exact ⟨_, rfl, h⟩
theorem decl_bool : Decl "bool" := ⟨_, F.slot_bool_eq, fun prog w K A E s a y C dx od Q hT _ I _ q => by
  generalize eT : "bool" = T at hT
  cases hT with
  | bool b => exact call_meets F.slot_bool_eq rfl F.entry_int_eq (F.args_int_eq_2 _ _) (intd_bool b y C dx) ⟨I.at_, q⟩
  | ref e c m => subst eT; exact absurd m (by decide)
  | _ => exact absurd eT (by decide)⟩
theorem decl_int : Decl "int" := ⟨_, F.slot_int_eq, fun prog w K A E s a y C dx od Q hT _ I _ q => by
  generalize eT : "int" = T at hT
  cases hT with
  | int b t => exact call_meets F.slot_int_eq rfl F.entry_int_eq (F.args_int_eq_2 _ _) (intd_int b t y C dx) ⟨I.at_, q⟩
  | ref e c m => subst eT; exact absurd m (by decide)
  | _ => exact absurd eT (by decide)⟩
theorem decl_str : Decl "str" := ⟨_, F.slot_str_eq, fun prog w K A E s a y C dx od Q hT _ I _ q => by
  generalize eT : "str" = T at hT
  cases hT with
  | str b t => exact call_meets F.slot_str_eq rfl F.entry_str_eq (F.args_str_eq_2 _ _) (strd b t y C dx) ⟨I.at_, q⟩
  | ref e c m => subst eT; exact absurd m (by decide)
  | _ => exact absurd eT (by decide)⟩
theorem listd (l y : Addr) : MeetsIn prog w (Builtin.«list.__eq__» ⟨[.ref l, .ref y], []⟩) (fun A R s => (∀ (Q : Bool → Shared → Prop) (E : Value → Shared → Prop), Q false s → wpAny (model prog w) A.in1 (isInstance (.ref y) (.type "list")) Q E s) ∧ R (.ok (.ret .notImplemented)) s) :=
  .of_wp fun A R s h => by
    obtain ⟨hi, h⟩ := h
    obtain ⟨hp, g, d, tk, os⟩ := s
    repeat (any_goals (first | (with_reducible refine hi _ _ ?_) | wp_step))
    all_goals exact ⟨_, rfl, h⟩
theorem decl_list : Decl "list" := ⟨_, F.slot_list_eq, fun prog w K A E s a y C dx od Q hT X I hs q => by
  generalize eT : "list" = T at hT
  cases hT with
  | ref e c m => exact call_meetsIn F.slot_list_eq ⟨_, e, eT ▸ c⟩ F.entry_list_eq (F.args_list_eq_2 _ _) (listd _ y) ⟨fun Q E q => (sub_inst (M := model prog w) X I hs).here q, q⟩
  | _ => exact absurd eT (by decide)⟩
theorem tupd (l y : Addr) : MeetsIn prog w (Builtin.«tuple.__eq__» ⟨[.ref l, .ref y], []⟩) (fun A R s => (∀ (Q : Bool → Shared → Prop) (E : Value → Shared → Prop), Q false s → wpAny (model prog w) A.in1 (isInstance (.ref y) (.type "tuple")) Q E s) ∧ R (.ok (.ret .notImplemented)) s) :=
  .of_wp fun A R s h => by
    obtain ⟨hi, h⟩ := h
    obtain ⟨hp, g, d, tk, os⟩ := s
    repeat (any_goals (first | (with_reducible refine hi _ _ ?_) | wp_step))
    all_goals exact ⟨_, rfl, h⟩
theorem decl_tuple : Decl "tuple" := ⟨_, F.slot_tuple_eq, fun prog w K A E s a y C dx od Q hT X I hs q => by
  generalize eT : "tuple" = T at hT
  cases hT with
  | ref e c m => exact call_meetsIn F.slot_tuple_eq ⟨_, e, eT ▸ c⟩ F.entry_tuple_eq (F.args_tuple_eq_2 _ _) (tupd _ y) ⟨fun Q E q => (sub_inst (M := model prog w) X I hs).here q, q⟩
  | _ => exact absurd eT (by decide)⟩
theorem dctd (l y : Addr) : MeetsIn prog w (Builtin.«dict.__eq__» ⟨[.ref l, .ref y], []⟩) (fun A R s => (∀ (Q : Bool → Shared → Prop) (E : Value → Shared → Prop), Q false s → wpAny (model prog w) A.in1 (isInstance (.ref y) (.type "dict")) Q E s) ∧ R (.ok (.ret .notImplemented)) s) :=
  .of_wp fun A R s h => by
    obtain ⟨hi, h⟩ := h
    obtain ⟨hp, g, d, tk, os⟩ := s
    repeat (any_goals (first | (with_reducible refine hi _ _ ?_) | wp_step))
    all_goals exact ⟨_, rfl, h⟩
theorem decl_dict : Decl "dict" := ⟨_, F.slot_dict_eq, fun prog w K A E s a y C dx od Q hT X I hs q => by
  generalize eT : "dict" = T at hT
  cases hT with
  | ref e c m => exact call_meetsIn F.slot_dict_eq ⟨_, e, eT ▸ c⟩ F.entry_dict_eq (F.args_dict_eq_2 _ _) (dctd _ y) ⟨fun Q E q => (sub_inst (M := model prog w) X I hs).here q, q⟩
  | _ => exact absurd eT (by decide)⟩

theorem decl_all {T : String} (h : T ∈ ltys) : Decl T := by
  simp only [ltys, btys, List.mem_cons, List.not_mem_nil, or_false] at h
  rcases h with rfl | rfl | rfl | rfl | rfl | rfl | rfl
  · exact decl_none
  · exact decl_bool
  · exact decl_int
  · exact decl_str
  · exact decl_list
  · exact decl_tuple
  · exact decl_dict
theorem rc_reflO {K : PySem.W.Frag} {y C dx f L : Addr} {a : Value} {T : String} {od : Option Obj} {Q : Value → Shared → Prop} (hu : A.units < cLine) (X : K.In s.heap) (I : PySem.W.InstAt s.heap y (PySem.W.instObj C dx) C od) (hT : T ∈ ltys) (hk : LeftK s.heap a T) (hsub : PySem.W.subIn K (.ref C) (.type T) = some false)
    (hs : PySem.W.findIn K (.ref C) "__eq__" = some (some (.ref f))) (hf : PySem.W.isFn K (.ref f) = true)
    (h : wpAny (model prog w) A (call (.ref f) [.ref y, a]) (PySem.W.CmpBack Q) E s) : wpAny (model prog w) A (richCompare .Eq a (.ref y)) Q E s := by
  obtain ⟨id, slot, hd⟩ := decl_all hT
  have one : wpAny (model prog w) A (tryCompare a "__eq__" (.ref y)) (fun r s' => r = none ∧ s' = s) E s :=
    wpAny_tryCompare_declines hk.is slot (hd prog w K A E s a y C dx od _ hk X I hsub ⟨rfl, rfl, rfl⟩)
  have two : wpAny (model prog w) A (tryCompare (.ref y) "__eq__" a) (fun r s' => ∃ v, r = some v ∧ Q v s') E s := by
    unfold tryCompare
    refine wpAny_bind (PySem.W.ifBound_K X I hs hf (wpAny_mono h (fun v s' hv => ?_) fun _ _ e => e))
    cases v <;> first | exact hv.elim | exact wpAny_pure ⟨_, rfl, hv⟩
  have hne : ((Value.type T) != Value.ref C) = true := by simp
  simp only [richCompare, cmpInfo_Eq, hk.is.oneThing_none]
  refine wpAny_holding (wpAny_bind (wpAny_cRoomFor hu ?_))
  refine wpAny_bind (wpAny_typeOf hk.is (wpAny_bind (I.type.here ?_)))
  have hne' : (Value.ref C != Value.type T) = true := by simp
  simp only [hne, hne', if_true]
  refine wpAny_bind ((PySem.W.looks_subIn X hsub).here ?_)
  simp only [Bool.false_eq_true, if_false, Bool.not_false, if_true]
  refine wpAny_bind (m := tryCompare a _ (.ref y)) (wpAny_mono one (fun r s1 z => ?_) fun _ _ e => e)
  obtain ⟨z1, z2⟩ := z
  subst z1
  subst z2
  refine wpAny_bind (m := tryCompare (.ref y) _ a) (wpAny_mono two (fun r s2 z => ?_) fun _ _ e => e)
  obtain ⟨v, rfl, hq⟩ := z
  exact wpAny_pure hq
end
section
variable {G : Gx} {k : Nat} {Γ : List (Fk × ZSp)} {X : Cx} {W0 : XK}
/-- a method that is called one step within, with more arguments -/
def OwnCallN (X : Cx) (G : Gx) (k : Nat) (W0 : XK) (m : Str) (a0 : Addr) (vs : List V) (H : Hp) (R : VK) : Prop :=
  ∃ c0 ns dx fs f P j, H a0 = some (.ins (He.ga X.K c0) dx fs) ∧ OkC X.K c0 ns ∧ Meth X.K (He.ga X.K c0) m f ∧ j + 1 ≤ k ∧ FnRK X.prog X.w X.K X.mg X.base j f [] (lowSp G P) ∧ lowSp G P (.ref a0 :: vs) H R W0
theorem own_lowN {B : Addr → Prop} {α : List Addr} {O : List DO} {H : Hp} {E0 : ZX} {c : Str} {ns : List Str} {ds : List D} {us : List U} {vs : List V} {a0 : V} {i : Nat} {m : Str} {S : Sx} {R : VK} {Q0 : U → List DO → Prop} (g : Good X G W0 k S Γ) (w : Own G B α O H) (a : AtU G.K B α O H a0 (.d (.obj c ns ds))) (r : AtUs G.K B α O H vs us) {P : ZSp} (hi : Γ[i]? = some ((m, [mDot, c]), P))
    (h : callZ P (.d (.obj c ns ds) :: us) O Q0 E0) (hq : ∀ u O', Q0 u O' → ∀ α' v H', Stp α O H α' O' H' → Own G B α' O' H' → AtU G.K B α' O' H' v u → R v H') (he : ELow G B W0 α O H E0) : ∃ p, a0 = .ref p ∧ OwnCallN X G k W0 m p vs H R := by
  have a' := a
  cases a with
  | d a =>
  cases a with
  | obj e mo ok hn r' =>
    rename_i p dx gs
    obtain ⟨f, j, hj, hM, hF⟩ := FnX.met1 (g.fns i _ P hi)
    rw [g.hK] at hM hF
    refine ⟨p, rfl, c, ns, dx, gs, f, P, j, by rw [g.hK]; exact e, by rw [g.hK]; exact ok, by rw [g.hK]; exact hM, hj, by rw [g.hK]; exact hF, ?_⟩
    exact call_low w (.cons a' r) h hq he
theorem Room.in2 {j : Nat} {A : Around} (r : Room (j + 1) A) : Room j A.in1.in1 :=
  ⟨r.hd, by have := r.dp; show A.depth + 3 * j + 5 < _; omega, by have := r.un; show A.units + 1 + 1 + 16 * j + 200 < _; omega⟩
def rBoo1 (X : Cx) (G : Gx) (k : Nat) (W0 : XK) : List V → Hp → VK → Prop := fun vs H Q => ∃ a0, vs = [.ref a0] ∧ OwnCall1 X G k W0 mBool a0 H fun r H' => ∃ b, r = .bl b ∧ Q (.bl b) H'
theorem cr_booO (hr : Room k X.A) (hp : Passes (L2.CX X.prog X.w) X W0) : CallR X (.type "bool") (rBoo1 X G k W0) := by
  intro pins s σ H vs us Q I r ⟨a0, e, c0, ns, dx, fs, f, P, j, g1, g2, g3, hj, g4, g5⟩
  subst e
  obtain ⟨u, rfl, ru⟩ : ∃ u, us = [u] ∧ RelV (.ref a0) u := by
    cases r with
    | cons a r => cases r; exact ⟨_, rfl, a⟩
  obtain rfl : u = Value.ref a0 := ru
  obtain ⟨m, fr⟩ := I.fr
  obtain ⟨od, h1⟩ := inst_at I g1
  have h4 : wpAny (model X.prog X.w) X.A.in1.in1 (call (.ref f) [.ref a0]) (EP X pins σ fun r H' => ∃ b, r = .bl b ∧ Q (.bl b) H') X.xe s := by
    refine wpAny_call (codeAny_mono (g4 X.A.in1.in1 X.stack s H [.ref a0] [] [.ref a0] [] _ W0 (Room.in2 (hr.mono hj)) I.env0.in1.in1 (.cons rfl .nil) .nil rfl (by rw [List.append_nil]; exact g5)) fun r t hq => ?_)
    cases r with
    | error e => exact hp pins σ H s e t I hq
    | ok fl =>
      cases fl with
      | ret u => exact I.after hq
      | next => exact False.elim hq
      | brk => exact False.elim hq
      | cont => exact False.elim hq
  exact call_bool_ref (PySem.W.truthy_K fr I.ok.mod.kin h1 g3.at_ g3.fn (thn h4 fun u s' ⟨z, H', I', r, n, en, q⟩ => by
    subst en
    obtain rfl : u = Value.bool n := r
    exact ⟨.bl n, H', I', rfl, q⟩))
def rNeo (X : Cx) (G : Gx) (k : Nat) (W0 : XK) : R2 := fun v w H Q => ∃ a0, v = .ref a0 ∧ OwnCallN X G k W0 mEq a0 [w] H (fun r H' => ∃ b, r = .bl b ∧ Q (.bl (!b)) H') ∧ ∀ C dx fs, H a0 = some (.ins C dx fs) → TyR X.K H w C
theorem op_neo (hr : Room k X.A) (hp : Passes (L2.CX X.prog X.w) X W0) : OpR X (compareOp .NotEq) (rNeo X G k W0) := by
  intro pins s σ H v w v' w' Q I rv rw' ⟨a0, e, h, ht⟩
  subst e
  obtain rfl : v' = Value.ref a0 := rv
  obtain ⟨m, fr⟩ := I.fr
  obtain ⟨c0, ns, dx, fs, f, P, j, g1, g2, g3, hj, g4, g5⟩ := id h
  obtain ⟨T, t1, t2⟩ := ht _ _ _ g1
  obtain ⟨Pk, kx, hk, _⟩ := kit_of I rw' t1
  obtain ⟨od, h1⟩ := inst_at I g1
  have F := opF_of g2.2.2
  have h4 := run_own1 (us := [.ref a0, w']) (vs := [.ref a0, w]) (Room.in1 (hr.mono hj)) hp I g4 g5 (.cons rfl (.cons rw' .nil))
  exact PySem.W.cmp_ofNotEq (rc_neO (L := 0) (h₀ := s.heap) (m := fun _ => none) (by have := hr.units; omega) (by have := (Room.in1 (hr.mono hj)).units; omega) I.kIn h1 (kx.ty _ _ I.kIn hk) t2 F.c4 F.ne g3.at_ g3.fn (thn h4 fun u s' ⟨z, H', I', r, n, en, q⟩ => by
    subst en
    obtain rfl : u = Value.bool n := r
    exact ⟨n, rfl, .bl (!n), H', I', rfl, q⟩))
def rEqr (X : Cx) (G : Gx) (k : Nat) (W0 : XK) : R2 := fun v w H Q => ∃ a0 T, w = .ref a0 ∧ OwnCall X G k W0 mEq a0 [v] H (fun r H' => Q r H') ∧ T ∈ ltys ∧ TyX X.K H v (.type T)
theorem op_eqr (hr : Room k X.A) (hp : Passes (L2.CX X.prog X.w) X W0) : OpR X (compareOp .Eq) (rEqr X G k W0) := by
  intro pins s σ H v w v' w' Q I rv rw' ⟨a0, T, e, h, hT, ht⟩
  subst e
  obtain rfl : w' = Value.ref a0 := rw'
  obtain ⟨c0, ns, dx, fs, f, P, g1, g2, g3, g4, g5⟩ := id h
  obtain ⟨od, h1⟩ := inst_at I g1
  have F := opF_of g2.2.2
  have h4 := run_fk (ks := []) (ws := []) (zs := []) (us := [.ref a0, v']) (vs := [.ref a0, v]) g4 hr hp I (.cons rfl (.cons rv .nil)) .nil rfl (by rw [List.append_nil]; exact g5)
  exact PySem.W.cmp_ofEq (rc_reflO (L := 0) (by have := hr.units; omega) I.kIn h1 hT (leftK_of I rv ht rfl hT) (F.sb T hT) g3.at_ g3.fn (thn h4 fun u s' h => cmpBack_of h))
end
section
variable {G : Gx} {k : Nat} {Γ : List (Fk × ZSp)} {X : Cx} {W0 : XK}
theorem rd_neo {B : Addr → Prop} {α : List Addr} {O : List DO} {H : Hp} {E0 : ZX} {u w : U} {v v2 : V} {i : Nat} {S : Sx} {Q0 : ZQ} {Q : VK} (g : Good X G W0 k S Γ) (w2 : Own G B α O H) (a1 : AtU G.K B α O H v u) (a2 : AtU G.K B α O H v2 w) (h : Op2.rd Γ (.eqo i true) u w O E0 Q0)
    (hq : ∀ b O', Q0 [.d (.bl b)] O' → ∀ α' H', Stp α O H α' O' H' → Own G B α' O' H' → Q (.bl b) H') (he : ELow G B W0 α O H E0) : rNeo X G k W0 v v2 H Q := by
  rw [rd_eqo_eq] at h
  split at h
  · rename_i c ns ds
    cases q : Γ[i]? with
    | none => rw [q] at h; exact h.elim
    | some pr =>
      obtain ⟨x, P⟩ := pr
      rw [q] at h
      obtain ⟨rfl, hR, h⟩ := h
      obtain ⟨p, e, hc⟩ := own_lowN (us := [w]) (vs := [v2]) (R := fun r H' => ∃ b, r = .bl b ∧ Q (.bl (!b)) H') g w2 a1 (.cons a2 .nil) q h (fun r O' h0 α' v' H' s' w' a' => by
        obtain ⟨b, e, h1⟩ := boolK_of h0
        cases e
        cases a' with
        | d a' =>
        cases a'
        rw [Bool.bne_true] at h1
        exact ⟨b, rfl, hq _ _ h1 _ _ s' w'⟩) he
      refine ⟨p, e, hc, fun C dx fs e1 => ?_⟩
      cases a1 with
      | d a1 =>
      cases a1 with
      | obj e2 mo ok hn r =>
        cases e
        rw [e2] at e1
        cases e1
        rw [g.hK]
        exact tyR_of w2 a2 hR ok
  · exact h.elim
theorem rd_eqr_eq {u w : U} {O : List DO} {E : ZX} {Q : ZQ} {i : Nat} {neg : Bool} : Op2.rd Γ (.eqr i neg) u w O E Q = (match w with
    | .d (.obj c ns ds) => (match Γ[i]? with
      | some (x, P) => x = (mEq, [mDot, c]) ∧ (∃ t, tyU O u = some t ∧ t ∈ ltys) ∧ callZ P [.d (.obj c ns ds), u] O (fun r O2 => boolK [r] fun b => Q [.d (.bl (b != neg))] O2) E
      | none => False)
    | _ => False) := rfl
theorem rd_eqr {B : Addr → Prop} {α : List Addr} {O : List DO} {H : Hp} {E0 : ZX} {u w : U} {v v2 : V} {i : Nat} {S : Sx} {Q0 : ZQ} {Q : VK} (g : Good X G W0 k S Γ) (w2 : Own G B α O H) (a1 : AtU G.K B α O H v u) (a2 : AtU G.K B α O H v2 w) (h : Op2.rd Γ (.eqr i false) u w O E0 Q0)
    (hq : ∀ b O', Q0 [.d (.bl b)] O' → ∀ α' H', Stp α O H α' O' H' → Own G B α' O' H' → Q (.bl b) H') (he : ELow G B W0 α O H E0) : rEqr X G k W0 v v2 H Q := by
  rw [rd_eqr_eq] at h
  split at h
  · rename_i c ns ds
    cases q : Γ[i]? with
    | none => rw [q] at h; exact h.elim
    | some pr =>
      obtain ⟨x, P⟩ := pr
      rw [q] at h
      obtain ⟨rfl, ⟨t, e1, m⟩, h⟩ := h
      obtain ⟨p, e, hc⟩ := own_low (us := [u]) (vs := [v]) (R := fun r H' => Q r H') g w2 a2 (.cons a1 .nil) q h (fun r O' h0 α' v' H' s' w' a' => by
        obtain ⟨b, e, h1⟩ := boolK_of h0
        cases e
        cases a' with
        | d a' =>
        cases a'
        rw [Bool.bne_false] at h1
        exact hq _ _ h1 _ _ s' w') he
      exact ⟨p, t, e, hc, m, by rw [g.hK]; exact tyU_of w2 a1 e1⟩
  · exact h.elim
theorem cmp2_E {o : Op2} {a b : Y} {op : CmpOp} {S : Sx} {RR : R2} {e : Expr} (g : Good X G W0 k S Γ) (da : Sd G k Γ a) (db : Sd G k Γ b) (hop : OpR X (compareOp op) RR)
    (hr : ∀ {B : Addr → Prop} {α : List Addr} {O : List DO} {H : Hp} {E0 : ZX} {u w : U} {v v2 : V} {Q0 : ZQ} {Q : VK}, Own G B α O H → AtU G.K B α O H v u → AtU G.K B α O H v2 w → Op2.rd Γ o u w O E0 Q0 → (∀ b O', Q0 [.d (.bl b)] O' → ∀ α' H', Stp α O H α' O' H' → Own G B α' O' H' → Q (.bl b) H') → ELow G B W0 α O H E0 → RR v v2 H Q)
    (c : cmpC op (ck (Γ.map (·.1)) a S).E (ck (Γ.map (·.1)) b S).E e = true) : PE X e (LfE G W0 (vc Γ (.op2 o a b))) := by
  unfold cmpC at c
  split at c
  · obtain ⟨c, c4⟩ := ba c
    obtain ⟨c, c3⟩ := ba c
    obtain ⟨c1, c2⟩ := ba c
    rw [← of_decide_eq_true c1]
    refine pe_imp (pe_cmpR hop (da.E X W0 S g _ c2) (db.E X W0 S g _ c3) (marks_of c4)) fun σ H Q ⟨B, α, ρ, O, Q0, E0, R, h, hq, hl⟩ => ?_
    refine seq2 R h hl fun u w O2 f α2 v v2 H2 s2 w2 a1 a2 => ?_
    exact hr w2 a1 a2 f (fun b O' q α' H' s' w' => hq.to q (s2.trans s') w' (.d (.bl _))) (hl.stp s2)
  · cases c
theorem cmp2_T {o : Op2} {a b : Y} {op : CmpOp} {S : Sx} {RR : R2} {e : Expr} (g : Good X G W0 k S Γ) (da : Sd G k Γ a) (db : Sd G k Γ b) (hop : OpR X (compareOp op) RR)
    (hr : ∀ {B : Addr → Prop} {α : List Addr} {O : List DO} {H : Hp} {E0 : ZX} {u w : U} {v v2 : V} {Q0 : ZQ} {Q : VK}, Own G B α O H → AtU G.K B α O H v u → AtU G.K B α O H v2 w → Op2.rd Γ o u w O E0 Q0 → (∀ b O', Q0 [.d (.bl b)] O' → ∀ α' H', Stp α O H α' O' H' → Own G B α' O' H' → Q (.bl b) H') → ELow G B W0 α O H E0 → RR v v2 H Q)
    (c : cmpC op (ck (Γ.map (·.1)) a S).E (ck (Γ.map (·.1)) b S).E e = true) : PT X e (LfT G W0 (vc Γ (.op2 o a b))) := by
  unfold cmpC at c
  split at c
  · obtain ⟨c, c4⟩ := ba c
    obtain ⟨c, c3⟩ := ba c
    obtain ⟨c1, c2⟩ := ba c
    rw [← of_decide_eq_true c1]
    refine pt_imp (pt_cmpR hop (da.E X W0 S g _ c2) (db.E X W0 S g _ c3) (marks_of c4)) fun σ H Q ⟨B, α, ρ, O, Q0, E0, R, h, hq, hl⟩ => ?_
    refine seq2 R h hl fun u w O2 f α2 v v2 H2 s2 w2 a1 a2 => ?_
    exact hr w2 a1 a2 f (fun b O' q α' H' s' w' => ⟨b, rfl, hq.to q (s2.trans s') w'⟩) (hl.stp s2)
  · cases c
theorem sd_op2 (o : Op2) {a b : Y} (da : Sd G k Γ a) (db : Sd G k Γ b) : Sd G k Γ (.op2 o a b) := by
  cases o with
  | has i neg =>
    refine ⟨fun X W0 S g e c => ?_, fun X W0 S g e c => ?_, fun X W0 S g op xs p c => (by cases c), fun X W0 S g es c => (by cases c), fun X W0 S g tg e c => (by cases c), fun X W0 S g e c => (by cases c)⟩
    · exact cmp2_E g da db (op_has (G := G) (W0 := W0) g.room (pass_of g.takes) neg) (fun w2 a1 a2 f hq he => rd_has g w2 a1 a2 f hq he) c
    · exact cmp2_T g da db (op_has (G := G) (W0 := W0) g.room (pass_of g.takes) neg) (fun w2 a1 a2 f hq he => rd_has g w2 a1 a2 f hq he) c
  | eqo i neg =>
    refine ⟨fun X W0 S g e c => ?_, fun X W0 S g e c => ?_, fun X W0 S g op xs p c => (by cases c), fun X W0 S g es c => (by cases c), fun X W0 S g tg e c => (by cases c), fun X W0 S g e c => (by cases c)⟩
    · cases neg with
      | false => exact cmp2_E g da db (op_eqo (G := G) (W0 := W0) g.room (pass_of g.takes)) (fun w2 a1 a2 f hq he => rd_eqo g w2 a1 a2 f hq he) c
      | true => exact cmp2_E g da db (op_neo (G := G) (W0 := W0) g.room (pass_of g.takes)) (fun w2 a1 a2 f hq he => rd_neo g w2 a1 a2 f hq he) c
    · cases neg with
      | false => exact cmp2_T g da db (op_eqo (G := G) (W0 := W0) g.room (pass_of g.takes)) (fun w2 a1 a2 f hq he => rd_eqo g w2 a1 a2 f hq he) c
      | true => exact cmp2_T g da db (op_neo (G := G) (W0 := W0) g.room (pass_of g.takes)) (fun w2 a1 a2 f hq he => rd_neo g w2 a1 a2 f hq he) c
  | eqr i neg =>
    refine ⟨fun X W0 S g e c => ?_, fun X W0 S g e c => ?_, fun X W0 S g op xs p c => (by obtain ⟨_, c⟩ := ba (show (!neg && cmpC .Eq (ck (Γ.map (·.1)) a S).E (ck (Γ.map (·.1)) b S).E (.BoolOp op xs p)) = true from c); cases c), fun X W0 S g es c => (by cases c), fun X W0 S g tg e c => (by cases c), fun X W0 S g e c => (by cases c)⟩
    · obtain ⟨c1, c⟩ := ba (show (!neg && cmpC .Eq (ck (Γ.map (·.1)) a S).E (ck (Γ.map (·.1)) b S).E e) = true from c)
      obtain rfl : neg = false := by simpa using c1
      exact cmp2_E g da db (op_eqr (G := G) (W0 := W0) g.room (pass_of g.takes)) (fun w2 a1 a2 f hq he => rd_eqr g w2 a1 a2 f hq he) c
    · obtain ⟨c1, c⟩ := ba (show (!neg && cmpC .Eq (ck (Γ.map (·.1)) a S).E (ck (Γ.map (·.1)) b S).E e) = true from c)
      obtain rfl : neg = false := by simpa using c1
      exact cmp2_T g da db (op_eqr (G := G) (W0 := W0) g.room (pass_of g.takes)) (fun w2 a1 a2 f hq he => rd_eqr g w2 a1 a2 f hq he) c
  | dck => exact sd_dck da db
  | dc2 x y => exact sd_dc2 x y da db
  | bino i op =>
    refine ⟨fun X W0 S g e c => (by cases c), fun X W0 S g e c => (by cases c), fun X W0 S g op xs p c => (by cases c), fun X W0 S g es c => (by cases c), fun X W0 S g tg e c => (by cases c), fun X W0 S g e c => (by cases c)⟩
/-! len(o), bool(o), repr(o), isinstance(x, C) -/
def own1Z (Γ : List (Fk × ZSp)) (i : Nat) (m : Str) (O : List DO) (E0 : ZX) (F : U → List DO → Prop) (u : U) : Prop := match u with
  | .d (.obj c ns ds) => (match Γ[i]? with
    | some (x, P) => x = (m, [mDot, c]) ∧ callZ P [.d (.obj c ns ds)] O F E0
    | none => False)
  | _ => False
theorem rd_own1 {B : Addr → Prop} {α : List Addr} {O : List DO} {H : Hp} {E0 : ZX} {i : Nat} {m : Str} {S : Sx} {R : VK} {u : U} {v : V} {F : U → List DO → Prop} (g : Good X G W0 k S Γ) (w : Own G B α O H) (a : AtU G.K B α O H v u)
    (h : own1Z Γ i m O E0 F u) (hq : ∀ u O', F u O' → ∀ α' v H', Stp α O H α' O' H' → Own G B α' O' H' → AtU G.K B α' O' H' v u → R v H') (he : ELow G B W0 α O H E0) : ∃ p, v = .ref p ∧ OwnCall1 X G k W0 m p H R := by
  unfold own1Z at h
  split at h
  · rename_i c ns ds
    cases q : Γ[i]? with
    | none => rw [q] at h; exact h.elim
    | some pr =>
      obtain ⟨x, P⟩ := pr
      rw [q] at h
      obtain ⟨rfl, h⟩ := h
      exact own_low1 g w a q h hq he
  · exact h.elim
def iscZ (O : List DO) (Q : ZQ) (C : Str) (u : U) : Prop := match u with
  | .d (.obj c _ _) => c = C ∧ Q [.d (.bl true)] O
  | u => ∃ t, tyU O u = some t ∧ t ∈ ltys ∧ Q [.d (.bl false)] O
theorem rd_isc {i : Nat} {u : U} {O : List DO} {E : ZX} {Q : ZQ} {C : Str} {al : List Str} {P : ZSp} (h : Op1.rd Γ (.isc i) u O E Q) (q : Γ[i]? = some ((C, al), P)) : iscZ O Q C u := by
  unfold Op1.rd at h
  simp only [q] at h
  exact h
def fmtZ (O : List DO) (Q : ZQ) (u : U) : Prop := match u with
  | .d (.str y) => y.length ≤ 65536 ∧ Q [.d (.str y)] O
  | .d (.int i) => i.natAbs.log2 < 1920 ∧ Q [.d (.str (toString i))] O
  | _ => False
theorem rd_fmt {u : U} {O : List DO} {E : ZX} {Q : ZQ} (h : Op1.rd Γ .fmt u O E Q) : fmtZ O Q u := h
theorem sd_op1 (o : Op1) {a : Y} (da : Sd G k Γ a) : Sd G k Γ (.op1 o a) := .ofE _ (fun _ => rfl) fun X W0 S g e c => by
  have c : o.C (Γ.map (·.1)) S.sc (ck (Γ.map (·.1)) a S).E e = true := c
  cases o with
  | len i =>
    unfold Op1.C at c
    split at c <;> try (first | contradiction | (cases c; done))
    · obtain ⟨c, c4⟩ := ba c
      obtain ⟨c, c3⟩ := ba c
      obtain ⟨c1, c2⟩ := ba c
      have c1 := of_decide_eq_true c1
      simp only [Op1.nm] at c1
      subst c1
      refine pe_imp (pe_callB (cr_lenO (G := G) (k := k) (W0 := W0) g.room (pass_of g.takes)) (glo_of g c2) (g.free "len" (by decide)) (by decide +kernel) (pa_one (da.E X W0 S g _ c4) c3) (by decide) (by decide) (starEach_plain c3) rfl) fun σ H Q ⟨B, α, ρ, O, Q0, E0, R, h, hq, hl⟩ => ?_
      refine seqE R h hl fun u O1 f α1 v H1 s1 w1 a1 => ?_
      obtain ⟨p, e, hc⟩ := rd_own1 (F := fun r O2 => ∃ n : Int, r = .d (.int n) ∧ (0 ≤ n ∧ n < 2 ^ 63) ∧ Q0 [.d (.int n)] O2) (R := fun r H' => ∃ n : Int, r = .int n ∧ (0 ≤ n ∧ n < 2 ^ 63) ∧ Q (.int n) H') g w1 a1 (show own1Z Γ i mLen O1 E0 _ u from f) (fun r O' ⟨n, e1, hn, q⟩ α' v' H' s' w' a' => by
        subst e1
        cases a' with
        | d a' =>
        cases a'
        exact ⟨n, rfl, hn, hq.to q (s1.trans s') w' (.d (.int _))⟩) (hl.stp s1)
      subst e
      exact ⟨p, rfl, hc⟩
  | boo i =>
    unfold Op1.C at c
    split at c <;> try (first | contradiction | (cases c; done))
    · obtain ⟨c, c4⟩ := ba c
      obtain ⟨c, c3⟩ := ba c
      obtain ⟨c1, c2⟩ := ba c
      have c1 := of_decide_eq_true c1
      simp only [Op1.nm] at c1
      subst c1
      refine pe_imp (pe_callTy (cr_booO (G := G) (k := k) (W0 := W0) g.room (pass_of g.takes)) (glo_of g c2) (g.free "bool" (by decide)) (by decide +kernel) (pa_one (da.E X W0 S g _ c4) c3) (by decide) (by decide) (starEach_plain c3) rfl) fun σ H Q ⟨B, α, ρ, O, Q0, E0, R, h, hq, hl⟩ => ?_
      refine seqE R h hl fun u O1 f α1 v H1 s1 w1 a1 => ?_
      obtain ⟨p, e, hc⟩ := rd_own1 (F := fun r O2 => boolK [r] fun b => Q0 [.d (.bl b)] O2) (R := fun r H' => ∃ b, r = .bl b ∧ Q (.bl b) H') g w1 a1 (show own1Z Γ i mBool O1 E0 _ u from f) (fun r O' h0 α' v' H' s' w' a' => by
        obtain ⟨b, e1, q⟩ := boolK_of h0
        cases e1
        cases a' with
        | d a' =>
        cases a'
        exact ⟨b, rfl, hq.to q (s1.trans s') w' (.d (.bl _))⟩) (hl.stp s1)
      subst e
      exact ⟨p, rfl, hc⟩
  | rep i =>
    unfold Op1.C at c
    split at c <;> try (first | contradiction | (cases c; done))
    · obtain ⟨c, c4⟩ := ba c
      obtain ⟨c, c3⟩ := ba c
      obtain ⟨c1, c2⟩ := ba c
      have c1 := of_decide_eq_true c1
      simp only [Op1.nm] at c1
      subst c1
      refine pe_imp (pe_callB (cr_repO (G := G) (k := k) (W0 := W0) g.room (pass_of g.takes)) (glo_of g c2) (g.free "repr" (by decide)) (by decide +kernel) (pa_one (da.E X W0 S g _ c4) c3) (by decide) (by decide) (starEach_plain c3) rfl) fun σ H Q ⟨B, α, ρ, O, Q0, E0, R, h, hq, hl⟩ => ?_
      refine seqE R h hl fun u O1 f α1 v H1 s1 w1 a1 => ?_
      obtain ⟨p, e, hc⟩ := rd_own1 (F := fun r O2 => ∃ z : Str, r = .d (.str z) ∧ Q0 [.d (.str z)] O2) (R := fun r H' => ∃ z, r = .str z ∧ Q (.str z) H') g w1 a1 (show own1Z Γ i mRepr O1 E0 _ u from f) (fun r O' ⟨z, e1, q⟩ α' v' H' s' w' a' => by
        subst e1
        cases a' with
        | d a' =>
        cases a'
        exact ⟨z, rfl, hq.to q (s1.trans s') w' (.d (.str _))⟩) (hl.stp s1)
      subst e
      exact ⟨p, rfl, hc⟩
  | isc i =>
    unfold Op1.C at c
    split at c <;> try (first | contradiction | (cases c; done))
    · rename_i x p0 a' C p2 p3 hA hB
      cases hA
      clear hB
      obtain ⟨c, c7⟩ := ba c
      obtain ⟨c, c6⟩ := ba c
      obtain ⟨c, c5⟩ := ba c
      obtain ⟨c, c4⟩ := ba c
      obtain ⟨c, c3⟩ := ba c
      obtain ⟨c1, c2⟩ := ba c
      have c1 := of_decide_eq_true c1
      subst c1
      obtain ⟨P, al, q, hm, hc⟩ : ∃ P al, Γ[i]? = some ((C, al), P) ∧ X.mg C = some (.ref (He.ga X.K C)) ∧ ∃ ns, OkC X.K C ns := by
        unfold isMk at c7
        rw [List.getElem?_map] at c7
        cases q : Γ[i]? with
        | none => rw [q] at c7; cases c7
        | some pr =>
          obtain ⟨⟨x, al⟩, P⟩ := pr
          rw [q] at c7
          cases al with
          | nil => cases c7
          | cons a0 al =>
            have c7 : (decide (x = C) && decide (a0 = mAt) && decide (al.getLast? = some mDot) && !al.dropLast.contains mDot) = true := c7
            obtain ⟨c7, _⟩ := ba c7
            obtain ⟨c7, _⟩ := ba c7
            obtain ⟨e1, e2⟩ := ba c7
            have e1 := of_decide_eq_true e1
            have e2 := of_decide_eq_true e2
            subst e1
            subst e2
            have h := g.fns i _ P q
            rcases h with h | ⟨c', f, ks', j, e, h1, _, h2⟩ | ⟨f, al', ks', j, e, h0, h1, h2, h3, h4, h5⟩
            · exact absurd h.1 (by show ¬ mkd _ = false; rw [mkd]; decide)
            · exact absurd (List.cons.inj e).1 (by decide)
            · exact ⟨P, _, rfl, h1, al', h3⟩
      obtain ⟨ns0, hc⟩ := hc
      have F := opF_of hc.2.2
      refine pe_imp (pe_callB (cr_isc (He.ga X.K C)) (glo_of g c2) (g.free "isinstance" (by decide)) (by decide +kernel) (pa_two (da.E X W0 S g _ c4) (pe_glob (v := .ref (He.ga X.K C)) (glo_of g c5) hm rfl (okn_of c6).1) c3 rfl) (by decide) (by decide) (starEach_plain c3) rfl) fun σ H Q ⟨B, α, ρ, O, Q0, E0, R, h, hq, hl⟩ => ?_
      refine seqE R h hl fun u O1 f α1 v H1 s1 w1 a1 => ?_
      have f := rd_isc f q
      unfold iscZ at f
      split at f
      · obtain ⟨rfl, f⟩ := f
        cases a1 with
        | d a1 =>
        cases a1 with
        | obj e mo ok hn r =>
          exact ⟨_, _, true, rfl, by rw [g.hK]; exact ty_ins e ok, by rw [← g.hK]; exact F.ks, hq.to f s1 w1 (.d (.bl _))⟩
      · obtain ⟨t, e1, m, f⟩ := f
        exact ⟨_, _, false, rfl, by rw [g.hK]; exact tyU_of w1 a1 e1, (F.nt t m).2, hq.to f s1 w1 (.d (.bl _))⟩
  | fmt =>
    unfold Op1.C at c
    split at c <;> try (first | contradiction | (cases c; done))
    · refine pe_imp (pe_fmt (da.E X W0 S g _ c)) fun σ H Q ⟨B, α, ρ, O, Q0, E0, R, h, hq, hl⟩ => ?_
      refine seqE R h hl fun u O1 f α1 v H1 s1 w1 a1 => ?_
      have f := rd_fmt f
      unfold fmtZ at f
      split at f
      · obtain ⟨f1, f⟩ := f
        cases a1 with
        | d a1 =>
        cases a1
        exact .inl ⟨_, rfl, Nat.le_trans f1 (by decide), hq.to f s1 w1 (.d (.str _))⟩
      · obtain ⟨f1, f⟩ := f
        cases a1 with
        | d a1 =>
        cases a1
        exact .inr ⟨_, rfl, f1, hq.to f s1 w1 (.d (.str _))⟩
      · exact f.elim
/-! a look at owned places as data -/
theorem vw_go {O : List DO} {i : Nat} {o : DO} (e : (vwO O)[i]? = some o) : ∃ o', O[i]? = some o' ∧ o = o'.vw := by
  unfold vwO at e
  rw [List.getElem?_map] at e
  cases q : O[i]? with
  | none => rw [q] at e; cases e
  | some o' => rw [q] at e; exact ⟨o', rfl, (Option.some.inj e).symm⟩
theorem noObs_at {O : List DO} {i : Nat} {o : DO} (h : noObs O = true) (e : O[i]? = some o) : ∀ c fs, o ≠ .ob c fs := by
  intro c fs z
  have := List.all_eq_true.mp h o (List.mem_of_getElem? e)
  rw [z] at this
  cases this
theorem vw_cold {α : List Addr} {O : List DO} (h : noObs O = true) {b : Addr} : ¬ Ho α (vwO O) b := by
  rintro ⟨k, o, e1, e2, hh⟩
  obtain ⟨o', e3, rfl⟩ := vw_go e2
  cases o' with
  | lst ds => cases hh
  | frz ds => cases hh
  | brw ds => cases hh
  | ob c fs => exact noObs_at h e3 c fs rfl
theorem vw_ow {α : List Addr} {O : List DO} {b : Addr} : Ow α (vwO O) b → Ow α O b := by
  rintro ⟨k, o, e1, e2, hh⟩
  obtain ⟨o', e3, rfl⟩ := vw_go e2
  refine ⟨k, o', e1, e3, ?_⟩
  cases o' <;> first | exact hh | cases hh
theorem vw_stp {α : List Addr} {O : List DO} {H : Hp} (h : noObs O = true) : Stp α O H α (vwO O) H :=
  ⟨⟨[], by simp⟩, fun _ _ e _ _ => e, fun _ e => e, fun b m => .inl (vw_ow m), fun b m => (vw_cold h m).elim, fun _ m => .inl m⟩
theorem vw_own {B : Addr → Prop} {α : List Addr} {O : List DO} {H : Hp} (w : Own G B α O H) (h : noObs O = true) : Own G B α (vwO O) H := by
  have hm : ∀ b, Mu B α (vwO O) b → Mu B α O b := fun b m => m.elim .inl fun z => .inr (vw_ow z)
  refine ⟨by rw [w.len]; exact (List.length_map ..).symm, w.nd, fun i a o e1 e2 => ?_, w.bt, fun a m => w.nb a (vw_ow m), w.tabs⟩
  obtain ⟨o', e3, rfl⟩ := vw_go e2
  have q := w.at_ i a o' e1 e3
  cases o' with
  | lst ds =>
    obtain ⟨vs, e4, r⟩ := q
    refine .lst e4 ?_ (r.less hm)
    rintro (m | ⟨j, o, f1, f2, lo⟩)
    · exact w.nb a ⟨i, _, e1, e3, rfl⟩ m
    · obtain ⟨o2, f3, rfl⟩ := vw_go f2
      have hi := (List.getElem?_eq_some_iff.mp e1).1
      have hj := (List.getElem?_eq_some_iff.mp f1).1
      have : i = j := (List.getElem_inj w.nd).mp ((List.getElem?_eq_some_iff.mp e1).2.trans (List.getElem?_eq_some_iff.mp f1).2.symm)
      subst this
      rw [e3] at f3
      cases f3
      cases lo
  | frz ds => exact OAt.less (o := .frz ds) hm q
  | brw ds => exact OAt.less (o := .brw ds) hm q
  | ob c fs => exact absurd rfl (noObs_at h e3 c fs)
theorem vw_back {B : Addr → Prop} {α α' : List Addr} {O O' : List DO} {H H' : Hp} (w : Own G B α O H) (h : noObs O = true) (s : Stp α (vwO O) H α' O' H') (w' : Own G B α' O' H') : Stp α O H α O H' ∧ Own G B α O H' := by
  have S : Stp α O H α O H' := ⟨⟨[], by simp⟩, fun b o e _ nt => s.keep b o e (vw_cold h) nt, s.there, fun _ m => .inl m, fun _ m => .inl m, fun _ m => .inl m⟩
  refine ⟨S, w.len, w.nd, fun i a o e1 e2 => ?_, w'.bt, w.nb, w'.tabs⟩
  refine OAt.stp S (w.at_ i a o e1 e2) fun lo => ?_
  have q := w.at_ i a o e1 e2
  cases o with
  | lst ds => obtain ⟨vs, e4, _⟩ := q; rw [e4]; exact s.keep _ _ e4 (vw_cold h) (fun _ z => by cases z)
  | frz ds => cases lo
  | brw ds => obtain ⟨vs, e4, _⟩ := q; rw [e4]; exact s.keep _ _ e4 (vw_cold h) (fun _ z => by cases z)
  | ob c fs => exact absurd rfl (noObs_at h e2 c fs)
theorem sd_vw {z : Y} (dz : Sd G k Γ z) : Sd G k Γ (.vw z) := .ofE _ (fun _ => rfl) fun X W0 S g e c => by
  have c : (ck (Γ.map (·.1)) z S).E e = true := c
  refine pe_imp (dz.E X W0 S g _ c) fun σ H Q ⟨B, α, ρ, O, Q0, E0, R, h, hq, hl⟩ => ?_
  obtain ⟨hn, h⟩ := (show noObs O = true ∧ vc Γ z E0 ρ (vwO O) fun us _ => oneK us fun u => ∃ d, u = .d d ∧ scal d = true ∧ Q0 [.d d] O from h)
  have s0 := vw_stp (α := α) (H := H) hn
  have w0 := vw_own R.own hn
  refine seqE (R.stp s0 w0) h (hl.stp s0) fun u O1 ⟨d, e1, hs, f⟩ α1 v H1 s1 w1 a1 => ?_
  subst e1
  obtain ⟨S, W⟩ := vw_back R.own hn s1 w1
  refine hq.to f S W (.d ?_)
  cases a1 with
  | d a1 => cases a1 <;> first | exact .non | exact .bl _ | exact .int _ | exact .str _ | cases hs
/-! f-strings -/
theorem sd_jc {a r : Y} (da : Sd G k Γ a) (dr : Sd G k Γ r) : Sd G k Γ (.jc a r) where
  E := fun X W0 S g e c => by cases c
  T := fun X W0 S g e c => by cases c
  W := fun X W0 S g op xs p c => by cases c
  A := fun X W0 S g es c => by
    have c' : consC (ck (Γ.map (·.1)) a S).E (ck (Γ.map (·.1)) r S).A es = true := c
    unfold consC at c'
    split at c'
    · obtain ⟨c', c3⟩ := ba c'
      obtain ⟨c1, c2⟩ := ba c'
      refine pa_imp (pa_cons (da.E X W0 S g _ c2) (dr.A X W0 S g _ c3) (starEach_plain c1)) fun σ H Q ⟨B, α, ρ, O, Q0, E0, R, h, hq, hl⟩ => ?_
      refine seqE R h hl fun u O1 ⟨y, e, _, f⟩ α1 v H1 s1 w1 a1 => ?_
      subst e
      exact seqA (R.stp s1 w1) f (hl.stp s1) fun us O2 f2 α2 vs H2 s2 w2 a2 => hq _ _ f2 _ _ _ (s1.trans s2) w2 (.cons (s2.atU a1) a2)
    · cases c'
  I := fun X W0 S g tg e c => by cases c
  O := fun X W0 S g e c => by cases c
theorem sk_jc {a r : Y} (da : Sd G k Γ a) (dr : SdK G k Γ r) : SdK G k Γ (.jc a r) := ⟨fun X W0 S g kws c n => by
  cases kws with
  | nil => cases c
  | cons w kws =>
    obtain ⟨nm, e, kp⟩ := w
    obtain ⟨c', c3⟩ := ba (show (noStar e && (ck (Γ.map (·.1)) a S).E e && (ck (Γ.map (·.1)) r S).A (kws.map (·.value))) = true from c)
    obtain ⟨c1, c2⟩ := ba c'
    rw [List.all_cons] at n
    refine pk_imp (pk_cons (da.E X W0 S g _ c2) (dr.K X W0 S g _ c3 (ba n).2)) fun σ H Q ⟨B, α, ρ, O, Q0, E0, R, h, hq, hl⟩ => ?_
    refine seqE R h hl fun u O1 ⟨y, e, _, f⟩ α1 v H1 s1 w1 a1 => ?_
    subst e
    exact seqA (R.stp s1 w1) f (hl.stp s1) fun us O2 f2 α2 vs H2 s2 w2 a2 => hq _ _ f2 _ _ _ (s1.trans s2) w2 (.cons (s2.atU a1) a2)⟩
/-- the parts of an f-string -/
def SdJ (G : Gx) (k : Nat) (Γ : List (Fk × ZSp)) (z : Y) : Prop := partsJ z = true → ∀ X W0 S, Good X G W0 k S Γ → ∀ xs : List Expr, (ck (Γ.map (·.1)) z S).A xs = true → ∃ ts, PJ X xs ts ∧
  ∀ (σ : L2.St) (H : Hp) (B : Addr → Prop) (α : List Addr) (ρ : List (Option U)) (O : List DO) (F : ZQ) (E0 : ZX) (acc : Str) (Q : Str → Hp → Prop), Rep G B α σ H ρ O → vc Γ z E0 ρ O F → ELow G B W0 α O H E0 → acc.length + 65536 * xs.length ≤ sizeLine →
    (∀ us O', F us O' → ∀ zs : List Str, us = zs.map (fun z => .d (.str z)) → ∀ α' H', Stp α O H α' O' H' → Own G B α' O' H' → Q (zs.foldl (· ++ ·) acc) H') → tJs ts acc σ H Q
theorem sj_none {z : Y} (h : partsJ z = false) : SdJ G k Γ z := fun c => by rw [h] at c; cases c
theorem sj_nil : SdJ G k Γ .nil := fun _ X W0 S g xs c => by
  cases xs with
  | cons _ _ => cases c
  | nil => exact ⟨[], .nil, fun σ H B α ρ O F E0 acc Q R h hl hz hq => hq [] O h [] rfl _ _ Stp.refl R.own⟩
theorem str_app_len (a b : Str) : (a ++ b).length = a.length + b.length := by
  first | exact Str.length_append .. | simp
theorem sj_cons {a r : Y} (da : Sd G k Γ a) (dr : SdJ G k Γ r) : SdJ G k Γ (.jc a r) := fun cp X W0 S g xs c => by
  cases xs with
  | nil => cases c
  | cons e es =>
    obtain ⟨c', c3⟩ := ba (show (noStar e && (ck (Γ.map (·.1)) a S).E e && (ck (Γ.map (·.1)) r S).A es) = true from c)
    obtain ⟨c1, c2⟩ := ba c'
    obtain ⟨ts, hp, hh⟩ := dr cp X W0 S g es c3
    refine ⟨_, .cons (da.E X W0 S g _ c2) hp, fun σ H B α ρ O F E0 acc Q R h hl hz hq => ?_⟩
    refine seqE R h hl fun u O1 ⟨y, e1, hy, f⟩ α1 v H1 s1 w1 a1 => ?_
    subst e1
    cases a1 with
    | d a1 =>
    cases a1
    rw [List.length_cons] at hz
    have hl2 := str_app_len acc y
    refine ⟨y, rfl, by omega, hh σ H1 B α1 ρ O1 _ E0 (acc ++ y) Q (R.stp s1 w1) f (hl.stp s1) (by omega) fun us O' f2 zs e2 α' H' s' w' => ?_⟩
    exact hq _ _ f2 (y :: zs) (by rw [e2]; rfl) _ _ (s1.trans s') w'
theorem sd_jst {es : Y} (de : Sd G k Γ es) (dj : SdJ G k Γ es) : Sd G k Γ (.jst es) := .ofE _ (fun _ => rfl) fun X W0 S g e c => by
  split at c
  · obtain ⟨c, c3⟩ := ba c
    obtain ⟨c1, c2⟩ := ba c
    have c2 := of_decide_eq_true c2
    obtain ⟨ts, hp, hh⟩ := dj c1 X W0 S g _ c3
    refine pe_imp (pe_joined hp) fun σ H Q ⟨B, α, ρ, O, Q0, E0, R, h, hq, hl⟩ => ?_
    refine hh σ H B α ρ O _ E0 Str.empty _ R h hl ?_ fun us O' ⟨zs', e1, f⟩ zs e2 α' H' s' w' => ?_
    · rw [List.length_cons, List.length_cons]
      show 0 + _ ≤ 2 ^ 24
      omega
    · have e3 : zs' = zs := by
        have e4 := e1.symm.trans e2
        clear e1 e2 f
        induction zs' generalizing zs with
        | nil => cases zs with
          | nil => rfl
          | cons _ _ => cases e4
        | cons x xs ih => cases zs with
          | nil => cases e4
          | cons y ys =>
            rw [List.map_cons, List.map_cons] at e4
            obtain ⟨h1, h2⟩ := List.cons.inj e4
            cases h1
            rw [ih ys h2]
      subst e3
      exact hq.to f s' w' (.d (.str _))
  · cases c
end
end Z

set_option Elab.async false
set_option linter.all false
set_option maxRecDepth 100000
set_option maxHeartbeats 4000000
namespace Z
open PySem PySem.Spec PyProof.Rows L2
/-! ### an error is made and stays a value -/
theorem initD_of {K : PySem.W.Frag} {M : Addr → Prop} {H : Hp} {vs : List V} {ds : List Z.D} (r : Ats K M H vs ds) : ∀ {fl : List (Str × XSrc)} {fs : List (Str × Z.D)}, initD ds fl = some fs → ∃ gs, initFs vs fl = some gs ∧ gs.map (·.1) = fs.map (·.1) ∧ Ats K M H (gs.map (·.2)) (fs.map (·.2))
  | [], fs, h => by cases h; exact ⟨[], rfl, rfl, .nil⟩
  | (f, .arg i) :: fl, fs, h => by
    rw [initD] at h
    split at h
    · rename_i v gs h1 h2
      cases h
      obtain ⟨x, e1, a1⟩ := r.get' h1
      obtain ⟨xs, e2, e3, a2⟩ := initD_of r h2
      exact ⟨(f, x) :: xs, by rw [initFs, e1, e2], by rw [List.map_cons, List.map_cons, e3], .cons a1 a2⟩
    · cases h
  | (f, .str z) :: fl, fs, h => by
    rw [initD] at h
    split at h
    · rename_i gs h2
      cases h
      obtain ⟨xs, e2, e3, a2⟩ := initD_of r h2
      exact ⟨(f, .str z) :: xs, by rw [initFs, e2], by rw [List.map_cons, List.map_cons, e3], .cons (.str z) a2⟩
    · cases h
theorem mk_val {X : Cx} {pins : List (Addr × Obj)} {σ : L2.St} {H1 : Hp} {s1 : Shared} {Q : VK} {us : List Value} {vs : List V} {e : XcD} {fs : List (Str × V)} (W : XcF X.prog X.w X.K X.mg X.base e) (hr : Room 2 X.A) (I1 : Inv X pins σ H1 s1) (r1 : Vals vs us) (hn : vs.length = e.n) (hi : initFs vs e.fl = some fs)
    (q1 : ∀ a d, H1 a = none → H1 d = none → d ≠ a → Q (.ref a) (upd (upd H1 d (exd d fs.reverse)) a (exo a (He.ga X.K e.nm) (some d)))) : wpAny (model X.prog X.w) X.A (call (.ref (He.ga X.K e.nm)) us) (EP X pins σ Q) X.xe s1 := by
  obtain ⟨fI, fd, ps, iC, tI, F1, hb⟩ := W.ini
  obtain ⟨C, hC0⟩ : ∃ C, C = He.ga X.K e.nm := ⟨_, rfl⟩
  have T := W.T
  rw [← hC0] at iC F1 T q1 ⊢
  obtain ⟨nm, q, N, bs, bm, sn, sub, ab, col, dd, k0, k1, k2, k3, k5, hC, hbm⟩ := T.cls
  obtain ⟨hp, g, dr, tk, os⟩ := s1
  obtain ⟨a, hA⟩ : ∃ a, a = hp.objs.size + 1 := ⟨_, rfl⟩
  have big : hp.objs.size ≤ a := by omega
  have hnone : H1 a = none := I1.hok.fresh big
  have kk : ∀ b o, hp.get? b = some o → ((hp.push (PySem.W.kdv_tup us)).push (PySem.HandSPX.excO C hp.objs.size)).get? b = some o := fun b o e => Heap.get?_push_of_some _ (Heap.get?_push_of_some _ e)
  have hget : ((hp.push (PySem.W.kdv_tup us)).push (PySem.HandSPX.excO C hp.objs.size)).get? a = some (PySem.HandSPX.excO C hp.objs.size) := by
    rw [hA]
    heap_get
  have J : Inv X pins σ (upd H1 a (exo a C none)) ⟨(hp.push (PySem.W.kdv_tup us)).push (PySem.HandSPX.excO C hp.objs.size), g, dr, tk, os⟩ := I1.laid (t' := tk) kk big (exo_ok hget)
  have sp : initSp C e (V.ref a :: vs) (upd H1 a (exo a C none)) (fun v H2 => v = .non ∧ Q (.ref a) H2) fun _ _ _ => False := by
    refine ⟨a, vs, fs, rfl, hn, hi, upd_same, fun dx H' hd hh => ⟨rfl, ?_⟩⟩
    have hda : dx ≠ a := fun z => by
      rw [z, upd_same] at hd
      cases hd
    have hd1 : H1 dx = none := by rw [upd_ne hda] at hd; exact hd
    have eq : H' = upd (upd H1 dx (exd dx fs.reverse)) a (exo a C (some dx)) := by
      funext b
      by_cases h2 : b = a
      · rw [h2, upd_same]
        exact hh.ea
      · rw [upd_ne h2]
        by_cases h1 : b = dx
        · rw [h1, upd_same]
          exact hh.ed
        · rw [hh.all b h2 h1, upd_ne h2, upd_ne h1]
    rw [eq]
    exact q1 a dx hnone hd1 hda
  have rr : Vals (V.ref a :: vs) (Value.ref a :: us) := .cons rfl r1
  have hl : (Value.ref a :: us ++ []).length = ps.length := by
    rw [List.append_nil, ← rr.length]
    exact F1.len _ _ _ _ sp
  have bT := hb _ (Value.ref a :: us) J.kIn hl
  rw [List.append_nil] at bT
  have hus : us.length ≤ sizeLine := by
    rw [← r1.length, hn, sizeLine_eq]
    have := W.n
    omega
  have ap : hp.objs.size + 1 = a := hA.symm
  refine wpAny_call (PySem.HandSPX.call_own F.excBase_ValueError (fun Y => PySem.HandSPX.refsVE_contains Y bm hbm) (I1.kIn _ _ hC) (PySem.W.looks_findIn I1.kIn iC) (fun self => PySem.W.bind_fn I1.kIn self tI) hus ?_)
  rw [ap]
  refine codeAny_mono (F1.run _ X.stack _ _ ⟨Value.ref a :: us, []⟩ (Value.ref a :: us) _ _ (fun _ _ _ => False) (hr.make C us []) (J.env0.make C us []) bT rr sp) fun r t hq => ?_
  cases r with
  | error er =>
    obtain ⟨_, _, _, _, _, _, _, _, _, _, _, _, z⟩ := (show L2.CX X.prog X.w X.stack _ _ (fun _ _ _ => False) er t from hq)
    exact z.elim
  | ok fl =>
    cases fl with
    | ret u =>
      obtain ⟨v, H2, J2, rv, ev, q2⟩ := J.after (Q := fun v H2 => v = .non ∧ Q (.ref a) H2) hq
      subst ev
      exact ⟨rv, .ref a, H2, J2, rfl, q2⟩
    | next => exact False.elim hq
    | brk => exact False.elim hq
    | cont => exact False.elim hq
theorem initFs_names {ws : List V} : ∀ {fl : List (Str × XSrc)} {fs : List (Str × V)}, initFs ws fl = some fs → fs.map (·.1) = fl.map (·.1)
  | [], fs, h => by cases h; rfl
  | (f, .arg i) :: r, fs, h => by
    rw [initFs] at h
    split at h
    · rename_i v gs h1 h2
      cases h
      show f :: _ = f :: _
      rw [initFs_names h2]
    · cases h
  | (f, .str z) :: r, fs, h => by
    rw [initFs] at h
    split at h
    · rename_i gs h2
      cases h
      show f :: _ = f :: _
      rw [initFs_names h2]
    · cases h
section
variable {G : Gx} {k : Nat} {Γ : List (Fk × ZSp)}
theorem sd_xv (e : XcD) {es : Y} (de : Sd G k Γ es) : Sd G k Γ (.xv e es) := .ofE _ (fun _ => rfl) fun X W0 S g ex c => by
  have read : ∀ (σ : L2.St) (H : Hp) (Q : VK), LfE G W0 (vc Γ (.xv e es)) σ H Q → LfA G W0 (vc Γ es) σ H fun vs H1 => vs.length = e.n ∧ ∃ gs, initFs vs e.fl = some gs ∧ ∀ a d, H1 a = none → H1 d = none → d ≠ a → XcF X.prog X.w X.K X.mg X.base e → Q (.ref a) (upd (upd H1 d (exd d gs.reverse)) a (exo a (He.ga X.K e.nm) (some d))) := by
    rintro σ H Q ⟨B, α, ρ, O, Q0, E0, R, h, hq, hl⟩
    refine seqA R h hl fun us O1 f α1 vs H1 s1 w1 a1 => ?_
    obtain ⟨ds, e1, hn, fs, e2, f⟩ := tosK_of f
    have r := Ats.of w1 a1 e1
    obtain ⟨gs, e3, e4, r2⟩ := initD_of r e2
    refine ⟨by rw [r.length]; exact hn, gs, e3, fun a d ha hd hda W => ?_⟩
    have sd := stp_new (α := α1) (O := O1) (o := exd d gs.reverse) hd
    have wd := own_new (o := exd d gs.reverse) w1 hd
    have ha2 : upd H1 d (exd d gs.reverse) a = none := by rw [upd_ne (Ne.symm hda)]; exact ha
    have sa := stp_new (α := α1) (O := O1) (o := exo a (He.ga X.K e.nm) (some d)) ha2
    have wa := own_new (o := exo a (He.ga X.K e.nm) (some d)) wd ha2
    refine hq.to f (s1.trans (sd.trans sa)) wa (.d ?_)
    refine .exc (fs := gs.reverse) (by rw [← g.hK]; exact upd_same) (by rw [upd_ne hda, upd_same]) (wd.mu_ne ha2) (w1.mu_ne hd) ?_ ?_ ?_
    · rw [← g.hK]
      refine ⟨W.ok.1, fun f hf => W.ok.2 f ?_⟩
      rw [List.map_reverse, List.mem_reverse, ← e4] at hf
      exact initFs_names e3 ▸ hf
    · rw [List.map_reverse, List.map_reverse, e4]
    · rw [List.map_reverse, List.map_reverse]
      exact sa.ats (sd.ats r2.reverse)
  split at c
  · obtain ⟨c, c8⟩ := ba c
    obtain ⟨c, c7⟩ := ba c
    obtain ⟨c, c6⟩ := ba c
    obtain ⟨c, c5⟩ := ba c
    obtain ⟨c, c4⟩ := ba c
    obtain ⟨c, c3⟩ := ba c
    obtain ⟨c1, c2⟩ := ba c
    cases of_decide_eq_true c2
    have W := g.xs e (of_decide_eq_true c3)
    refine ⟨fun pins s σ H Q I h => ?_⟩
    refine wpAny_Call_Name_kw (ld_glob I (glo_of g c4) W.hm ?_ (okn_of c5).1)
    refine PySem.W.callWith_K (h₀ := X.base) I.ok.mod.kin W.T.kC (thn ((de.A X W0 S g _ c8).run _ pins s σ H _ I (read σ H Q h)) fun us s1 ⟨vs, H1, I1, r, hn, gs, e3, q⟩ => ⟨I1.kIn, ?_⟩) (starEach_plain c6) (any_plain c7)
    exact mk_val W (g.mkx c1) I1 r hn e3 fun a d ha hd hda => q a d ha hd hda W
  · obtain ⟨c, c6⟩ := ba c
    obtain ⟨c, c5⟩ := ba c
    obtain ⟨c, c4⟩ := ba c
    obtain ⟨c, c3⟩ := ba c
    obtain ⟨c1, c2⟩ := ba c
    cases of_decide_eq_true c2
    have W := g.xs e (of_decide_eq_true c3)
    refine ⟨fun pins s σ H Q I h => ?_⟩
    refine wpAny_Call_Name_kw (ld_glob I (glo_of g c4) W.hm ?_ (okn_of c5).1)
    refine PySem.W.callWith_K0 I.kIn W.T.kC ?_
    have en : es = .nil := by
      cases es <;> first | rfl | cases c6 | (rename_i o _ _; cases o <;> cases c6)
    subst en
    obtain ⟨B, α, ρ, O, Q0, E0, R, h, hq, hl⟩ := read σ H Q h
    obtain ⟨hn, gs, e3, q⟩ := hq _ _ h _ _ _ Stp.refl R.own .nil
    exact mk_val (us := []) W (g.mkx c1) I .nil hn e3 fun a d ha hd hda => q a d ha hd hda W
  · cases c
end
end Z

set_option Elab.async false
set_option linter.all false
set_option maxRecDepth 100000
set_option maxHeartbeats 4000000
namespace Z
open PySem PySem.Spec PyProof.Rows L2
section
variable {G : Gx} {k : Nat} {Γ : List (Fk × ZSp)}
theorem sd_dic1 (x : Str) {z : Y} (dz : Sd G k Γ z) : Sd G k Γ (.dic1 x z) := .ofE _ (fun _ => rfl) fun X W0 S g e c => by
  split at c
  · obtain ⟨c1, c2⟩ := ba c
    cases of_decide_eq_true c1
    refine pe_imp (pe_frz (pe_disp (pps_cons pe_str (dz.E X W0 S g _ c2) pps_nil) rfl rfl (by simp) (by simp))) fun σ H Q ⟨B, α, ρ, O, Q0, E0, R, h, hq, hl⟩ p hp => ?_
    have key := more_key (B := B) (α := α) (O := O) (x := .dK []) hp
    refine seqE (B := fun b => B b ∨ b = p) (α := α) (ρ := ρ) (O := O) ⟨fun i u e => ?_, ownD_more R.own hp, R.len⟩ h (fun y O' q α' cls dd H' s w a => ?_) fun u O1 f α1 v H2 s1 w1 a1 => ?_
    · obtain ⟨v, e1, a1⟩ := R.vars i u e
      exact ⟨v, e1, AtU.later (fun _ _ e => e) key a1⟩
    · obtain ⟨e1, dx, fs, e2, e3, e4, e5, e6⟩ := a
      have k2 : ∀ a o, ¬ Mu (fun b => B b ∨ b = p) α' O' a → H' a = some o → (∀ ps, o ≠ .tbl ps) → H' a = some o ∧ ¬ Mu B α' O' a := fun a o m e _ => ⟨e, fun z => m (z.elim (fun z => .inl (.inl z)) .inr)⟩
      have wB : Own G B α' O' H' := ⟨w.len, w.nd, fun i a o e1 e2 => by
        have h := w.at_ i a o e1 e2
        cases o with
        | lst ds => obtain ⟨vs, h1, h2⟩ := h; exact ⟨vs, h1, h2.imp k2⟩
        | brw ds => obtain ⟨vs, h1, h2⟩ := h; exact ⟨vs, h1, h2.imp k2⟩
        | ob _ _ => obtain ⟨dx, gs, h1, g1, g2, h2⟩ := h; exact ⟨dx, gs, h1, g1, g2, h2.imp k2⟩
        | frz ds => exact At.imp k2 h, fun a m => w.bt a (.inl m), fun a m z => w.nb a m (.inl z), w.tabs⟩
      exact hl y O' q α' cls dd H' ((stp_new hp).trans s) wB ⟨e1, dx, fs, e2, e3, fun z => e4 (z.elim (fun z => .inl (.inl z)) .inr), e5, e6.imp k2⟩
    · have hpn : ¬ Ho α O p := fun m => by
        obtain ⟨o, q⟩ := m.ow.some R.own
        rw [hp] at q
        cases q
      have he : H2 p = some (.dK []) := s1.keep p _ upd_same hpn fun ps z => by cases z
      refine ⟨he, [(.inr x, v)], rfl, by simp, p, _, rfl, upd_same, True.intro, fun od => ?_⟩
      rw [upd_upd]
      obtain ⟨d, e1, f⟩ := toK_of f
      have a2 := At.of w1 a1 e1
      have un : ∀ b, upd H p (.dK []) b = none → H b = none := fun b e => by
        by_cases hb : b = p
        · rw [hb]; exact hp
        · rw [upd_ne hb] at e; exact e
      have s2 : Stp α O H α1 O1 (upd H2 p (.frz od (.dK [(.inr x, v)]))) := ⟨s1.pre, fun b o e n t => by
        have hb := ne_of_none e hp
        rw [upd_ne hb]
        exact s1.keep b o (by rw [upd_ne hb]; exact e) n t, fun b e => by
        by_cases hb : b = p
        · rw [hb, upd_same] at e; cases e
        · rw [upd_ne hb] at e; exact un b (s1.there b e), fun b m => (s1.new b m).imp_right (un b), fun b m => (s1.hnew b m).imp_right (un b), fun b m => (s1.fresh b m).imp_right (un b)⟩
      have hm : ¬ Mu B α1 O1 p := fun m => m.elim (fun z => by
        obtain ⟨o, q⟩ := R.own.bt p z
        rw [hp] at q
        cases q) fun z => w1.nb p z (.inr rfl)
      exact hq.to f s2 (ownD_less w1 he) (.d (.dct upd_same hm rfl (.cons (a2.imp less_key) .nil)))
  · cases c
theorem gt_rm : ∀ (ρ : List (Option U)) (v i : Nat) (u : U), gt (wipeR.rm ρ v) i = some u → i ≠ v ∧ gt ρ i = some u
  | [], _, _, _, h => by cases h
  | _ :: _, 0, 0, _, h => by cases h
  | _ :: _, 0, i + 1, _, h => ⟨by omega, h⟩
  | _ :: _, v + 1, 0, _, h => ⟨by omega, h⟩
  | _ :: r, v + 1, i + 1, u, h => by
    obtain ⟨h1, h2⟩ := gt_rm r v i u h
    exact ⟨by omega, h2⟩
theorem rm_len : ∀ (ρ : List (Option U)) (v : Nat), (wipeR.rm ρ v).length = ρ.length
  | [], _ => rfl
  | _ :: _, 0 => rfl
  | _ :: r, v + 1 => congrArg (· + 1) (rm_len r v)
theorem gt_wipe {ρ : List (Option U)} {i : Nat} {u : U} : ∀ {vs : List Nat}, gt (wipeR ρ vs) i = some u → i ∉ vs ∧ gt ρ i = some u
  | [], h => ⟨by simp, h⟩
  | v :: vs, h => by
    obtain ⟨h1, h2⟩ := gt_rm _ _ _ _ h
    obtain ⟨h3, h4⟩ := gt_wipe h2
    exact ⟨by simp only [List.mem_cons, not_or]; exact ⟨h1, h3⟩, h4⟩
theorem wipeR_len (ρ : List (Option U)) : ∀ vs : List Nat, (wipeR ρ vs).length = ρ.length
  | [] => rfl
  | v :: vs => by rw [wipeR, rm_len, wipeR_len ρ vs]
theorem wipe_at {σ : L2.St} {i : Nat} : ∀ {vs : List Nat}, (wipe σ vs)[i]? = if i ∈ vs then (if i < σ.length then some none else none) else σ[i]?
  | [] => by simp [wipe]
  | v :: vs => by
    have ih := wipe_at (σ := σ) (i := i) (vs := vs)
    unfold wipe
    by_cases h : v = i
    · subst h
      rw [if_pos List.mem_cons_self]
      by_cases hl : v < σ.length
      · rw [if_pos hl, List.getElem?_set_self (by rw [wipe_length]; exact hl)]
      · rw [if_neg hl, List.getElem?_eq_none (by rw [List.length_set, wipe_length]; omega)]
    · rw [List.getElem?_set_ne h, ih]
      by_cases hm : i ∈ vs
      · rw [if_pos hm, if_pos (List.mem_cons_of_mem _ hm)]
      · rw [if_neg hm, if_neg (by simp only [List.mem_cons, not_or]; exact ⟨fun z => h z.symm, hm⟩)]
theorem wipe_back {σ σ2 : L2.St} {vs ss : List Nat} (hs : ∀ i ∈ ss, i ∈ vs) (h : ∀ i, i ∉ ss → σ2[i]? = (wipe σ vs)[i]?) (hl : σ2.length = σ.length) : wipe σ2 vs = wipe σ vs := by
  refine List.ext_getElem? fun i => ?_
  rw [wipe_at, wipe_at, hl]
  by_cases hm : i ∈ vs
  · rw [if_pos hm, if_pos hm]
  · rw [if_neg hm, if_neg hm, h i (fun z => hm (hs i z)), wipe_at, if_neg hm]
theorem len_of {σ σ2 : L2.St} {vs ss : List Nat} (h : ∀ i, i ∉ ss → σ2[i]? = (wipe σ vs)[i]?) : True := trivial
/-- a new list that the block keeps for itself -/
def With (B : Addr → Prop) (D : Addr) : Addr → Prop := fun b => B b ∨ b = D
theorem own_with {B : Addr → Prop} {α : List Addr} {O : List DO} {H : Hp} (w : Own G B α O H) {D : Addr} {o : HO} (hD : H D = none) : Own G (With B D) α O (upd H D o) := by
  have hm : ∀ b, Mu (With B D) α O b → Mu B α O b ∨ H b = none := fun b m => by
    rcases m with (m | rfl) | m
    · exact .inl (.inl m)
    · exact .inr hD
    · exact .inl (.inr m)
  have hk : ∀ b o', H b = some o' → ¬ Ho α O b → (∀ ps, o' ≠ .tbl ps) → upd H D o b = some o' := fun b o' e _ _ => by rw [upd_ne (ne_of_none e hD)]; exact e
  refine ⟨w.len, w.nd, fun j b u e1 e2 => ?_, fun b m => ?_, fun b m z => ?_, tabs_keep w.tabs fun b u e _ => by rw [upd_ne (ne_of_none e hD)]; exact e⟩
  · have h := w.at_ j b u e1 e2
    cases u with
    | lst ds =>
      obtain ⟨vs, e, r⟩ := h
      exact ⟨vs, by rw [upd_ne (ne_of_none e hD)]; exact e, r.imp (later hm hk)⟩
    | brw ds =>
      obtain ⟨vs, e, r⟩ := h
      exact ⟨vs, by rw [upd_ne (ne_of_none e hD)]; exact e, r.imp (later hm hk)⟩
    | ob _ _ =>
      obtain ⟨dx, gs, e, g1, g2, r⟩ := h
      exact ⟨dx, gs, by rw [upd_ne (ne_of_none e hD)]; exact e, g1, g2, r.imp (later hm hk)⟩
    | frz ds => exact At.imp (later hm hk) h
  · rcases m with m | rfl
    · obtain ⟨o', e⟩ := w.bt b m
      exact ⟨o', by rw [upd_ne (ne_of_none e hD)]; exact e⟩
    · exact ⟨o, upd_same⟩
  · rcases z with z | rfl
    · exact w.nb b m z
    · obtain ⟨o', e⟩ := m.some w
      rw [hD] at e; cases e
theorem own_updB {B : Addr → Prop} {α : List Addr} {O : List DO} {H : Hp} (w : Own G B α O H) {D : Addr} {vs : List V} {o : HO} (hB : B D) (hD : H D = some (.lst vs)) : Own G B α O (upd H D o) := by
  have h1 : ∀ a o', ¬ Mu B α O a → H a = some o' → (∀ ps, o' ≠ .tbl ps) → upd H D o a = some o' ∧ ¬ Mu B α O a := fun b o' m e _ => ⟨by rw [upd_ne (fun z : b = D => m (by rw [z]; exact .inl hB))]; exact e, m⟩
  refine ⟨w.len, w.nd, fun j b u e1 e2 => ?_, fun b m => ?_, w.nb, tabs_keep w.tabs fun b u e z => ?_⟩
  · have h := w.at_ j b u e1 e2
    cases u with
    | lst ds =>
      obtain ⟨vs, e, r⟩ := h
      refine ⟨vs, ?_, r.imp h1⟩
      rw [upd_ne (fun z : b = D => w.nb b ⟨j, _, e1, e2, rfl⟩ (by rw [z]; exact hB))]
      exact e
    | brw ds =>
      obtain ⟨vs, e, r⟩ := h
      refine ⟨vs, ?_, r.imp h1⟩
      rw [upd_ne (fun z : b = D => w.nb b ⟨j, _, e1, e2, rfl⟩ (by rw [z]; exact hB))]
      exact e
    | ob _ _ =>
      obtain ⟨dx, gs, e, g1, g2, r⟩ := h
      refine ⟨dx, gs, ?_, g1, g2, r.imp h1⟩
      rw [upd_ne (fun z : b = D => w.nb b ⟨j, _, e1, e2, rfl⟩ (by rw [z]; exact hB))]
      exact e
    | frz ds => exact At.imp h1 h
  · by_cases e : b = D
    · exact ⟨o, by rw [e, upd_same]⟩
    · rw [upd_ne e]; exact w.bt b m
  · by_cases eb : b = D
    · subst eb
      rw [hD] at e
      cases e
      rcases z with ⟨_, z⟩ | ⟨_, z⟩ <;> cases z
    · rw [upd_ne eb]; exact e
theorem stp_updNew {α α' : List Addr} {O O' : List DO} {H H' : Hp} (s : Stp α O H α' O' H') {D : Addr} {o : HO} (hD : H D = none) : Stp α O H α' O' (upd H' D o) :=
  ⟨s.pre, fun b o' e m n => by rw [upd_ne (ne_of_none e hD)]; exact s.keep b o' e m n, fun b e => by
    by_cases h : b = D
    · rw [h]; exact hD
    · rw [upd_ne h] at e; exact s.there b e, s.new, s.hnew, s.fresh⟩
/-- the new list becomes an owned one, or data -/
theorem own_adopt {B : Addr → Prop} {α : List Addr} {O : List DO} {H : Hp} {D : Addr} {vs : List V} {ds : List Z.D} (w : Own G (With B D) α O H) (hD : H D = some (.lst vs)) (hB : ¬ B D) (ha : D ∉ α) (r : Ats G.K (Mu (With B D) α O) H vs ds) : Own G B (α ++ [D]) (O ++ [.lst ds]) H := by
  have hm : ∀ b, Mu B (α ++ [D]) (O ++ [.lst ds]) b → Mu (With B D) α O b := fun b m => by
    rcases m with m | ⟨j, u, e1, e2, l⟩
    · exact .inl (.inl m)
    · rcases get_snoc e1 with e1 | ⟨e1, eb⟩
      · rcases get_snoc e2 with e2 | ⟨e2, _⟩
        · exact .inr ⟨j, u, e1, e2, l⟩
        · have := (List.getElem?_eq_some_iff.mp e1).1
          have := w.len
          omega
      · exact .inl (.inr eb)
  refine ⟨by simp [w.len], ?_, fun j b u e1 e2 => ?_, fun b m => w.bt b (.inl m), fun b m z => ?_, w.tabs⟩
  · rw [List.nodup_append]
    exact ⟨w.nd, by simp, fun a h1 b h2 => by
      rcases List.mem_singleton.mp h2 with rfl
      exact fun z => ha (by rw [← z]; exact h1)⟩
  · rcases get_snoc e1 with e1 | ⟨e1, rfl⟩
    · rcases get_snoc e2 with e2 | ⟨e2, _⟩
      · exact (w.at_ j b u e1 e2).less hm
      · have := (List.getElem?_eq_some_iff.mp e1).1
        have := w.len
        omega
    · rcases get_snoc e2 with e2 | ⟨e2, rfl⟩
      · have := (List.getElem?_eq_some_iff.mp e2).1
        have := w.len
        omega
      · exact ⟨vs, hD, r.less hm⟩
  · rcases m with ⟨j, u, e1, e2, l⟩
    rcases get_snoc e1 with e1 | ⟨e1, rfl⟩
    · rcases get_snoc e2 with e2 | ⟨e2, _⟩
      · exact w.nb b ⟨j, u, e1, e2, l⟩ (.inl z)
      · have := (List.getElem?_eq_some_iff.mp e1).1
        have := w.len
        omega
    · exact hB z
theorem own_less {B : Addr → Prop} {α : List Addr} {O : List DO} {H : Hp} {D : Addr} (w : Own G (With B D) α O H) : Own G B α O H := by
  have hm : ∀ b, Mu B α O b → Mu (With B D) α O b := fun b m => m.elim (fun m => .inl (.inl m)) .inr
  exact ⟨w.len, w.nd, fun j b u e1 e2 => (w.at_ j b u e1 e2).less hm, fun b m => w.bt b (.inl m), fun b m z => w.nb b m (.inl z), w.tabs⟩
theorem stp_adopt {α α' : List Addr} {O O' : List DO} {H H' : Hp} (s : Stp α O H α' O' H') {D : Addr} {o : DO} (hl : α'.length = O'.length) (hD : H D = none) : Stp α O H (α' ++ [D]) (O' ++ [o]) H' := by
  refine ⟨?_, s.keep, s.there, fun b m => ?_, fun b m => ?_, fun b m => ?_⟩
  · obtain ⟨m, e⟩ := s.pre
    exact ⟨m ++ [D], by rw [e, List.append_assoc]⟩
  · obtain ⟨j, u, e1, e2, l⟩ := m
    rcases get_snoc e1 with e1 | ⟨e1, rfl⟩
    · rcases get_snoc e2 with e2 | ⟨e2, _⟩
      · exact s.new b ⟨j, u, e1, e2, l⟩
      · have := (List.getElem?_eq_some_iff.mp e1).1
        omega
    · exact .inr hD
  · obtain ⟨j, u, e1, e2, l⟩ := m
    rcases get_snoc e1 with e1 | ⟨e1, rfl⟩
    · rcases get_snoc e2 with e2 | ⟨e2, _⟩
      · exact s.hnew b ⟨j, u, e1, e2, l⟩
      · have := (List.getElem?_eq_some_iff.mp e1).1
        omega
    · exact .inr hD
  · rcases List.mem_append.mp m with m | m
    · exact s.fresh b m
    · rw [List.mem_singleton.mp m]; exact .inr hD

/-- what was borrowed for a walk, given back -/
theorem unb1_at (o x : DO) : unb1 o x = x ∨ ∃ ds es, o = .lst es ∧ x = .brw ds ∧ unb1 o x = .lst ds := by
  cases o with
  | lst es => cases x with
    | brw ds => exact .inr ⟨ds, es, rfl, rfl, rfl⟩
    | lst _ => exact .inl rfl
    | frz _ => exact .inl rfl
    | ob _ _ => exact .inl rfl
  | frz _ => exact .inl rfl
  | brw _ => exact .inl rfl
  | ob _ _ => exact .inl rfl
theorem unb_at : ∀ {O O' : List DO} {i : Nat} {x : DO}, (unb O O')[i]? = some x → O'[i]? = some x ∨ ∃ ds es, O[i]? = some (DO.lst es) ∧ O'[i]? = some (DO.brw ds) ∧ x = .lst ds
  | [], _, _, _, h => .inl h
  | _ :: _, [], i, x, h => .inl h
  | o :: r, y :: s, 0, x, h => by
    rw [unb, List.getElem?_cons_zero] at h
    cases h
    rcases unb1_at o y with g | ⟨ds, es, g1, g2, g3⟩
    · exact .inl (by rw [List.getElem?_cons_zero, g])
    · exact .inr ⟨ds, es, by rw [List.getElem?_cons_zero, g1], by rw [List.getElem?_cons_zero, g2], g3⟩
  | o :: r, y :: s, i + 1, x, h => by
    rw [unb, List.getElem?_cons_succ] at h
    rw [List.getElem?_cons_succ, List.getElem?_cons_succ]
    exact unb_at h
theorem unb_len : ∀ (O O' : List DO), (unb O O').length = O'.length
  | [], _ => rfl
  | _ :: _, [] => rfl
  | _ :: r, _ :: s => congrArg (· + 1) (unb_len r s)
theorem unb_ok {B : Addr → Prop} {α α' : List Addr} {O O' : List DO} {H H' : Hp} (s : Stp α O H α' O' H') (w0 : Own G B α O H) (w : Own G B α' O' H') : Stp α O H α' (unb O O') H' ∧ Own G B α' (unb O O') H' ∧ ∀ b, Mu B α' (unb O O') b → Mu B α' O' b := by
  have how : ∀ b, Ow α' (unb O O') b → Ow α' O' b := fun b ⟨i, o, e1, e2, l⟩ => by
    rcases unb_at e2 with g | ⟨ds, es, g1, g2, rfl⟩
    · exact ⟨i, o, e1, g, l⟩
    · exact ⟨i, _, e1, g2, rfl⟩
  have hm : ∀ b, Mu B α' (unb O O') b → Mu B α' O' b := fun b m => m.elim .inl fun m => .inr (how b m)
  refine ⟨⟨s.pre, s.keep, s.there, fun b m => s.new b (how b m), fun b ⟨i, o, e1, e2, l⟩ => ?_, s.fresh⟩, ⟨by rw [unb_len]; exact w.len, w.nd, fun i b o e1 e2 => ?_, w.bt, fun b m => w.nb b (how b m), w.tabs⟩, hm⟩
  · rcases unb_at e2 with g | ⟨ds, es, g1, g2, rfl⟩
    · exact s.hnew b ⟨i, o, e1, g, l⟩
    · refine .inl ⟨i, _, ?_, g1, rfl⟩
      obtain ⟨mm, e⟩ := s.pre
      rw [e, List.getElem?_append_left (by rw [w0.len]; exact (List.getElem?_eq_some_iff.mp g1).1)] at e1
      exact e1
  · rcases unb_at e2 with g | ⟨ds, es, g1, g2, rfl⟩
    · exact (w.at_ i b o e1 g).less hm
    · exact (w.at_ i b _ e1 g2).less hm
theorem lookup_blk {sc scope : Scope} {x : Str} {kd : NameKind} (hk : kd ≠ .free) (h : scope.names.lookup x = some kd) : (relS scope sc).names.lookup x = some kd := lookup_relS_keep hk h
theorem good_blk {X : Cx} {W0 : XK} {S : Sx} (g : Good X G W0 k S Γ) (scope : Scope) (s : Shared) (H : Hp) (C : Addr) (cl : List (Str × Addr)) (fp : List Addr) :
    Good (X.blk s H scope (compEnvC scope cl C X.env) fp) G (fun _ _ _ => False) k (S.inn (relS scope S.sc) scope) Γ where
  hN := g.hN
  nd := g.nd
  sc := by rw [← g.sc]; rfl
  calm := g.calm
  hK := g.hK
  takes := fun u s' ⟨_, _, _, _, _, _, _, _, _, _, _, _, _, _, _, _, w⟩ => w.elim
  rm := g.room
  fns := fun i x P h => g.fns i x P h
  free := g.free
  gi := g.gi
  gs := g.gs
  xs := g.xs
  mkx := fun z => by cases z
  lam := fun z => by cases z
  sto := fun x h => by
    unfold ownB at h
    have hsc : (compEnvC scope cl C X.env).scope = relS scope X.env.scope := rfl
    split at h
    · rename_i q
      exact ⟨.inl (by rw [hsc]; exact lookup_blk (by decide) q), .inr (by rw [hsc]; exact lookup_blk (by decide) q)⟩
    · rename_i q
      refine ⟨.inr (by rw [hsc]; exact lookup_blk (by decide) q), .inl ?_⟩
      have q : scope.names.lookup x = some .cell := q
      show (scope.names.lookup x == some .cell) = true
      rw [q]; rfl
    · cases h
theorem folded_of {e : Expr} {env : Env} (h : noSet e = true) : ∀ x, foldedSetIterable e env x = pure x := by
  intro x
  cases e <;> first | rfl | cases h
theorem comp_ex (own : Bool) (vs : List Nat) (tg : T1) {src tst elt : Y} (ds : Sd G k Γ src) (dt : Sd G k Γ tst) (de : Sd G k Γ elt) (hy : isYes tst = true → tst = .yes) {X : Cx} {W0 : XK} {S : Sx} (g : Good X G W0 k S Γ) {e : Expr} (c : compC (ck (Γ.map (·.1)) tst) (ck (Γ.map (·.1)) elt) (ck (Γ.map (·.1)) src S) S vs tg (isYes tst) e = true) :
    ∃ (e0 t it : Expr) (ifs : List Expr) (scope : Scope) (pos : Pos) (wi : TI) (gg : TG) (tt : TT) (te : TE), e = .ListComp e0 [⟨t, it, ifs, 0⟩] scope pos ∧ PI X t it wi ∧ BlkOk X.N X.env.scope scope (ownN S.N vs) ∧
      (∀ (s : Shared) (H : Hp) (C : Addr) (cl : List (Str × Addr)) (fp : List Addr), PG (X.blk s H scope (compEnvC scope cl C X.env) fp) t gg) ∧
      (∀ (s : Shared) (H : Hp) (C : Addr) (cl : List (Str × Addr)) (fp : List Addr), PTs (X.blk s H scope (compEnvC scope cl C X.env) fp) ifs tt) ∧
      (∀ (s : Shared) (H : Hp) (C : Addr) (cl : List (Str × Addr)) (fp : List Addr), PE (X.blk s H scope (compEnvC scope cl C X.env) fp) e0 te) ∧ (∀ x, foldedSetIterable it X.env x = pure x) ∧
      ∀ σ H Q, LfE G W0 (vc Γ (.comp own vs tg src tst elt)) σ H Q → tLc wi gg tt te ((ownN S.N vs).map (·.2)) σ H Q := by
  unfold compC at c
  split at c
  · rename_i e0 t it ifs scope pos
    obtain ⟨c, c7⟩ := ba c
    obtain ⟨c, c6⟩ := ba c
    obtain ⟨c, c5⟩ := ba c
    obtain ⟨c, c4⟩ := ba c
    obtain ⟨c, c3⟩ := ba c
    obtain ⟨c1, c2⟩ := ba c
    have gb := fun s H C cl fp => good_blk g scope s H C cl fp
    have ok : BlkOk X.N X.env.scope scope (ownN S.N vs) := by
      rw [g.hN, g.sc]
      exact blkOk_by c1
    have hvs : (ownN S.N vs).map (·.2) = vs := by unfold ownN; rw [List.map_map]; exact List.map_id vs
    have hsl : ∀ i ∈ slots tg, i ∈ vs := fun i hi => by
      have := List.all_eq_true.mp c3 i hi
      simpa using this
    have ht : ∀ (s : Shared) (H : Hp) (C : Addr) (cl : List (Str × Addr)) (fp : List Addr), PTs (X.blk s H scope (compEnvC scope cl C X.env) fp) ifs (LfT G (fun _ _ _ => False) (vc Γ tst)) := fun s H C cl fp => by
      split at c6
      · rw [hy c6]
        exact pts_imp pts_nil fun σ H Q ⟨B, α, ρ, O, Q0, E0, R, h, hq, hl⟩ => hq.to h Stp.refl R.own
      · exact pts_one (dt.T _ _ _ (gb s H C cl fp) _ (ba c6).2)
      · cases c6
    refine ⟨e0, t, it, ifs, scope, pos, _, _, _, _, rfl, ds.I X W0 S g _ _ c4, ok, fun s H C cl fp => sd_tg (gb s H C cl fp) c2, ht, fun s H C cl fp => de.E _ _ _ (gb s H C cl fp) _ c7, folded_of c5, fun σ H Q ⟨B, α, ρ, O, Q0, E0, R, h, hq, hl⟩ => ?_⟩
    rw [hvs]
    refine ⟨B, α, ρ, O, _, E0, R, h, fun us O1 q => ?_, hl⟩
    obtain ⟨xs, rfl, hz, q⟩ := q
    refine ⟨xs, rfl, fun α1 H1 J s1 w1 wk D hD => ?_⟩
    obtain ⟨Gd, Yy, wk, hwk⟩ := wk.ex
    have hDB : ¬ B D := fun m => by
      obtain ⟨o, e⟩ := w1.bt D m
      rw [hD] at e; cases e
    have hDa : D ∉ α1 := own_fresh w1 hD
    have hO1 : O1.length = α1.length := w1.len.symm
    have hm : ∀ {O2 : List DO} {H2 : Hp}, Stp α1 O1 H1 α1 O2 H2 → ∀ b, Mu (With B D) α1 O2 b → Mu B α1 O1 b ∨ H1 b = none := fun s b m => by
      rcases m with (m | rfl) | m
      · exact .inl (.inl m)
      · exact .inr hD
      · rcases s.new b m with z | z
        · exact .inl (.inr z)
        · exact .inr z
    have hkp : ∀ {O2 : List DO} {H2 : Hp}, Stp α1 O1 H1 α1 O2 H2 → ∀ b o, H1 b = some o → ¬ Ho α1 O1 b → (∀ ps, o ≠ .tbl ps) → H2 b = some o := fun s b o e m n => s.keep b o e m n
    refine lc_it wk (fun i H => ∃ O2 acc av, Own G (With B D) α1 O2 H ∧ Stp α1 O1 H1 α1 O2 H ∧ H D = some (.lst av) ∧ Ats G.K (Mu (With B D) α1 O2) H av acc ∧ acc.length ≤ i ∧
      compR tg (vc Γ tst fun _ _ => False) (vc Γ elt fun _ _ => False) (wipeR ρ vs) O1.length (xs.drop i) acc O2 fun acc O2 => newL own acc (unb O O2) Q0) ?_ ?_ ?_ ?_
    · exact ⟨O1, [], [], own_with w1 hD, stp_new hD, upd_same, .nil, Nat.le_refl _, q⟩
    · rintro i H2 hi ⟨O2, acc, av, w2, s2, e2, r2, l2, q2⟩
      exact (hwk _ _ _ _ (hm s2) (hkp s2) w2).1
    · rintro i x H2 H3 hi ⟨O2, acc, av, w2, s2, e2, r2, l2, q2⟩ y
      obtain ⟨d, ed, hH3, ax⟩ := (hwk _ _ _ _ (hm s2) (hkp s2) w2).2 i x H3 hi y
      have st3 : Stp α1 O2 H2 α1 O2 H3 ∧ Own G (With B D) α1 O2 H3 := by
        rcases hH3 with rfl | ⟨p, vs, hp, rfl⟩
        · exact ⟨Stp.refl, w2⟩
        · exact ⟨stp_new hp, own_new w2 hp⟩
      obtain ⟨s3, w3⟩ := st3
      have hdrop : xs.drop i = d :: xs.drop (i + 1) := by
        obtain ⟨hlt, ed⟩ := List.getElem?_eq_some_iff.mp ed
        rw [← ed]
        exact List.drop_eq_getElem_cons hlt
      rw [hdrop, compR] at q2
      have s13 := s2.trans s3
      have R3 : Rep G (With B D) α1 (wipe σ vs) H3 (wipeR ρ vs) O2 := by
        refine ⟨fun j u e => ?_, w3, by rw [wipeR_len, wipe_length]; exact R.len⟩
        obtain ⟨hj, e⟩ := gt_wipe e
        obtain ⟨v, ev, av⟩ := R.vars j u e
        exact ⟨v, by rw [wipe_out hj]; exact ev, AtU.later (fun _ _ z => z) (later (hm s13) (hkp s13)) (s1.atU av)⟩
      refine ⟨With B D, α1, O2, wipeR ρ vs, d, _, R3, ax, q2, fun ρ1 q3 σ2 R4 hs hl4 => ⟨wipe_back hsl hs (by rw [hl4, wipe_length]), ?_⟩⟩
      refine seqT (E0 := fun _ _ => False) R4 q3 (fun _ _ z => z.elim) fun b O5 q5 α5 H5 s5 w5 => ?_
      have kD : ∀ {α6 : List Addr} {O6 : List DO} {H6 : Hp}, Stp α1 O2 H3 α6 O6 H6 → H6 D = some (.lst av) := fun s => s.keep D _ (s3.keep D _ e2 (fun z => w2.nb D z.ow (.inr rfl)) (fun _ z => by cases z)) (fun z => w3.nb D z.ow (.inr rfl)) (fun _ z => by cases z)
      have fin : ∀ {α6 : List Addr} {O6 : List DO} {H6 : Hp}, Stp α1 O2 H3 α6 O6 H6 → Own G (With B D) α6 O6 H6 → Own G (With B D) α1 (O6.take O1.length) H6 ∧ Stp α1 O1 H1 α1 (O6.take O1.length) H6 := fun {α6 O6 H6} s w => by
        have h1 := stp_take s w3
        have h2 := own_take w O1.length
        rw [hO1] at h2 ⊢
        rw [h1.2] at h2
        exact ⟨h2, s13.trans h1.1⟩
      cases b with
      | false =>
        rw [if_neg (by decide)]
        obtain ⟨w6, s6⟩ := fin s5 w5
        refine ⟨O5.take O1.length, acc, av, w6, s6, kD s5, ?_, by omega, q5.2 rfl⟩
        have r5 := s5.ats (s3.ats r2)
        exact r5.less fun b m => by
          rcases m with m | ⟨j, u, e1, e2, l⟩
          · exact .inl m
          · obtain ⟨mm, e⟩ := s5.pre
            refine .inr ⟨j, u, ?_, take_some e2, l⟩
            rw [e, List.getElem?_append_left (List.getElem?_eq_some_iff.mp e1).1]; exact e1
      | true =>
        rw [if_pos rfl]
        refine seqE (E0 := fun _ _ => False) (R4.stp s5 w5) (q5.1 rfl) (fun _ _ z => z.elim) fun u6 O6 q6 α6 v6 H6 s6 w6 a6 => ?_
        obtain ⟨x6, e6, q6⟩ := toK_of q6
        have ax6 := At.of w6 a6 e6
        obtain ⟨w7, s7⟩ := fin (s5.trans s6) w6
        have hD6 := kD (s5.trans s6)
        have hlt : acc.length < sizeLine := by omega
        have less6 : ∀ b, Mu (With B D) α1 (O6.take O1.length) b → Mu (With B D) α6 O6 b := fun b m => by
          rcases m with m | ⟨j, u, e1, e2, l⟩
          · exact .inl m
          · obtain ⟨mm, e⟩ := (s5.trans s6).pre
            refine .inr ⟨j, u, ?_, take_some e2, l⟩
            rw [e, List.getElem?_append_left (List.getElem?_eq_some_iff.mp e1).1]; exact e1
        have r6 := ((s5.trans s6).ats (s3.ats r2)).less less6
        have ax7 := ax6.less less6
        refine ⟨av, hD6, by rw [r6.length]; exact hlt, O6.take O1.length, acc ++ [x6], av ++ [v6], own_updB w7 (.inr rfl) hD6, stp_updNew s7 hD, upd_same, ?_, by rw [List.length_append]; simp; omega, q6⟩
        exact Ats.imp (fun b o m e _ => ⟨by rw [upd_ne (fun z : b = D => m (by rw [z]; exact .inl (.inr rfl)))]; exact e, m⟩) (r6.append (.cons ax7 .nil))
    · rintro H2 ⟨O2, acc, av, w2, s2, e2, r2, l2, q2⟩
      rw [List.drop_length, compR] at q2
      obtain ⟨s12, w3, hmu⟩ := unb_ok (B := B) (s1.trans s2) R.own (own_less w2)
      have ub : Own G (With B D) α1 (unb O O2) H2 := by
        refine ⟨w3.len, w3.nd, fun i b o g1 g2 => ?_, w2.bt, fun b m z => ?_, w3.tabs⟩
        · have hm2 : ∀ b, Mu (With B D) α1 (unb O O2) b → Mu (With B D) α1 O2 b := fun b m => by
            rcases m with m | ⟨i, o, g1, g2, l⟩
            · exact .inl m
            · rcases unb_at g2 with g | ⟨ds, es, _, g3, rfl⟩
              · exact .inr ⟨i, o, g1, g, l⟩
              · exact .inr ⟨i, _, g1, g3, rfl⟩
          rcases unb_at g2 with g | ⟨ds, es, _, g3, rfl⟩
          · exact (w2.at_ i b o g1 g).less hm2
          · exact (w2.at_ i b _ g1 g3).less hm2
        · obtain ⟨i, o, g1, g2, l⟩ := m
          rcases unb_at g2 with g | ⟨ds, es, _, g3, rfl⟩
          · exact w2.nb b ⟨i, o, g1, g, l⟩ z
          · exact w2.nb b ⟨i, _, g1, g3, rfl⟩ z
      have r3 : Ats G.K (Mu (With B D) α1 (unb O O2)) H2 av acc := r2.less fun b m => by
        rcases m with m | ⟨i, o, g1, g2, l⟩
        · exact .inl m
        · rcases unb_at g2 with g | ⟨ds, es, _, g3, rfl⟩
          · exact .inr ⟨i, o, g1, g, l⟩
          · exact .inr ⟨i, _, g1, g3, rfl⟩
      have hDH : H D = none := s1.there D hD
      cases own with
      | true =>
        refine hq.to q2 (stp_adopt s12 w3.len hDH) (own_adopt ub e2 hDB hDa r3) (.o ?_)
        rw [List.getElem?_append_right (by rw [w3.len]; exact Nat.le_refl _), w3.len]
        simp
      | false =>
        refine hq.to q2 s12 w3 (.d (.lst e2 (fun m => ?_) (r3.less fun b m => m.elim (fun m => .inl (.inl m)) .inr)))
        rcases m with m | m
        · exact hDB m
        · exact ub.nb D m (.inr rfl)
  · cases c

theorem AtUs.snoc {B : Addr → Prop} {α : List Addr} {O : List DO} {H : Hp} {v : V} {u : U} : ∀ {vs : List V} {us : List U}, AtUs G.K B α O H vs us → AtU G.K B α O H v u → AtUs G.K B α O H (vs ++ [v]) (us ++ [u])
  | _, _, .nil, a => .cons a .nil
  | _, _, .cons b r, a => .cons b (AtUs.snoc r a)
theorem comp_exU (vs : List Nat) (tg : T1) {src elt : Y} (ds : Sd G k Γ src) (de : Sd G k Γ elt) {X : Cx} {W0 : XK} {S : Sx} (g : Good X G W0 k S Γ) {e : Expr} (c : compC (fun _ => {}) (ck (Γ.map (·.1)) elt) (ck (Γ.map (·.1)) src S) S vs tg true e = true) :
    ∃ (e0 t it : Expr) (ifs : List Expr) (scope : Scope) (pos : Pos) (wi : TI) (gg : TG) (tt : TT) (te : TE), e = .ListComp e0 [⟨t, it, ifs, 0⟩] scope pos ∧ PI X t it wi ∧ BlkOk X.N X.env.scope scope (ownN S.N vs) ∧
      (∀ (s : Shared) (H : Hp) (C : Addr) (cl : List (Str × Addr)) (fp : List Addr), PG (X.blk s H scope (compEnvC scope cl C X.env) fp) t gg) ∧
      (∀ (s : Shared) (H : Hp) (C : Addr) (cl : List (Str × Addr)) (fp : List Addr), PTs (X.blk s H scope (compEnvC scope cl C X.env) fp) ifs tt) ∧
      (∀ (s : Shared) (H : Hp) (C : Addr) (cl : List (Str × Addr)) (fp : List Addr), PE (X.blk s H scope (compEnvC scope cl C X.env) fp) e0 te) ∧ (∀ x, foldedSetIterable it X.env x = pure x) ∧
      ∀ σ H Q, LfE G W0 (vc Γ (.compU vs tg src elt)) σ H Q → tLc wi gg tt te ((ownN S.N vs).map (·.2)) σ H Q := by
  unfold compC at c
  split at c
  · rename_i e0 t it ifs scope pos
    obtain ⟨c, c7⟩ := ba c
    obtain ⟨c, c6⟩ := ba c
    obtain ⟨c, c5⟩ := ba c
    obtain ⟨c, c4⟩ := ba c
    obtain ⟨c, c3⟩ := ba c
    obtain ⟨c1, c2⟩ := ba c
    have gb := fun s H C cl fp => good_blk g scope s H C cl fp
    have ok : BlkOk X.N X.env.scope scope (ownN S.N vs) := by
      rw [g.hN, g.sc]
      exact blkOk_by c1
    have hvs : (ownN S.N vs).map (·.2) = vs := by unfold ownN; rw [List.map_map]; exact List.map_id vs
    have hsl : ∀ i ∈ slots tg, i ∈ vs := fun i hi => by
      have := List.all_eq_true.mp c3 i hi
      simpa using this
    have ht : ∀ (s : Shared) (H : Hp) (C : Addr) (cl : List (Str × Addr)) (fp : List Addr), PTs (X.blk s H scope (compEnvC scope cl C X.env) fp) ifs (LfT G (fun _ _ _ => False) (vc Γ .yes)) := fun s H C cl fp => by
      split at c6
      · exact pts_imp pts_nil fun σ H Q ⟨B, α, ρ, O, Q0, E0, R, h, hq, hl⟩ => hq.to h Stp.refl R.own
      · cases (ba c6).1
      · cases c6
    refine ⟨e0, t, it, ifs, scope, pos, _, _, _, _, rfl, ds.I X W0 S g _ _ c4, ok, fun s H C cl fp => sd_tg (gb s H C cl fp) c2, ht, fun s H C cl fp => de.E _ _ _ (gb s H C cl fp) _ c7, folded_of c5, fun σ H Q ⟨B, α, ρ, O, Q0, E0, R, h, hq, hl⟩ => ?_⟩
    rw [hvs]
    refine ⟨B, α, ρ, O, _, E0, R, h, fun us O1 q => ?_, hl⟩
    obtain ⟨xs, rfl, hz, q⟩ := q
    refine ⟨xs, rfl, fun α1 H1 J s1 w1 wk D hD => ?_⟩
    obtain ⟨Gd, Yy, wk, hwk⟩ := wk.ex
    have hDB : ¬ B D := fun m => by
      obtain ⟨o, e⟩ := w1.bt D m
      rw [hD] at e; cases e
    have hDa : D ∉ α1 := own_fresh w1 hD
    have hO1 : O1.length = α1.length := w1.len.symm
    have hm : ∀ {α2 : List Addr} {O2 : List DO} {H2 : Hp}, Stp α1 O1 H1 α2 O2 H2 → ∀ b, Mu (With B D) α2 O2 b → Mu B α1 O1 b ∨ H1 b = none := fun s b m => by
      rcases m with (m | rfl) | m
      · exact .inl (.inl m)
      · exact .inr hD
      · rcases s.new b m with z | z
        · exact .inl (.inr z)
        · exact .inr z
    have hkp : ∀ {α2 : List Addr} {O2 : List DO} {H2 : Hp}, Stp α1 O1 H1 α2 O2 H2 → ∀ b o, H1 b = some o → ¬ Ho α1 O1 b → (∀ ps, o ≠ .tbl ps) → H2 b = some o := fun s b o e m n => s.keep b o e m n
    refine lc_it wk (fun i H => ∃ α2 O2 acc av, Own G (With B D) α2 O2 H ∧ Stp α1 O1 H1 α2 O2 H ∧ H D = some (.lst av) ∧ AtUs G.K (With B D) α2 O2 H av acc ∧ acc.length ≤ i ∧
      compUR tg (vc Γ elt fun _ _ => False) (wipeR ρ vs) (xs.drop i) acc O2 fun acc O2 => Q0 [.l acc] (unb O O2)) ?_ ?_ ?_ ?_
    · exact ⟨α1, O1, [], [], own_with w1 hD, stp_new hD, upd_same, .nil, Nat.le_refl _, q⟩
    · rintro i H2 hi ⟨α2, O2, acc, av, w2, s2, e2, r2, l2, q2⟩
      exact (hwk _ _ _ _ (hm s2) (hkp s2) w2).1
    · rintro i x H2 H3 hi ⟨α2, O2, acc, av, w2, s2, e2, r2, l2, q2⟩ y
      obtain ⟨d, ed, hH3, ax⟩ := (hwk _ _ _ _ (hm s2) (hkp s2) w2).2 i x H3 hi y
      have st3 : Stp α2 O2 H2 α2 O2 H3 ∧ Own G (With B D) α2 O2 H3 := by
        rcases hH3 with rfl | ⟨p, vs, hp, rfl⟩
        · exact ⟨Stp.refl, w2⟩
        · exact ⟨stp_new hp, own_new w2 hp⟩
      obtain ⟨s3, w3⟩ := st3
      have hdrop : xs.drop i = d :: xs.drop (i + 1) := by
        obtain ⟨hlt, ed⟩ := List.getElem?_eq_some_iff.mp ed
        rw [← ed]
        exact List.drop_eq_getElem_cons hlt
      rw [hdrop, compUR] at q2
      have s13 := s2.trans s3
      have R3 : Rep G (With B D) α2 (wipe σ vs) H3 (wipeR ρ vs) O2 := by
        refine ⟨fun j u e => ?_, w3, by rw [wipeR_len, wipe_length]; exact R.len⟩
        obtain ⟨hj, e⟩ := gt_wipe e
        obtain ⟨v, ev, av⟩ := R.vars j u e
        exact ⟨v, by rw [wipe_out hj]; exact ev, AtU.later (fun _ _ z => s2.idx z) (later (hm s13) (hkp s13)) (s1.atU av)⟩
      refine ⟨With B D, α2, O2, wipeR ρ vs, d, _, R3, ax, q2, fun ρ1 q3 σ2 R4 hs hl4 => ⟨wipe_back hsl hs (by rw [hl4, wipe_length]), ?_⟩⟩
      have q4 : vc Γ .yes (fun _ _ => False) ρ1 O2 fun us O1 => boolK us fun u => u = true ∧ vc Γ elt (fun _ _ => False) ρ1 O1 fun ws O3 => oneK ws fun w => compUR tg (vc Γ elt fun _ _ => False) (wipeR ρ vs) (xs.drop (i + 1)) (acc ++ [w]) O3 fun acc O2 => Q0 [.l acc] (unb O O2) := ⟨rfl, q3⟩
      refine seqT (E0 := fun _ _ => False) R4 q4 (fun _ _ z => z.elim) fun b O5 q5 α5 H5 s5 w5 => ?_
      obtain ⟨rfl, q5⟩ := q5
      have kD : ∀ {α6 : List Addr} {O6 : List DO} {H6 : Hp}, Stp α2 O2 H3 α6 O6 H6 → H6 D = some (.lst av) := fun s => s.keep D _ (s3.keep D _ e2 (fun z => w2.nb D z.ow (.inr rfl)) (fun _ z => by cases z)) (fun z => w3.nb D z.ow (.inr rfl)) (fun _ z => by cases z)
      rw [if_pos rfl]
      refine seqE (E0 := fun _ _ => False) (R4.stp s5 w5) q5 (fun _ _ z => z.elim) fun u6 O6 q6 α6 v6 H6 s6 w6 a6 => ?_
      have hD6 := kD (s5.trans s6)
      have hlt : acc.length < sizeLine := by omega
      have s7 := s13.trans (s5.trans s6)
      have r6 := (s5.trans s6).atUs (s3.atUs r2)
      have e7 : ∀ a o, ¬ Mu (With B D) α6 O6 a → H6 a = some o → (∀ ps, o ≠ .tbl ps) → upd H6 D (.lst (av ++ [v6])) a = some o ∧ ¬ Mu (With B D) α6 O6 a := fun b o m e _ => ⟨by rw [upd_ne (fun z : b = D => m (by rw [z]; exact .inl (.inr rfl)))]; exact e, m⟩
      refine ⟨av, hD6, by rw [r6.length]; exact hlt, α6, O6, acc ++ [u6], av ++ [v6], own_updB w6 (.inr rfl) hD6, stp_updNew s7 hD, upd_same, ?_, by rw [List.length_append]; simp; omega, q6⟩
      exact AtUs.snoc (AtUs.later (fun _ _ z => z) e7 r6) (AtU.later (fun _ _ z => z) e7 a6)
    · rintro H2 ⟨α2, O2, acc, av, w2, s2, e2, r2, l2, q2⟩
      rw [List.drop_length, compUR] at q2
      obtain ⟨s12, w3, hmu⟩ := unb_ok (B := B) (s1.trans s2) R.own (own_less w2)
      have hb : ∀ b, Mu B α2 (unb O O2) b → Mu (With B D) α2 O2 b := fun b m => (hmu b m).elim (fun m => .inl (.inl m)) .inr
      refine hq.to q2 s12 w3 (.l e2 (fun m => ?_) (AtUs.later (fun _ _ z => z) (fun a o m e _ => ⟨e, fun z => m (hb a z)⟩) r2))
      rcases hmu D m with m | m
      · exact hDB m
      · exact w2.nb D m (.inr rfl)
  · cases c
theorem flat_ints (ns : List Int) : (ns.map V.int).all flatV = true := by
  rw [List.all_map]
  exact List.all_eq_true.mpr fun _ _ => rfl
theorem sd_idx {r z : Y} (dr : Sd G k Γ r) (dz : Sd G k Γ z) : Sd G k Γ (.idx r z) := .ofE _ (fun _ => rfl) fun X W0 S g e c => by
  split at c
  · rename_i o m ap e cp
    obtain ⟨c, c6⟩ := ba c
    obtain ⟨c, c5⟩ := ba c
    obtain ⟨c, c4⟩ := ba c
    obtain ⟨c, c3⟩ := ba c
    obtain ⟨c1, c2⟩ := ba c
    cases of_decide_eq_true c2
    have hs := @starEach_plain e [] X.env c4
    refine pe_imp (pe_bm PySem.F.plainAttrs_list PySem.F.slot_list_index PySem.F.type_list_index mt_index (dr.E X W0 S g _ c5) (pa_one (dz.E X W0 S g _ c6) c4) (base_of c3) (by rw [hs]; rfl) c1 hs (by rfl)) fun σ H Q ⟨B, α, ρ, O, Q0, E0, R, h, hq, hl⟩ => ?_
    refine seqE R h hl fun u O0 h' α0 v0 H0 s0 w0 a0 => ?_
    obtain ⟨x0, e0, h'⟩ := nrK_of h'
    cases x0 with
    | lst ds0 =>
      obtain ⟨p, ws, rfl, e1, r1⟩ := (Vw.of w0 a0 e0).lst
      refine ⟨.inl ⟨rfl, ws, SqL.of e1⟩, ?_⟩
      refine seqE (R.stp s0 w0) h' (hl.stp s0) fun w O1 f α1 v1 H1 s1 w1 a1 => ?_
      obtain ⟨x, e2, f⟩ := nrK_of f
      obtain ⟨y, e3, f⟩ := nrK_of f
      have ax := Vw.of w1 (s1.atU a0) e2
      have ay := Vw.of w1 a1 e3
      cases x with
      | lst ds =>
        cases y with
        | int i =>
            obtain ⟨ns, rfl, j, h1, h2, f⟩ := f
            obtain ⟨p', ws', ep, e4, r4⟩ := ax.lst
            obtain rfl := ay.int
            obtain rfl := r4.toInts
            rw [g.hK]
            refine ⟨p, ns.map V.int, .int i, j, .int i, rfl, rfl, by cases ep; exact SqL.of e4, rfl, flat_ints ns, by rw [List.getElem?_map, h1]; rfl, by simp [eqV], fun m z' hm ez => ?_, hq.to f (s0.trans s1) w1 (.d (.int _))⟩
            rw [List.getElem?_map] at ez
            cases q : ns[m]? with
            | none => rw [q] at ez; cases ez
            | some n =>
              rw [q] at ez
              cases ez
              have hne : n ≠ i := fun z => h2 m hm (by rw [q, z])
              simp [eqV, hne]
        | _ => exact f.elim
      | _ => exact f.elim
    | _ => exact h'.elim
  · cases c
theorem in_it {J : L2.It} {n : Nat} {Gd : Hp → Prop} {Yy : Nat → Hp → V → Hp → Prop} (w : L2.Walk J n Gd Yy) {g : TG} {tt : TT} {te : TE} {vs : List Nat} {σ : L2.St} {H1 : Hp} {D : Addr} {Qd : Hp → Prop} (Pv : Nat → Hp → Prop) (h0 : Pv 0 H1) (hG : ∀ i H, i ≤ n → Pv i H → Gd H)
    (hs : ∀ i x H H', i < n → Pv i H → Yy i H x H' → g x (wipe σ vs) H' fun σ2 H2 => wipe σ2 vs = wipe σ vs ∧ tt σ2 H2 fun b H3 =>
      if b = true then te σ2 H3 fun y H4 => ∃ acc, H4 D = some (.lst acc) ∧ acc.length < sizeLine ∧ Pv (i + 1) (upd H4 D (.lst (acc ++ [y]))) else Pv (i + 1) H3) (hd : ∀ H, Pv n H → Qd H) :
    ∃ W : Nat → Nat → Hp → Prop, (∃ m, W 0 m H1) ∧ ∀ i m H, W i m H →
      (J.stop i H ∧ Qd H) ∨ (J.go i H ∧ ∃ Nx : Hp → Prop, (∀ H', Nx H' → ∃ m', m' < m ∧ W (i + 1) m' H') ∧ ∀ x H', J.yld i H x H' → g x (wipe σ vs) H' fun σ2 H2 => wipe σ2 vs = wipe σ vs ∧ tt σ2 H2 fun b H3 =>
        if b = true then te σ2 H3 fun y H4 => ∃ acc, H4 D = some (.lst acc) ∧ acc.length < sizeLine ∧ Nx (upd H4 D (.lst (acc ++ [y]))) else Nx H3) := by
  refine ⟨fun i m H => m = n - i ∧ i ≤ n ∧ Pv i H, ⟨n, by simp, Nat.zero_le _, h0⟩, ?_⟩
  rintro i m H ⟨rfl, hi, p⟩
  have q := hG i H hi p
  by_cases hlt : i < n
  · refine .inr ⟨w.goes i H hlt q, Pv (i + 1), fun H' p' => ⟨n - (i + 1), by omega, rfl, hlt, p'⟩, fun x H' y => hs i x H H' hlt p (w.yields i H x H' hlt q y)⟩
  · have e : i = n := by omega
    subst e
    exact .inl ⟨w.stops H q, hd H p⟩
theorem out_it {J : L2.It} {n : Nat} {Gd : Hp → Prop} {Yy : Nat → Hp → V → Hp → Prop} (w : L2.Walk J n Gd Yy) {g : TG} {tt : TT} {body : L2.St → Hp → (Hp → Prop) → Prop} {vs : List Nat} {σ : L2.St} {H1 : Hp} {Qd : Hp → Prop} (Pv : Nat → Hp → Prop) (h0 : Pv 0 H1) (hG : ∀ i H, i ≤ n → Pv i H → Gd H)
    (hs : ∀ i x H H', i < n → Pv i H → Yy i H x H' → g x (wipe σ vs) H' fun σ2 H2 => wipe σ2 vs = wipe σ vs ∧ tt σ2 H2 fun b H3 =>
      if b = true then body σ2 H3 (Pv (i + 1)) else Pv (i + 1) H3) (hd : ∀ H, Pv n H → Qd H) :
    ∃ W : Nat → Nat → Hp → Prop, (∃ m, W 0 m H1) ∧ ∀ i m H, W i m H →
      (J.stop i H ∧ Qd H) ∨ (J.go i H ∧ ∃ Nx : Hp → Prop, (∀ H', Nx H' → ∃ m', m' < m ∧ W (i + 1) m' H') ∧ ∀ x H', J.yld i H x H' → g x (wipe σ vs) H' fun σ2 H2 => wipe σ2 vs = wipe σ vs ∧ tt σ2 H2 fun b H3 =>
        if b = true then body σ2 H3 Nx else Nx H3) := by
  refine ⟨fun i m H => m = n - i ∧ i ≤ n ∧ Pv i H, ⟨n, by simp, Nat.zero_le _, h0⟩, ?_⟩
  rintro i m H ⟨rfl, hi, p⟩
  have q := hG i H hi p
  by_cases hlt : i < n
  · refine .inr ⟨w.goes i H hlt q, Pv (i + 1), fun H' p' => ⟨n - (i + 1), by omega, rfl, hlt, p'⟩, fun x H' y => hs i x H H' hlt p (w.yields i H x H' hlt q y)⟩
  · have e : i = n := by omega
    subst e
    exact .inl ⟨w.stops H q, hd H p⟩
theorem unb_snoc : ∀ {O s : List DO} {x : DO}, O.length ≤ s.length → unb O (s ++ [x]) = unb O s ++ [x]
  | [], _, _, _ => rfl
  | _ :: _, [], _, h => by simp at h
  | o :: r, y :: s, x, h => by
    show unb1 o y :: unb r (s ++ [x]) = unb1 o y :: (unb r s ++ [x])
    rw [unb_snoc (by simpa using h)]
theorem drop_at {α : Type} {xs : List α} {i : Nat} {d : α} (e : xs[i]? = some d) : xs.drop i = d :: xs.drop (i + 1) := by
  obtain ⟨hlt, ed⟩ := List.getElem?_eq_some_iff.mp e
  rw [← ed]
  exact List.drop_eq_getElem_cons hlt
theorem take_keep {α : Type} {l : List α} {k n : Nat} {x : α} (h : k < n) (e : l[k]? = some x) : (l.take n)[k]? = some x := by
  rw [List.getElem?_take_of_lt h]; exact e
theorem snoc_of {α : Type} {l : List α} {n : Nat} {x : α} (h : l.length = n + 1) (e : l[n]? = some x) : l = l.take n ++ [x] := by
  have h1 : n < l.length := by omega
  obtain ⟨_, e2⟩ := List.getElem?_eq_some_iff.mp e
  have h2 := List.take_append_drop n l
  rw [List.drop_eq_getElem_cons h1, e2, List.drop_eq_nil_of_le (by omega)] at h2
  exact h2.symm
theorem comp2_ex (own : Bool) (vs vs1 : List Nat) (tg tg1 : T1) {src src1 tst elt : Y} (ds : Sd G k Γ src) (ds1 : Sd G k Γ src1) (dt : Sd G k Γ tst) (de : Sd G k Γ elt) (hy : isYes tst = true → tst = .yes) {X : Cx} {W0 : XK} {S : Sx} (g : Good X G W0 k S Γ) {e : Expr}
    (c : comp2C (ck (Γ.map (·.1)) src1) (ck (Γ.map (·.1)) tst) (ck (Γ.map (·.1)) elt) (ck (Γ.map (·.1)) src S) S vs vs1 tg tg1 (isYes tst) e = true) :
    ∃ (e0 t it t1 it1 : Expr) (ifs : List Expr) (scope : Scope) (pos : Pos) (wi wi1 : TI) (gg gg1 : TG) (tt1 : TT) (te : TE), e = .ListComp e0 [⟨t, it, [], 0⟩, ⟨t1, it1, ifs, 0⟩] scope pos ∧ PI X t it wi ∧ BlkOk X.N X.env.scope scope (ownN S.N vs) ∧ (∀ i ∈ vs1, i ∈ (ownN S.N vs).map (·.2)) ∧
      (∀ (s : Shared) (H : Hp) (C : Addr) (cl : List (Str × Addr)) (fp : List Addr), PG (X.blk s H scope (compEnvC scope cl C X.env) fp) t gg) ∧
      (∀ (s : Shared) (H : Hp) (C : Addr) (cl : List (Str × Addr)) (fp : List Addr), PI (X.blk s H scope (compEnvC scope cl C X.env) fp) t1 it1 wi1) ∧
      (∀ (s : Shared) (H : Hp) (C : Addr) (cl : List (Str × Addr)) (fp : List Addr), PG (X.blk s H scope (compEnvC scope cl C X.env) fp) t1 gg1) ∧
      (∀ (s : Shared) (H : Hp) (C : Addr) (cl : List (Str × Addr)) (fp : List Addr), PTs (X.blk s H scope (compEnvC scope cl C X.env) fp) ifs tt1) ∧
      (∀ (s : Shared) (H : Hp) (C : Addr) (cl : List (Str × Addr)) (fp : List Addr), PE (X.blk s H scope (compEnvC scope cl C X.env) fp) e0 te) ∧ (∀ x, foldedSetIterable it X.env x = pure x) ∧ (∀ env x, foldedSetIterable it1 env x = pure x) ∧
      ∀ σ H Q, LfE G W0 (vc Γ (.comp2 own vs vs1 tg tg1 src src1 tst elt)) σ H Q → tLc2 wi gg tYes wi1 gg1 tt1 te ((ownN S.N vs).map (·.2)) vs1 σ H Q := by
  unfold comp2C at c
  split at c
  · rename_i e0 t it t1 it1 ifs scope pos
    obtain ⟨c, c12⟩ := ba c
    obtain ⟨c, c11⟩ := ba c
    obtain ⟨c, c10⟩ := ba c
    obtain ⟨c, c9⟩ := ba c
    obtain ⟨c, c8⟩ := ba c
    obtain ⟨c, c7⟩ := ba c
    obtain ⟨c, c6⟩ := ba c
    obtain ⟨c, c5⟩ := ba c
    obtain ⟨c, c4⟩ := ba c
    obtain ⟨c, c3⟩ := ba c
    obtain ⟨c1, c2⟩ := ba c
    have gb := fun s H C cl fp => good_blk g scope s H C cl fp
    have ok : BlkOk X.N X.env.scope scope (ownN S.N vs) := by
      rw [g.hN, g.sc]
      exact blkOk_by c1
    have hvs : (ownN S.N vs).map (·.2) = vs := by unfold ownN; rw [List.map_map]; exact List.map_id vs
    have hsl : ∀ i ∈ slots tg, i ∈ vs := fun i hi => by
      have := List.all_eq_true.mp c3 i hi
      simpa using this
    have hsl1 : ∀ i ∈ slots tg1, i ∈ vs1 := fun i hi => by
      have := List.all_eq_true.mp c7 i hi
      simpa using this
    have hv1 : ∀ i ∈ vs1, i ∈ vs := fun i hi => by
      have := List.all_eq_true.mp c8 i hi
      simpa using this
    have ht : ∀ (s : Shared) (H : Hp) (C : Addr) (cl : List (Str × Addr)) (fp : List Addr), PTs (X.blk s H scope (compEnvC scope cl C X.env) fp) ifs (LfT G (fun _ _ _ => False) (vc Γ tst)) := fun s H C cl fp => by
      split at c11
      · rw [hy c11]
        exact pts_imp pts_nil fun σ H Q ⟨B, α, ρ, O, Q0, E0, R, h, hq, hl⟩ => hq.to h Stp.refl R.own
      · exact pts_one (dt.T _ _ _ (gb s H C cl fp) _ (ba c11).2)
      · cases c11
    refine ⟨e0, t, it, t1, it1, ifs, scope, pos, _, _, _, _, _, _, rfl, ds.I X W0 S g _ _ c4, ok, by rw [hvs]; exact hv1, fun s H C cl fp => sd_tg (gb s H C cl fp) c2, fun s H C cl fp => ds1.I _ _ _ (gb s H C cl fp) _ _ c9, fun s H C cl fp => sd_tg (gb s H C cl fp) c6, ht, fun s H C cl fp => de.E _ _ _ (gb s H C cl fp) _ c12, folded_of c5, fun env => folded_of c10, fun σ H Q ⟨B, α, ρ, O, Q0, E0, R, h, hq, hl⟩ => ?_⟩
    rw [hvs]
    refine ⟨B, α, ρ, O, _, E0, R, h, fun us O1 q => ?_, hl⟩
    obtain ⟨xs, rfl, q⟩ := q
    refine ⟨xs, rfl, fun α1 H1 J s1 w1 wk D hD => ?_⟩
    obtain ⟨Gd, Yy, wk, hwk⟩ := wk.ex
    have hO1 : O1.length = α1.length := w1.len.symm
    have hDat : (α1 ++ [D])[O1.length]? = some D := by rw [hO1, List.getElem?_append_right (Nat.le_refl _), Nat.sub_self]; rfl
    have w1' : Own G B (α1 ++ [D]) (O1 ++ [.lst []]) (upd H1 D (.lst [])) := own_own w1 hD .nil
    have s1' : Stp α1 O1 H1 (α1 ++ [D]) (O1 ++ [.lst []]) (upd H1 D (.lst [])) := stp_own w1 hD
    -- a cut at what stood there
    have cut : ∀ {α2 α3 : List Addr} {O2 O3 : List DO} {H2 H3 : Hp}, Stp α2 O2 H2 α3 O3 H3 → Own G B α2 O2 H2 → Own G B α3 O3 H3 → Own G B α2 (O3.take O2.length) H3 ∧ Stp α2 O2 H2 α2 (O3.take O2.length) H3 := fun {α2 α3 O2 O3 H2 H3} s w w' => by
      have h1 := stp_take s w
      have h2 := own_take w' O2.length
      rw [← w.len] at h2 ⊢
      rw [h1.2] at h2
      exact ⟨h2, h1.1⟩
    have rep : ∀ {α0 α2 : List Addr} {O0 O2 : List DO} {H0 H2 : Hp} {σ0 : L2.St} {ρ0 : List (Option U)} (vv : List Nat), Rep G B α0 σ0 H0 ρ0 O0 → Stp α0 O0 H0 α2 O2 H2 → Own G B α2 O2 H2 → Rep G B α2 (wipe σ0 vv) H2 (wipeR ρ0 vv) O2 := fun {α0 α2 O0 O2 H0 H2 σ0 ρ0} vv R s w => by
      refine ⟨fun j u e => ?_, w, by rw [wipeR_len, wipe_length]; exact R.len⟩
      obtain ⟨hj, e⟩ := gt_wipe e
      obtain ⟨v, ev, av⟩ := R.vars j u e
      exact ⟨v, by rw [wipe_out hj]; exact ev, s.atU av⟩
    refine out_it (tt := tYes) (g := LfG G tg) (body := fun σ2 H3 Nx => (LfI G (fun _ _ _ => False) (vc Γ src1)) σ2 H3 fun J1 H4 => ∃ W1 : Nat → Nat → Hp → Prop, (∃ m, W1 0 m H4) ∧ ∀ j k H, W1 j k H →
      (J1.stop j H ∧ Nx H) ∨ (J1.go j H ∧ ∃ Nx1 : Hp → Prop, (∀ H', Nx1 H' → ∃ k', k' < k ∧ W1 (j + 1) k' H') ∧ ∀ x H', J1.yld j H x H' → (LfG G tg1) x (wipe σ2 vs1) H' fun σ3 H5 => wipe σ3 vs1 = wipe σ2 vs1 ∧ (LfT G (fun _ _ _ => False) (vc Γ tst)) σ3 H5 fun b H6 =>
        if b = true then (LfE G (fun _ _ _ => False) (vc Γ elt)) σ3 H6 fun y H7 => ∃ acc, H7 D = some (.lst acc) ∧ acc.length < sizeLine ∧ Nx1 (upd H7 D (.lst (acc ++ [y]))) else Nx1 H6)) wk
      (fun i H => ∃ O2, Own G B (α1 ++ [D]) O2 H ∧ Stp α1 O1 H1 (α1 ++ [D]) O2 H ∧
      compO tg (vc Γ src1 fun _ _ => False) (fun ρ1 n es O Q => compI tg1 (vc Γ tst fun _ _ => False) (vc Γ elt fun _ _ => False) (wipeR ρ1 vs1) O1.length n es O Q) (wipeR ρ vs) O1.length (xs.drop i) O2 fun O2 => match go O2 O1.length with
        | some (.lst acc) => newL own acc (unb O (O2.take O1.length)) Q0
        | _ => False) ?_ ?_ ?_ ?_
    · exact ⟨_, w1', s1', q⟩
    · rintro i H2 hi ⟨O2, w2, s2, q2⟩
      exact (hwk _ _ _ _ (fun b m => m.elim (fun m => .inl (.inl m)) fun m => (s2.new b m).imp_left .inr) s2.keep w2).1
    · rintro i x H2 H3 hi ⟨O2, w2, s2, q2⟩ y
      obtain ⟨d, ed, hH3, ax⟩ := (hwk _ _ _ _ (fun b m => m.elim (fun m => .inl (.inl m)) fun m => (s2.new b m).imp_left .inr) s2.keep w2).2 i x H3 hi y
      have st3 : Stp (α1 ++ [D]) O2 H2 (α1 ++ [D]) O2 H3 ∧ Own G B (α1 ++ [D]) O2 H3 := by
        rcases hH3 with rfl | ⟨p, vs, hp, rfl⟩
        · exact ⟨Stp.refl, w2⟩
        · exact ⟨stp_new hp, own_new w2 hp⟩
      obtain ⟨s3, w3⟩ := st3
      rw [drop_at ed, compO] at q2
      have s13 := s2.trans s3
      have lO2 : O2.length = O1.length + 1 := by rw [← w2.len, List.length_append, ← hO1]; rfl
      refine ⟨B, α1 ++ [D], O2, wipeR ρ vs, d, _, rep vs R (s1.trans s13) w3, ax, q2, fun ρ1 q3 σ2 R4 hs hl4 => ⟨wipe_back hsl hs (by rw [hl4, wipe_length]), ?_⟩⟩
      unfold tYes
      simp only [if_true]
      refine ⟨B, α1 ++ [D], ρ1, O2, _, _, R4, q3, fun us O4 q4 => ?_, fun _ _ z => z.elim⟩
      obtain ⟨es, rfl, q4⟩ := q4
      refine ⟨es, rfl, fun α4 H4 J1 s4 w4 wk1 => ?_⟩
      obtain ⟨Gd1, Yy1, wk1, hwk1⟩ := wk1.ex
      have hD4 : α4[O1.length]? = some D := s4.idx hDat
      have hlt4 : O1.length < O4.length := by
        rw [← w4.len]
        exact (List.getElem?_eq_some_iff.mp hD4).1
      refine in_it wk1 (fun j H => ∃ O5, Own G B α4 O5 H ∧ Stp α4 O4 H4 α4 O5 H ∧
        compI tg1 (vc Γ tst fun _ _ => False) (vc Γ elt fun _ _ => False) (wipeR ρ1 vs1) O1.length O4.length (es.drop j) O5 fun O2 => compO tg (vc Γ src1 fun _ _ => False) (fun ρ1 n es O Q => compI tg1 (vc Γ tst fun _ _ => False) (vc Γ elt fun _ _ => False) (wipeR ρ1 vs1) O1.length n es O Q) (wipeR ρ vs) O1.length (xs.drop (i + 1)) (O2.take (O1.length + 1)) fun O2 => match go O2 O1.length with
          | some (.lst acc) => newL own acc (unb O (O2.take O1.length)) Q0
          | _ => False) ⟨O4, w4, Stp.refl, q4⟩ ?_ ?_ ?_
      · rintro j H5 hj ⟨O5, w5, s5, q5⟩
        exact (hwk1 _ _ _ _ (fun b m => m.elim (fun m => .inl (.inl m)) fun m => (s5.new b m).imp_left .inr) s5.keep w5).1
      · rintro j x1 H5 H6 hj ⟨O5, w5, s5, q5⟩ y1
        obtain ⟨d1, ed1, hH6, ax1⟩ := (hwk1 _ _ _ _ (fun b m => m.elim (fun m => .inl (.inl m)) fun m => (s5.new b m).imp_left .inr) s5.keep w5).2 j x1 H6 hj y1
        have st6 : Stp α4 O5 H5 α4 O5 H6 ∧ Own G B α4 O5 H6 := by
          rcases hH6 with rfl | ⟨p, vs, hp, rfl⟩
          · exact ⟨Stp.refl, w5⟩
          · exact ⟨stp_new hp, own_new w5 hp⟩
        obtain ⟨s6, w6⟩ := st6
        rw [drop_at ed1, compI] at q5
        have s46 := s5.trans s6
        have lO5 : O5.length = O4.length := by rw [← w5.len, ← w4.len]
        refine ⟨B, α4, O5, wipeR ρ1 vs1, d1, _, rep vs1 R4 (s4.trans s46) w6, ax1, q5, fun ρ2 q6 σ3 R6 hs1 hl6 => ⟨wipe_back hsl1 hs1 (by rw [hl6, wipe_length]), ?_⟩⟩
        refine seqT (E0 := fun _ _ => False) R6 q6 (fun _ _ z => z.elim) fun b O7 q7 α7 H7 s7 w7 => ?_
        cases b with
        | false =>
          rw [if_neg (by decide)]
          obtain ⟨w8, s8⟩ := cut s7 w6 w7
          rw [lO5] at w8 s8
          exact ⟨_, w8, s46.trans s8, q7.2 rfl⟩
        | true =>
          rw [if_pos rfl]
          refine seqE (E0 := fun _ _ => False) (R6.stp s7 w7) (q7.1 rfl) (fun _ _ z => z.elim) fun u8 O8 q8 α8 v8 H8 s8 w8 a8 => ?_
          obtain ⟨x8, e8, q8⟩ := toK_of q8
          have ax8 := At.of w8 a8 e8
          rw [go_eq] at q8
          cases qo : O8[O1.length]? with
          | none => rw [qo] at q8; exact q8.elim
          | some oo =>
            rw [qo] at q8
            cases oo with
            | frz _ => exact q8.elim
            | brw _ => exact q8.elim
            | ob _ _ => exact q8.elim
            | lst acc =>
              obtain ⟨hz, q8⟩ := q8
              rw [so_eq] at q8
              have s78 := s7.trans s8
              have hD8 : α8[O1.length]? = some D := s78.idx hD4
              obtain ⟨av, eD, rD⟩ := w8.at_ _ D _ hD8 qo
              have s9 : Stp α8 O8 H8 α8 (O8.set O1.length (.lst (acc ++ [x8]))) (upd H8 D (.lst (av ++ [v8]))) := stp_set hD8 qo rfl
              have w9 := own_set w8 hD8 qo (rD.append (.cons ax8 .nil))
              obtain ⟨w10, s10⟩ := cut (s78.trans s9) w6 w9
              rw [lO5] at w10 s10
              exact ⟨av, eD, by rw [rD.length]; exact hz, _, w10, s46.trans s10, q8⟩
      · rintro H5 ⟨O5, w5, s5, q5⟩
        rw [List.drop_length, compI] at q5
        obtain ⟨w6, s6⟩ := cut (s4.trans s5) w3 w5
        rw [lO2] at w6 s6
        exact ⟨_, w6, s13.trans s6, q5⟩
    · rintro H2 ⟨O2, w2, s2, q2⟩
      rw [List.drop_length, compO, go_eq] at q2
      have lO2 : O2.length = O1.length + 1 := by rw [← w2.len, List.length_append, ← hO1]; rfl
      cases qo : O2[O1.length]? with
      | none => rw [qo] at q2; exact q2.elim
      | some oo =>
        rw [qo] at q2
        cases oo with
        | frz _ => exact q2.elim
        | brw _ => exact q2.elim
        | ob _ _ => exact q2.elim
        | lst acc =>
          have hOO : O.length ≤ O1.length := by
            obtain ⟨m, e⟩ := s1.pre
            rw [hO1, e, List.length_append, ← R.own.len]
            omega
          have hO2 := snoc_of lO2 qo
          obtain ⟨s12, w12, hmu⟩ := unb_ok (s1.trans s2) R.own w2
          rw [hO2, unb_snoc (by rw [List.length_take]; omega)] at s12 w12
          have lt : (unb O (O2.take O1.length)).length = O1.length := by rw [unb_len, List.length_take]; omega
          cases own with
          | true =>
            exact hq.to q2 s12 w12 (.o (by rw [lt]; exact hDat))
          | false =>
            have qo3 : (unb O (O2.take O1.length) ++ [DO.lst acc])[O1.length]? = some (.lst acc) := by
              rw [List.getElem?_append_right (by omega), lt, Nat.sub_self]; rfl
            have s13 := stp_frz (α := α1 ++ [D]) (H := H2) (d := acc) qo3 rfl
            have w13 := own_frz w12 qo3
            have aD : At G.K (Mu B (α1 ++ [D]) ((unb O (O2.take O1.length) ++ [DO.lst acc]).set O1.length (.frz acc))) H2 (.ref D) (.lst acc) := w13.at_ O1.length D (.frz acc) hDat (by rw [List.getElem?_set_self (by rw [List.length_append, lt]; simp)])
            have s14 := s12.trans s13
            have st := own_take w13 α1.length
            have e1 : (α1 ++ [D]).take α1.length = α1 := by rw [List.take_left' rfl]
            have e2 : ((unb O (O2.take O1.length) ++ [DO.lst acc]).set O1.length (.frz acc)).take α1.length = unb O (O2.take O1.length) := by
              rw [← hO1, List.take_set, List.take_left' lt]
              exact List.set_eq_of_length_le (by rw [lt]; exact Nat.le_refl _)
            rw [e1, e2] at st
            have s15 : Stp α O H α1 (unb O (O2.take O1.length)) H2 := by
              refine ⟨s1.pre, s14.keep, s14.there, fun b m => s14.new b ?_, fun b m => s14.hnew b ?_, fun b m => s14.fresh b (List.mem_append_left _ m)⟩
              · rw [← e1, ← e2] at m; exact ow_take m
              · rw [← e1, ← e2] at m; exact ho_take m
            exact hq.to q2 s15 st (.d (aD.less fun b m => by rw [← e1, ← e2] at m; exact mu_take m))
  · cases c
theorem sd_comp2 (own : Bool) (vs vs1 : List Nat) (tg tg1 : T1) {src src1 tst elt : Y} (ds : Sd G k Γ src) (ds1 : Sd G k Γ src1) (dt : Sd G k Γ tst) (de : Sd G k Γ elt) (hy : isYes tst = true → tst = .yes) : Sd G k Γ (.comp2 own vs vs1 tg tg1 src src1 tst elt) := .ofE _ (fun _ => rfl) fun X W0 S g e c => by
  obtain ⟨e0, t, it, t1, it1, ifs, scope, pos, wi, wi1, gg, gg1, tt1, te, rfl, pi, ok, hv, hg, hi1, hg1, ht1, he, hs, hs1, imp⟩ := comp2_ex own vs vs1 tg tg1 ds ds1 dt de hy g c
  exact pe_imp (pe_lc2 g.calm g.nd pi ok hv hg (fun _ _ _ _ _ => pts_nil) hi1 hg1 ht1 he hs hs1) imp
theorem frzAll_ok {B : Addr → Prop} {α : List Addr} {H : Hp} : ∀ (us : List U) {O : List DO}, Own G B α O H → Stp α O H α (frzAll us O) H ∧ Own G B α (frzAll us O) H
  | [], O, w => ⟨Stp.refl, w⟩
  | .o j :: us, O, w => by
    rw [frzAll]
    split
    · rename_i ds e
      rw [go_eq] at e
      rw [so_eq]
      have s1 : Stp α O H α (O.set j (.frz ds)) H := stp_frz e rfl
      obtain ⟨s2, w2⟩ := frzAll_ok us (own_frz w e)
      exact ⟨s1.trans s2, w2⟩
    · exact frzAll_ok us w
  | .d _ :: us, O, w => frzAll_ok us (O := O) w
  | .t _ :: us, O, w => frzAll_ok us (O := O) w
  | .l _ :: us, O, w => frzAll_ok us (O := O) w
theorem sd_fzl {z : Y} (dz : Sd G k Γ z) : Sd G k Γ (.fzl z) := .ofE _ (fun _ => rfl) fun X W0 S g e c => by
  refine pe_imp (dz.E X W0 S g e c) fun σ H Q ⟨B, α, ρ, O, Q0, E0, R, h, hq, hl⟩ => ?_
  refine seqE R h hl fun u O1 f α1 v H1 s1 w1 a1 => ?_
  cases u with
  | l ws =>
    obtain ⟨d, e, f⟩ := toK_of f
    obtain ⟨s2, w2⟩ := frzAll_ok ws w1
    exact hq.to f (s1.trans s2) w2 (.d (At.of w2 (s2.atU a1) e))
  | _ => exact f.elim
theorem sd_compU (vs : List Nat) (tg : T1) {src elt : Y} (ds : Sd G k Γ src) (de : Sd G k Γ elt) : Sd G k Γ (.compU vs tg src elt) := .ofE _ (fun _ => rfl) fun X W0 S g e c => by
  obtain ⟨e0, t, it, ifs, scope, pos, wi, gg, tt, te, rfl, hi, ok, hg, ht, he, hs, imp⟩ := comp_exU vs tg ds de g c
  exact pe_imp (pe_lc g.calm g.nd hi ok hg ht he hs) imp
theorem sd_comp (own : Bool) (vs : List Nat) (tg : T1) {src tst elt : Y} (ds : Sd G k Γ src) (dt : Sd G k Γ tst) (de : Sd G k Γ elt) (hy : isYes tst = true → tst = .yes) : Sd G k Γ (.comp own vs tg src tst elt) := .ofE _ (fun _ => rfl) fun X W0 S g e c => by
  obtain ⟨e0, t, it, ifs, scope, pos, wi, gg, tt, te, rfl, hi, ok, hg, ht, he, hs, imp⟩ := comp_ex own vs tg ds dt de hy g c
  exact pe_imp (pe_lc g.calm g.nd hi ok hg ht he hs) imp
/-- an object is made -/
theorem mk_low {P : ZSp} {c : Str × List Str} {vs : List V} {H : Hp} {Q : VK} {E : XK} {x dx : Addr} (h : lowSp G (mkZ c P) vs H Q E) (hc : OkC G.K c.1 c.2) (h1 : H x = none) (h2 : H dx = none) (hne : dx ≠ x) :
    lowSp G P (.ref x :: vs) (upd (upd H dx (.own x)) x (.ins (He.ga G.K c.1) dx [])) (fun v H2 => v = .non ∧ Q (.ref x) H2) E := by
  obtain ⟨B, α, O, us, Q0, E0, w, a, p, hq, hl⟩ := h
  have w1 := own_new (o := .own x) w h2
  have s1 := stp_new (α := α) (O := O) (o := .own x) h2
  have hx1 : upd H dx (.own x) x = none := by rw [upd_ne (Ne.symm hne)]; exact h1
  have w2 := own_ownO (dx := dx) w1 hx1 hc
  have s2 := stp_ownO (o := .ob c []) (ho := .ins (He.ga G.K c.1) dx []) w1 hx1
  have s := s1.trans s2
  unfold mkZ at p
  refine ⟨B, α ++ [x], O ++ [DO.ob c []], .o O.length :: us, _, _, w2, .cons (.o (by rw [← w.len, List.getElem?_append_right (Nat.le_refl _), Nat.sub_self]; rfl)) (s.atUs a), p, ?_, ?_⟩
  · intro u O' ⟨hu, fs, hg, q⟩ α' v H' s' w' a'
    subst hu
    cases a' with
    | d a' =>
    cases a'
    refine ⟨rfl, ?_⟩
    have S := s.trans s'
    have S3 := stp_take S w
    have W3 := own_take w' α.length
    rw [S3.2] at W3
    have S3 := S3.1
    rw [w.len] at S3 W3
    have ex : α'[O.length]? = some x := by
      obtain ⟨m, e⟩ := s'.pre
      rw [e, ← w.len, List.append_assoc, List.getElem?_append_right (Nat.le_refl _), Nat.sub_self]; rfl
    rw [go_eq] at hg
    obtain ⟨dx', gs, e, ⟨hc1, hc2, _⟩, hn, r⟩ := w'.at_ _ _ _ ex hg
    have hm3 : ∀ b, Mu B α (O'.take O.length) b → Mu B α' O' b := fun b m => by
      rcases m with m | ⟨j, o, e1, e2, lo⟩
      · exact .inl m
      · obtain ⟨mm, e⟩ := S.pre
        refine .inr ⟨j, o, ?_, take_some e2, lo⟩
        rw [e, List.getElem?_append_left (List.getElem?_eq_some_iff.mp e1).1]; exact e1
    refine hq _ _ q α (.ref x) H' S3 W3 (.d (.obj e ?_ ⟨hc1.1, fun f hf => hc1.2.1 f (hc2 f hf), hc1.2.2⟩ hn (r.less hm3)))
    rintro (m | ⟨j, o, e1, e2, lo⟩)
    · exact w'.nb x ⟨_, _, ex, hg, rfl⟩ m
    · exact own_fresh w1 hx1 (List.mem_of_getElem? e1)
  · intro x' O' q α' cls dd H' s' w' a'
    have S := s.trans s'
    have S3 := stp_take S w
    have W3 := own_take w' α.length
    rw [S3.2] at W3
    have S3 := S3.1
    rw [w.len] at S3 W3
    have hm3 : ∀ b, Mu B α (O'.take O.length) b → Mu B α' O' b := fun b m => by
      rcases m with m | ⟨j, o, e1, e2, lo⟩
      · exact .inl m
      · obtain ⟨mm, e⟩ := S.pre
        refine .inr ⟨j, o, ?_, take_some e2, lo⟩
        rw [e, List.getElem?_append_left (List.getElem?_eq_some_iff.mp e1).1]; exact e1
    refine hl x' _ q α cls dd H' S3 W3 ?_
    obtain ⟨h1, dx, fs, h2, h3, h4, h5, h6⟩ := a'
    exact ⟨h1, dx, fs, h2, h3, fun m => h4 (hm3 _ m), h5, h6.less hm3⟩
theorem run_mk {X : Cx} {W0 : XK} {c : Str} {al : List Str} {f : Addr} {j : Nat} {P : ZSp} {pins : List (Addr × Obj)} {σ : L2.St} {H : Hp} {s : Shared} {us : List Value} {vs : List V} {Q : VK} (hK : X.K = G.K) (M : Mk X.K (He.ga X.K c) f) (hc : OkC X.K c al) (F : FnRK X.prog X.w X.K X.mg X.base j f [] (lowSp G P)) (hr : Room k X.A) (hj : j + 1 ≤ k)
    (hx : Passes (L2.CX X.prog X.w) X W0) (I : Inv X pins σ H s) (r : Vals vs us) (h : lowSp G (mkZ (c, al) P) vs H Q W0) : wpAny (model X.prog X.w) X.A (call (.ref (He.ga X.K c)) us) (EP X pins σ Q) X.xe s := by
  have hq := mk_low (x := s.heap.objs.size + 1) (dx := s.heap.objs.size) h (by rw [← hK]; exact hc) (I.hok.fresh (Nat.le_succ _)) (I.hok.fresh (Nat.le_refl _)) (Nat.ne_of_lt (Nat.lt_succ_self _))
  rw [← hK] at hq
  have I2 := Inv.made (C := He.ga X.K c) I
  refine wpAny_call (make_map (f := f) I.kIn M.makes M.init (beq_iff_eq.mp M.fn) (codeAny_mono (F _ X.stack _ _ (.ref (s.heap.objs.size + 1) :: us) [] (.ref (s.heap.objs.size + 1) :: vs) [] _ W0 ((hr.mono hj).make (He.ga X.K c) us [])
    (I2.env0.make (He.ga X.K c) us []) (.cons rfl r) .nil rfl (by rw [List.append_nil]; exact hq)) fun r s' hq' => ?_))
  cases r with
  | error e => exact hx pins σ _ _ e s' I2 hq'
  | ok fl =>
    cases fl with
    | ret u =>
      obtain ⟨v, H', I3, rv, ev, q3⟩ := I2.after hq'
      subst ev
      exact ⟨rv, ⟨V.ref (s.heap.objs.size + 1), H', I3, rfl, q3⟩⟩
    | next => exact False.elim hq'
    | brk => exact False.elim hq'
    | cont => exact False.elim hq'
theorem run_mkk {X : Cx} {W0 : XK} {c : Str} {al kn : List Str} {f : Addr} {j : Nat} {P : ZSp} {pins : List (Addr × Obj)} {σ : L2.St} {H : Hp} {s : Shared} {ws : List Value} {zs : List V} {Q : VK} (hK : X.K = G.K) (M : Mk X.K (He.ga X.K c) f) (hc : OkC X.K c al) (F : FnRK X.prog X.w X.K X.mg X.base j f kn (lowSp G P)) (hr : Room k X.A) (hj : j + 1 ≤ k)
    (hx : Passes (L2.CX X.prog X.w) X W0) (I : Inv X pins σ H s) (r : Vals zs ws) (hn : ws.length = kn.length) (h : lowSp G (mkZ (c, al) P) zs H Q W0) : wpAny (model X.prog X.w) X.A (call (.ref (He.ga X.K c)) [] (kn.zip ws)) (EP X pins σ Q) X.xe s := by
  have hq := mk_low (x := s.heap.objs.size + 1) (dx := s.heap.objs.size) h (by rw [← hK]; exact hc) (I.hok.fresh (Nat.le_succ _)) (I.hok.fresh (Nat.le_refl _)) (Nat.ne_of_lt (Nat.lt_succ_self _))
  rw [← hK] at hq
  have I2 := Inv.made (C := He.ga X.K c) I
  refine wpAny_call (make_map (f := f) I.kIn M.makes M.init (beq_iff_eq.mp M.fn) (codeAny_mono (F _ X.stack _ _ [.ref (s.heap.objs.size + 1)] ws [.ref (s.heap.objs.size + 1)] zs _ W0 ((hr.mono hj).make (He.ga X.K c) [] (kn.zip ws))
    (I2.env0.make (He.ga X.K c) [] (kn.zip ws)) (.cons rfl .nil) r hn hq) fun r s' hq' => ?_))
  cases r with
  | error e => exact hx pins σ _ _ e s' I2 hq'
  | ok fl =>
    cases fl with
    | ret u =>
      obtain ⟨v, H', I3, rv, ev, q3⟩ := I2.after hq'
      subst ev
      exact ⟨rv, ⟨V.ref (s.heap.objs.size + 1), H', I3, rfl, q3⟩⟩
    | next => exact False.elim hq'
    | brk => exact False.elim hq'
    | cont => exact False.elim hq'
theorem sd_mkk (i : Nat) (al : List Str) {ks : Y} (dq : Sd G k Γ ks) (dk : SdK G k Γ ks) : Sd G k Γ (.mkk i al ks) := .ofE _ (fun _ => rfl) fun X W0 S g e c => by
  split at c
  · rename_i f p0 w kws p1
    obtain ⟨c, c5⟩ := ba c
    obtain ⟨c, c4⟩ := ba c
    obtain ⟨c, c3⟩ := ba c
    obtain ⟨c1, c2⟩ := ba c
    have c1 := of_decide_eq_true c1
    rw [List.getElem?_map] at c1
    cases q : Γ[i]? with
    | none => rw [q] at c1; cases c1
    | some pr =>
      obtain ⟨⟨x, kn⟩, P⟩ := pr
      rw [q] at c1
      obtain ⟨rfl, hkn⟩ := Prod.mk.inj (Option.some.inj c1)
      obtain ⟨fI, j, hm, M, hc, hj, F⟩ := FnX.mk (by have := g.fns i _ P q; rw [hkn] at this; exact this) (fun m => by rw [List.contains_iff_mem.mpr m] at c2; cases c2)
      refine ⟨fun pins s σ H Q I h => ?_⟩
      obtain ⟨B, α, ρ, O, Q0, E0, R, h, hq, hl⟩ := h
      have h : vc Γ ks E0 ρ O fun ws O2 => (match Γ[i]? with
        | some (x, P) => ws.length + al.length + 2 = x.2.length ∧ callZ (mkZ (x.1, al) P) ws O2 (fun u O3 => Q0 [u] O3) E0
        | none => False) := h
      have kf := fun pos env => kw_facts (pos := pos) (env := env) c5
      have hA := seqA (W0 := W0) (t := vc Γ ks) R h hl (Q := fun vs H1 => vs.length = ((w :: kws).filterMap (·.arg)).length ∧ lowSp G (mkZ (x, al) P) vs H1 Q W0) fun us O1 f α1 vs H1 s1 w1 a1 => by
        simp only [q] at f
        refine ⟨?_, call_low w1 a1 f.2 (fun u O' h0 α' v H' s' w' a' => hq.to h0 (s1.trans s') w' a') (hl.stp s1)⟩
        have f1 := f.1
        rw [hkn, List.length_cons, List.length_append, List.length_cons] at f1
        rw [a1.length]
        omega
      refine wpAny_Call_Name_kw (ld_glob I (glo_of g c3) hm ?_ (okn_of c4).1)
      refine PySem.W.callWith_KW0 (h₀ := X.base) I.ok.mod.kin M.kp (kf _ _).1 (thn ((dk.K X W0 S g _ (kf ⟨0, 0, 0, 0⟩ X.env).2.2.2.1 (kf ⟨0, 0, 0, 0⟩ X.env).2.2.2.2).run _ pins s σ H _ I hA) fun ws s1 ⟨zs, H1, I1, rz, hn, q1⟩ => ⟨I1.kIn, ?_⟩) (by rw [(kf _ _).2.2.1]; rfl)
      rw [(kf _ _).2.1]
      exact run_mkk g.hK M hc F g.room hj (pass_of g.takes) I1 rz (by rw [← rz.length]; exact hn) q1
  · cases c
theorem sd_mk (i : Nat) (al : List Str) {es : Y} (ks : Y) (de : Sd G k Γ es) : Sd G k Γ (.mk i al es ks) := .ofE _ (fun _ => rfl) fun X W0 S g e c => by
  have key : ∀ {f : Str}, Γ[i]?.map (·.1) = some (f, mAt :: (al ++ [mDot])) → al.contains mDot = false → ∃ P fI j, Γ[i]? = some ((f, mAt :: (al ++ [mDot])), P) ∧ X.mg f = some (.ref (He.ga X.K f)) ∧ Mk X.K (He.ga X.K f) fI ∧ OkC X.K f al ∧ j + 1 ≤ k ∧ FnRK X.prog X.w X.K X.mg X.base j fI [] (lowSp G P) := by
    intro f h1 h2
    cases q : Γ[i]? with
    | none => rw [q] at h1; cases h1
    | some p =>
      obtain ⟨⟨x, kn⟩, P⟩ := p
      rw [q] at h1
      obtain ⟨rfl, rfl⟩ := Prod.mk.inj (Option.some.inj h1)
      obtain ⟨fI, j, a1, a2, a3, a4, a5⟩ := FnX.mk (g.fns i _ P q) (fun m => by rw [List.contains_iff_mem.mpr m] at h2; cases h2)
      exact ⟨P, fI, j, rfl, a1, a2, a3, a4, a5⟩
  split at c
  · obtain ⟨c, c8⟩ := ba c
    obtain ⟨c, c7⟩ := ba c
    obtain ⟨c, c6⟩ := ba c
    obtain ⟨c, c5⟩ := ba c
    obtain ⟨c, c4⟩ := ba c
    obtain ⟨c, c3⟩ := ba c
    obtain ⟨c1, c2⟩ := ba c
    have c1 := of_decide_eq_true c1
    rw [List.getElem?_map] at c1
    have en : ks = .nil := by
      cases ks <;> first | rfl | cases c8
    subst en
    obtain ⟨P, fI, j, q, hm, M, hc, hj, F⟩ := key c1 (by simpa using c2)
    refine ⟨fun pins s σ H Q I h => ?_⟩
    obtain ⟨B, α, ρ, O, Q0, E0, R, h, hq, hl⟩ := h
    have hA := seqA (W0 := W0) (t := vc Γ es) R h hl (Q := fun vs H1 => lowSp G (mkZ (_, al) P) vs H1 Q W0) fun us O1 f α1 vs H1 s1 w1 a1 => by
      have f : (match Γ[i]? with
        | some (x, P) => callZ (mkZ (x.1, al) P) (us ++ []) O1 (fun u O3 => Q0 [u] O3) E0
        | none => False) := f
      rw [q, List.append_nil] at f
      exact call_low w1 a1 f (fun u O' h0 α' v H' s' w' a' => hq.to h0 (s1.trans s') w' a') (hl.stp s1)
    refine wpAny_Call_Name_kw (ld_glob I (glo_of g c3) hm ?_ (okn_of c4).1)
    refine PySem.W.callWith_K (h₀ := X.base) I.ok.mod.kin M.kp (thn ((de.A X W0 S g _ c7).run _ pins s σ H _ I hA) fun us s1 ⟨vs, H1, I1, r, q⟩ => ⟨I1.kIn, ?_⟩) (starEach_plain c5) (any_plain c6)
    exact run_mk g.hK M hc F g.room hj (pass_of g.takes) I1 r q
  · obtain ⟨c, c6⟩ := ba c
    obtain ⟨c, c5⟩ := ba c
    obtain ⟨c, c4⟩ := ba c
    obtain ⟨c, c3⟩ := ba c
    obtain ⟨c1, c2⟩ := ba c
    have c1 := of_decide_eq_true c1
    rw [List.getElem?_map] at c1
    have en : ks = .nil := by
      cases ks <;> first | rfl | cases c6
    subst en
    have en : es = .nil := by
      cases es <;> first | rfl | cases c5
    subst en
    obtain ⟨P, fI, j, q, hm, M, hc, hj, F⟩ := key c1 (by simpa using c2)
    refine ⟨fun pins s σ H Q I h => ?_⟩
    obtain ⟨B, α, ρ, O, Q0, E0, R, h, hq, hl⟩ := h
    have f : (match Γ[i]? with
      | some (x, P) => callZ (mkZ (x.1, al) P) [] O (fun u O3 => Q0 [u] O3) E0
      | none => False) := h
    rw [q] at f
    have f2 := call_low (vs := []) (Q := Q) R.own .nil f (fun u O' h0 α' v H' s' w' a' => hq.to h0 s' w' a') hl
    refine wpAny_Call_Name_kw (ld_glob I (glo_of g c3) hm ?_ (okn_of c4).1)
    exact PySem.W.callWith_K0 I.kIn M.kp (run_mk (us := []) g.hK M hc F g.room hj (pass_of g.takes) I .nil f2)
  · cases c
mutual
theorem sd_all : ∀ z : Y, Sd G k Γ z
  | .var i => sd_var i
  | .int i => sd_int i
  | .bl b => sd_bl b
  | .non => sd_non
  | .str x => sd_str x
  | .gint x i => sd_gint x i
  | .gstr x z => sd_gstr x z
  | .bin op a b => sd_bin op (sd_all a) (sd_all b)
  | .neg a => sd_neg (sd_all a)
  | .not a => sd_not (sd_all a)
  | .and a b => sd_and (sd_all a) (sd_all b)
  | .or a b => sd_or (sd_all a) (sd_all b)
  | .one a => sd_one (sd_all a)
  | .cmp op a b => sd_cmp op (sd_all a) (sd_all b)
  | .chain o p a b c => sd_chain o p (sd_all a) (sd_all b) (sd_all c)
  | .ite c a b => sd_ite (sd_all c) (sd_all a) (sd_all b)
  | .tup es => sd_tup (sd_all es)
  | .tupU es => sd_tupU (sd_all es)
  | .lst own es => sd_lst own (sd_all es)
  | .call g es => sd_call g (sd_all es)
  | .callk g es ks => sd_callk g (sd_all es) (sk_all ks)
  | .ask g xs b d => sd_ask g xs (sd_all b) (sd_all d)
  | .got xs b => sd_got xs (sd_all b)
  | .blt f es => sd_blt f (sd_all es)
  | .lis z => sd_lis (sd_all z)
  | .sml z => sd_sml (sd_all z)
  | .compU vs tg src elt => sd_compU vs tg (sd_all src) (sd_all elt)
  | .fzl z => sd_fzl (sd_all z)
  | .idx r z => sd_idx (sd_all r) (sd_all z)
  | .comp2 own vs vs1 tg tg1 src src1 tst elt => sd_comp2 own vs vs1 tg tg1 (sd_all src) (sd_all src1) (sd_all tst) (sd_all elt) (by
      intro h
      cases tst <;> first | rfl | cases h)
  | .fld f a => sd_fld f (sd_all a)
  | .meth i m a es => sd_meth i m (sd_all a) (sd_all es)
  | .mk i al es ks => sd_mk i al ks (sd_all es)
  | .op2 o a b => sd_op2 o (sd_all a) (sd_all b)
  | .op1 o a => sd_op1 o (sd_all a)
  | .vw z => sd_vw (sd_all z)
  | .xv x es => sd_xv x (sd_all es)
  | .sjn j a b => sd_sjn j (sd_all a) (sd_all b)
  | .jst es => sd_jst (sd_all es) (sj_all es)
  | .jc a r => sd_jc (sd_all a) (sd_all r)
  | .mkk i al ks => sd_mkk i al (sd_all ks) (sk_all ks)
  | .isi a cs => sd_isi cs (sd_all a)
  | .ix a b => sd_ix (sd_all a) (sd_all b)
  | .sl a lo hi => sd_sl (sd_all a) (sd_all lo) (sd_all hi)
  | .rep a b => sd_rep (sd_all a) (sd_all b)
  | .comp own vs tg src tst elt => sd_comp own vs tg (sd_all src) (sd_all tst) (sd_all elt) (by
      intro h
      cases tst <;> first | rfl | cases h)
  | .app r z => sd_app (sd_all r) (sd_all z)
  | .fz z => sd_fz (sd_all z)
  | .lnt z => sd_lnt (sd_all z)
  | .dic0 => sd_dic0
  | .dic1 x z => sd_dic1 x (sd_all z)
  | .fdq a b => sd_fdq (sd_all a) (sd_all b)
  | .ins r i z => sd_ins (sd_all r) (sd_all i) (sd_all z)
  | .nil => sd_nil
  | .cons a r => sd_cons (sd_all a) (sd_all r)
  | .star a r => sd_star (sd_all a) (sd_all r)
  | .nop => sd_nop
  | .sm a => sd_sm (sd_all a)
  | .yes => sd_none _ fun _ => rfl
  | .seq z => sd_seq (sd_all z)
  | .rng a => sd_rng (sd_all a)
  | .rng2 a b => sd_rng2 (sd_all a) (sd_all b)
  | .enm z => sd_enm (sd_all z)
  | .zip a b => sd_zip (sd_all a) (sd_all b)
  | .rev z => sd_rev (sd_all z)
theorem sk_all : ∀ z : Y, SdK G k Γ z
  | .nil => sk_nil
  | .cons a r => sk_cons (sd_all a) (sk_all r)
  | .star a r => sk_none fun S es h => by
    cases es with
    | nil => rfl
    | cons e es =>
      rw [List.all_cons] at h
      show starC _ _ (e :: es) = false
      cases e <;> first | rfl | (have h1 := (ba h).1; cases h1)
  | .var _ => sk_none fun _ _ _ => rfl
  | .int _ => sk_none fun _ _ _ => rfl
  | .bl _ => sk_none fun _ _ _ => rfl
  | .non => sk_none fun _ _ _ => rfl
  | .str _ => sk_none fun _ _ _ => rfl
  | .gint _ _ => sk_none fun _ _ _ => rfl
  | .gstr _ _ => sk_none fun _ _ _ => rfl
  | .bin _ _ _ => sk_none fun _ _ _ => rfl
  | .neg _ => sk_none fun _ _ _ => rfl
  | .not _ => sk_none fun _ _ _ => rfl
  | .and _ _ => sk_none fun _ _ _ => rfl
  | .or _ _ => sk_none fun _ _ _ => rfl
  | .one _ => sk_none fun _ _ _ => rfl
  | .cmp _ _ _ => sk_none fun _ _ _ => rfl
  | .chain _ _ _ _ _ => sk_none fun _ _ _ => rfl
  | .ite _ _ _ => sk_none fun _ _ _ => rfl
  | .tup _ => sk_none fun _ _ _ => rfl
  | .tupU _ => sk_none fun _ _ _ => rfl
  | .lst _ _ => sk_none fun _ _ _ => rfl
  | .call _ _ => sk_none fun _ _ _ => rfl
  | .callk _ _ _ => sk_none fun _ _ _ => rfl
  | .ask _ _ _ _ => sk_none fun _ _ _ => rfl
  | .got _ _ => sk_none fun _ _ _ => rfl
  | .blt _ _ => sk_none fun _ _ _ => rfl
  | .lis _ => sk_none fun _ _ _ => rfl
  | .isi _ _ => sk_none fun _ _ _ => rfl
  | .ix _ _ => sk_none fun _ _ _ => rfl
  | .sl _ _ _ => sk_none fun _ _ _ => rfl
  | .rep _ _ => sk_none fun _ _ _ => rfl
  | .comp _ _ _ _ _ _ => sk_none fun _ _ _ => rfl
  | .app _ _ => sk_none fun _ _ _ => rfl
  | .fz _ => sk_none fun _ _ _ => rfl
  | .lnt _ => sk_none fun _ _ _ => rfl
  | .dic0 => sk_none fun _ _ _ => rfl
  | .dic1 _ _ => sk_none fun _ _ _ => rfl
  | .sml _ => sk_none fun _ _ _ => rfl
  | .compU _ _ _ _ => sk_none fun _ _ _ => rfl
  | .fzl _ => sk_none fun _ _ _ => rfl
  | .idx _ _ => sk_none fun _ _ _ => rfl
  | .comp2 _ _ _ _ _ _ _ _ _ => sk_none fun _ _ _ => rfl
  | .fld _ _ => sk_none fun _ _ _ => rfl
  | .meth _ _ _ _ => sk_none fun _ _ _ => rfl
  | .mk _ _ _ _ => sk_none fun _ _ _ => rfl
  | .op2 o _ _ => sk_none fun _ _ _ => by cases o <;> rfl
  | .op1 _ _ => sk_none fun _ _ _ => rfl
  | .vw _ => sk_none fun _ _ _ => rfl
  | .xv _ _ => sk_none fun _ _ _ => rfl
  | .sjn _ _ _ => sk_none fun _ _ _ => rfl
  | .jst _ => sk_none fun _ _ _ => rfl
  | .jc a r => sk_jc (sd_all a) (sk_all r)
  | .mkk _ _ _ => sk_none fun _ _ _ => rfl
  | .fdq _ _ => sk_none fun _ _ _ => rfl
  | .ins _ _ _ => sk_none fun _ _ _ => rfl
  | .nop => sk_none fun _ _ _ => rfl
  | .sm _ => sk_none fun _ _ _ => rfl
  | .yes => sk_none fun _ _ _ => rfl
  | .seq _ => sk_none fun _ _ _ => rfl
  | .rng _ => sk_none fun _ _ _ => rfl
  | .rng2 _ _ => sk_none fun _ _ _ => rfl
  | .enm _ => sk_none fun _ _ _ => rfl
  | .zip _ _ => sk_none fun _ _ _ => rfl
  | .rev _ => sk_none fun _ _ _ => rfl
theorem sj_all : ∀ z : Y, SdJ G k Γ z
  | .nil => sj_nil
  | .cons _ _ => sj_none rfl
  | .star _ _ => sj_none rfl
  | .var _ => sj_none rfl
  | .int _ => sj_none rfl
  | .bl _ => sj_none rfl
  | .non => sj_none rfl
  | .str _ => sj_none rfl
  | .gint _ _ => sj_none rfl
  | .gstr _ _ => sj_none rfl
  | .bin _ _ _ => sj_none rfl
  | .neg _ => sj_none rfl
  | .not _ => sj_none rfl
  | .and _ _ => sj_none rfl
  | .or _ _ => sj_none rfl
  | .one _ => sj_none rfl
  | .cmp _ _ _ => sj_none rfl
  | .chain _ _ _ _ _ => sj_none rfl
  | .ite _ _ _ => sj_none rfl
  | .tup _ => sj_none rfl
  | .tupU _ => sj_none rfl
  | .lst _ _ => sj_none rfl
  | .call _ _ => sj_none rfl
  | .callk _ _ _ => sj_none rfl
  | .ask _ _ _ _ => sj_none rfl
  | .got _ _ => sj_none rfl
  | .blt _ _ => sj_none rfl
  | .lis _ => sj_none rfl
  | .isi _ _ => sj_none rfl
  | .ix _ _ => sj_none rfl
  | .sl _ _ _ => sj_none rfl
  | .rep _ _ => sj_none rfl
  | .comp _ _ _ _ _ _ => sj_none rfl
  | .app _ _ => sj_none rfl
  | .fz _ => sj_none rfl
  | .lnt _ => sj_none rfl
  | .dic0 => sj_none rfl
  | .dic1 _ _ => sj_none rfl
  | .sml _ => sj_none rfl
  | .compU _ _ _ _ => sj_none rfl
  | .fzl _ => sj_none rfl
  | .idx _ _ => sj_none rfl
  | .comp2 _ _ _ _ _ _ _ _ _ => sj_none rfl
  | .fld _ _ => sj_none rfl
  | .meth _ _ _ _ => sj_none rfl
  | .mk _ _ _ _ => sj_none rfl
  | .op2 _ _ _ => sj_none rfl
  | .op1 _ _ => sj_none rfl
  | .vw _ => sj_none rfl
  | .xv _ _ => sj_none rfl
  | .sjn _ _ _ => sj_none rfl
  | .jst _ => sj_none rfl
  | .jc a r => sj_cons (sd_all a) (sj_all r)
  | .mkk _ _ _ => sj_none rfl
  | .fdq _ _ => sj_none rfl
  | .ins _ _ _ => sj_none rfl
  | .nop => sj_none rfl
  | .sm _ => sj_none rfl
  | .yes => sj_none rfl
  | .seq _ => sj_none rfl
  | .rng _ => sj_none rfl
  | .rng2 _ _ => sj_none rfl
  | .enm _ => sj_none rfl
  | .zip _ _ => sj_none rfl
  | .rev _ => sj_none rfl
end
end
end Z

set_option Elab.async false
set_option linter.all false
set_option maxRecDepth 100000
set_option maxHeartbeats 4000000
namespace Z
open PySem PySem.Spec PyProof.Rows L2
/-! ### C(..): an error is made, also without arguments -/
theorem mk_err {X : Cx} {pins : List (Addr × Obj)} {σ : L2.St} {H1 : Hp} {s1 : Shared} {Q : XK} {us : List Value} {vs : List V} {e : XcD} {fs : List (Str × V)} (W : XcF X.prog X.w X.K X.mg X.base e) (hr : Room 2 X.A) (I1 : Inv X pins σ H1 s1) (r1 : Vals vs us) (hn : vs.length = e.n) (hi : initFs vs e.fl = some fs)
    (q1 : ∀ d, H1 d = none → Q (.ref (He.ga X.K e.nm)) (some d) (upd H1 d (.xd fs.reverse))) : wpAny (model X.prog X.w) X.A (call (.ref (He.ga X.K e.nm)) us) (MkP X pins σ Q) X.xe s1 := by
  obtain ⟨fI, fd, ps, iC, tI, F1, hb⟩ := W.ini
  obtain ⟨C, hC0⟩ : ∃ C, C = He.ga X.K e.nm := ⟨_, rfl⟩
  have T := W.T
  rw [← hC0] at iC F1 T q1 ⊢
  obtain ⟨nm, q, N, bs, bm, sn, sub, ab, col, dd, k0, k1, k2, k3, k5, hC, hbm⟩ := T.cls
  obtain ⟨hp, g, dr, tk, os⟩ := s1
  obtain ⟨a, hA⟩ : ∃ a, a = hp.objs.size + 1 := ⟨_, rfl⟩
  have big : hp.objs.size ≤ a := by omega
  have hnone : H1 a = none := I1.hok.fresh big
  have kk : ∀ b o, hp.get? b = some o → ((hp.push (PySem.W.kdv_tup us)).push (PySem.HandSPX.excO C hp.objs.size)).get? b = some o := fun b o e => Heap.get?_push_of_some _ (Heap.get?_push_of_some _ e)
  have hget : ((hp.push (PySem.W.kdv_tup us)).push (PySem.HandSPX.excO C hp.objs.size)).get? a = some (PySem.HandSPX.excO C hp.objs.size) := by
    rw [hA]
    heap_get
  have J : Inv X pins σ (upd H1 a (exo a C none)) ⟨(hp.push (PySem.W.kdv_tup us)).push (PySem.HandSPX.excO C hp.objs.size), g, dr, tk, os⟩ := I1.laid (t' := tk) kk big (exo_ok hget)
  have sp : initSp C e (V.ref a :: vs) (upd H1 a (exo a C none)) (fun v H2 => v = .non ∧ ∃ (d : Addr) (gs : List (Str × V)), H2 a = some (exo a C (some d)) ∧ H2 d = some (exd d gs) ∧ H1 d = none ∧ Q (.ref C) (some d) (upd (del H2 a) d (.xd gs))) fun _ _ _ => False := by
    refine ⟨a, vs, fs, rfl, hn, hi, upd_same, fun dx H' hd hh => ⟨rfl, dx, fs.reverse, hh.ea, hh.ed, ?_, ?_⟩⟩
    · by_cases z : dx = a
      · rw [z]; exact hnone
      · rw [upd_ne z] at hd; exact hd
    · have hd1 : H1 dx = none := by
        by_cases z : dx = a
        · rw [z]; exact hnone
        · rw [upd_ne z] at hd; exact hd
      have eq : upd (del H' a) dx (.xd fs.reverse) = upd H1 dx (.xd fs.reverse) := by
        funext b
        by_cases h1 : b = dx
        · rw [h1, upd_same, upd_same]
        · rw [upd_ne h1, upd_ne h1]
          by_cases h2 : b = a
          · rw [h2, del_same, hnone]
          · rw [del_ne h2, hh.all b h2 h1, upd_ne h2]
      rw [eq]
      exact q1 dx hd1
  have rr : Vals (V.ref a :: vs) (Value.ref a :: us) := .cons rfl r1
  have hl : (Value.ref a :: us ++ []).length = ps.length := by
    rw [List.append_nil, ← rr.length]
    exact F1.len _ _ _ _ sp
  have bT := hb _ (Value.ref a :: us) J.kIn hl
  rw [List.append_nil] at bT
  have hus : us.length ≤ sizeLine := by
    rw [← r1.length, hn, sizeLine_eq]
    have := W.n
    omega
  have ap : hp.objs.size + 1 = a := hA.symm
  refine wpAny_call (PySem.HandSPX.call_own F.excBase_ValueError (fun Y => PySem.HandSPX.refsVE_contains Y bm hbm) (I1.kIn _ _ hC) (PySem.W.looks_findIn I1.kIn iC) (fun self => PySem.W.bind_fn I1.kIn self tI) hus ?_)
  rw [ap]
  refine codeAny_mono (F1.run _ X.stack _ _ ⟨Value.ref a :: us, []⟩ (Value.ref a :: us) _ _ (fun _ _ _ => False) (hr.make C us []) (J.env0.make C us []) bT rr sp) fun r t hq => ?_
  cases r with
  | error er =>
    obtain ⟨_, _, _, _, _, _, _, _, _, _, _, _, z⟩ := (show L2.CX X.prog X.w X.stack _ _ (fun _ _ _ => False) er t from hq)
    exact z.elim
  | ok fl =>
    cases fl with
    | ret u =>
      obtain ⟨v, H2, os2, bare2, un2, hok2, rv, ev, d, gs, ea, ed, hd1, q2⟩ := hq
      subst ev
      obtain ⟨h2, g2, d2, t2, os'⟩ := t
      exact ⟨rv, mk_end (raises_own T.exC T.tyC) I1 big kk un2 hok2 os2 bare2 ea ed hd1 q2⟩
    | next => exact False.elim hq
    | brk => exact False.elim hq
    | cont => exact False.elim hq
end Z

set_option Elab.async false
set_option linter.all false
set_option maxRecDepth 100000
set_option maxHeartbeats 4000000
namespace Z
open PySem PySem.Spec PyProof.Rows L2
/-! ### statements -/
inductive YS where
  | nil | seq (a r : YS) | pas | doc | ex (y : Y) | set (i : Nat) (y : Y) | tgt (t : T1) (y : Y) | par (i j : Nat) (es : Y) | par3 (i j l : Nat) (es : Y)
  | seti (o ix y : Y) | ite (c : Y) (a b : YS) | for_ (t : T1) (src : Y) (b : YS) | whl (c : Y) (b : YS) | ret (y : Y) | ret0 | brk | cnt | nev | rse (e : XcD) (es : Y) | sfl (i : Nat) (f : Str) (y : Y)
structure ZD where
  nx : List (Option U) → List DO → Prop
  rt : U → List DO → Prop
  bk : List (Option U) → List DO → Prop
  ct : List (Option U) → List DO → Prop
abbrev ZS := ZX → ZD → List (Option U) → List DO → Prop
/-- a for over data; O0: the places ahead of it -/
def forR (tg : T1) (body : ZS) (E : ZX) (D : ZD) (O0 : List DO) : List Z.D → List (Option U) → List DO → Prop
  | [], ρ, O => D.nx ρ (unb O0 O)
  | d :: ds, ρ, O => bindT tg d ρ fun ρ1 => body (fun x O' => E x (unb O0 O')) ⟨fun ρ' O' => forR tg body E D O0 ds ρ' O', fun u O' => D.rt u (unb O0 O'), fun ρ' O' => D.nx ρ' (unb O0 O'), fun ρ' O' => forR tg body E D O0 ds ρ' O'⟩ ρ1 O
/-- an attribute is written -/
def putD (f : Str) (d : Z.D) : List (Str × Z.D) → List (Str × Z.D)
  | [] => [(f, d)]
  | (g, x) :: r => if g = f then (g, d) :: r else (g, x) :: putD f d r
def vcS (Γ : List (Fk × ZSp)) : YS → ZS
  | .nil => fun _ D ρ O => D.nx ρ O
  | .seq a r => fun E D ρ O => vcS Γ a E { D with nx := fun ρ' O' => vcS Γ r E D ρ' O' } ρ O
  | .pas => fun _ D ρ O => D.nx ρ O
  | .doc => fun _ D ρ O => D.nx ρ O
  | .ex y => fun E D ρ O => vc Γ y E ρ O fun us O1 => oneK us fun _ => D.nx ρ O1
  | .set i y => fun E D ρ O => vc Γ y E ρ O fun us O1 => oneK us fun u => D.nx (st ρ i u) O1
  | .tgt t y => fun E D ρ O => vc Γ y E ρ O fun us O1 => oneK us fun u => toK O1 u fun d => bindT t d ρ fun ρ1 => D.nx ρ1 O1
  | .par i j es => fun E D ρ O => vc Γ es E ρ O fun us O1 => match us with
    | [u, w] => D.nx (st (st ρ i u) j w) O1
    | _ => False
  | .par3 i j l es => fun E D ρ O => vc Γ es E ρ O fun us O1 => match us with
    | [u, w, v] => D.nx (st (st (st ρ i u) j w) l v) O1
    | _ => False
  | .seti o ix y => fun E D ρ O => vc Γ y E ρ O fun us O1 => oneK us fun u => vc Γ o E ρ O1 fun rs O2 => oneK rs fun r => vc Γ ix E ρ O2 fun ks O3 => oneK ks fun kx => match r, kx with
    | .o k, .d (.int i) => (match go O3 k with
      | some (.lst ds) => toK O3 u fun x => ∃ j, ixN ds.length i = some j ∧ D.nx ρ (so O3 k (.lst (ds.set j x)))
      | _ => False)
    | _, _ => False
  | .ite c a b => fun E D ρ O => vc Γ c E ρ O fun us O1 => boolK us fun t => (t = true → vcS Γ a E D ρ O1) ∧ (t = false → vcS Γ b E D ρ O1)
  | .for_ t src b => fun E D ρ O => vc Γ src E ρ O fun us O1 => ∃ ds, us = ds.map .d ∧ forR t (vcS Γ b) E D O ds ρ O1
  | .whl c b => fun E D ρ O => ∃ W : Nat → List (Option U) → List DO → Prop, (∃ m, W m ρ O) ∧ ∀ m ρ1 O1, W m ρ1 O1 → vc Γ c E ρ1 O1 fun us O2 => boolK us fun t =>
      (t = true → vcS Γ b E ⟨fun ρ2 O3 => ∃ m', m' < m ∧ W m' ρ2 O3, D.rt, D.nx, fun ρ2 O3 => ∃ m', m' < m ∧ W m' ρ2 O3⟩ ρ1 O2) ∧ (t = false → D.nx ρ1 O2)
  | .ret y => fun E D ρ O => vc Γ y E ρ O fun us O1 => oneK us fun u => D.rt u O1
  | .ret0 => fun _ D _ O => D.rt (.d .non) O
  | .brk => fun _ D ρ O => D.bk ρ O
  | .cnt => fun _ D ρ O => D.ct ρ O
  | .nev => fun _ _ _ _ => False
  | .rse e es => fun E _ ρ O => vc Γ es E ρ O fun us O1 => tosK O1 us fun ds => ds.length = e.n ∧ ∃ fs, initD ds e.fl = some fs ∧ E ⟨e.nm, fs.reverse⟩ O1
  | .sfl i f y => fun E D ρ O => vc Γ y E ρ O fun us O1 => oneK us fun u => toK O1 u fun x => match gt ρ i with
    | some (.o k) => (match go O1 k with
      | some (.ob c fs) => (f ∈ c.2 ∧ (putD f x fs).length ≤ c.2.length ∧ c.2.length < 1000) ∧ D.nx ρ (so O1 k (.ob c (putD f x fs)))
      | _ => False)
    | _ => False
/-! ### the check -/
def noComp : Expr → Bool
  | .ListComp _ _ _ _ => false
  | .SetComp _ _ _ _ => false
  | .DictComp _ _ _ _ _ => false
  | _ => true
def swC (sc : Scope) (x : Str) (px : Pos) : Expr → Bool
  | .ListComp _ _ scope pos => (px.line == pos.line) && decide (sc.names.lookup x = some .local) && !(scope.names.any fun (n, k) => n == x && (k == .local || k == .cell)) && (match sc.kind with | .function => true | _ => false)
  | _ => false
def noswC (sc : Scope) (x : Str) (px : Pos) : Expr → Bool
  | .ListComp _ _ scope pos => !(px.line == pos.line) || decide (sc.names.lookup x ≠ some .local) || (scope.names.any fun (n, k) => n == x && (k == .local || k == .cell))
  | .SetComp _ _ _ _ => false
  | .DictComp _ _ _ _ _ => false
  | _ => true
def noTup : Expr → Bool
  | .Tuple _ _ _ => false
  | _ => true
/-- a tuple of targets whose stores are not swapped -/
def nonLoc (sc : Scope) : Expr → Bool
  | .Name x _ => decide (sc.names.lookup x ≠ some .local)
  | _ => true
def nosw2 (sc : Scope) (ts : List Expr) : Bool := ts.any (nonLoc sc) || !(ts.length == 2 || ts.length == 3)

structure CkS where
  S : Stmt → Bool := fun _ => false
  B : List Stmt → Bool := fun _ => false
def exS (f : Expr → Bool) : Stmt → Bool
  | .Expr e _ => noComp e && f e
  | _ => false
def docS : Stmt → Bool
  | .Expr (.Constant (.str _) _ _) _ => true
  | _ => false
def pasS : Stmt → Bool
  | .Pass _ => true
  | _ => false
def brkS : Stmt → Bool
  | .Break _ => true
  | _ => false
def cntS : Stmt → Bool
  | .Continue _ => true
  | _ => false
def setS (S : Sx) (i : Nat) (f g : Expr → Bool) : Stmt → Bool
  | .Assign [.Name x px] e _ => decide (S.N[i]? = some x) && ownB S.so x && ((f e && noswC S.sc x px e) || (g e && swC S.sc x px e))
  | _ => false
def tgtS (S : Sx) (t : T1) (f : Expr → Bool) : Stmt → Bool
  | .Assign [.Tuple ts kk p] e _ => ckG S t (.Tuple ts kk p) && f e && (noTup e || nosw2 S.sc ts)
  | _ => false
def parS (S : Sx) (i j : Nat) (f : List Expr → Bool) : Stmt → Bool
  | .Assign [.Tuple [.Name x px, .Name y py] _ _] (.Tuple [a, b] _ _) _ => decide (S.N[i]? = some x) && decide (S.N[j]? = some y) && decide (i ≠ j) && decide (S.sc.names.lookup x = some .local) && decide (S.sc.names.lookup y = some .local) &&
      (px.line == py.line) && decide (x ≠ y) && noStar a && noStar b && !(foldedForSure 8 a && foldedForSure 8 b) && !(constantsAlone 8 a && constantsAlone 8 b) && f [a, b]
  | _ => false
def par3S (S : Sx) (i j l : Nat) (f : List Expr → Bool) : Stmt → Bool
  | .Assign [.Tuple [.Name x px, .Name y py, .Name z pz] _ _] (.Tuple [a, b, c] _ _) _ => decide (S.N[i]? = some x) && decide (S.N[j]? = some y) && decide (S.N[l]? = some z) && decide (i ≠ j ∧ i ≠ l ∧ j ≠ l) && decide (S.sc.names.lookup x = some .local) && decide (S.sc.names.lookup y = some .local) && decide (S.sc.names.lookup z = some .local) &&
      (px.line == py.line) && (px.line == pz.line) && decide (x ≠ y ∧ x ≠ z ∧ y ≠ z) && noStar a && noStar b && noStar c && !(foldedForSure 8 a && foldedForSure 8 b && foldedForSure 8 c) && !(constantsAlone 8 a && constantsAlone 8 b && constantsAlone 8 c) && f [a, b, c]
  | _ => false
def setiS (f g h : Expr → Bool) : Stmt → Bool
  | .Assign [.Subscript o i _] e _ => f o && g i && h e && noSlice i
  | _ => false
def sflS (S : Sx) (i : Nat) (f : Str) (h : Expr → Bool) : Stmt → Bool
  | .Assign [.Attribute (.Name x _) g _] e _ => decide (S.N[i]? = some x) && visB S.sc x && oknB x && decide (g = f) && h e
  | _ => false
def iteS (f : Expr → Bool) (g h : List Stmt → Bool) : Stmt → Bool
  | .If c a b _ => f c && g a && h b
  | _ => false
def forS (S : Sx) (t : T1) (f : Expr → Expr → Bool) (g : List Stmt → Bool) : Stmt → Bool
  | .For tg it b [] _ => ckG S t tg && f tg it && noSet it && g b
  | _ => false
def whlS (f : Expr → Bool) (g : List Stmt → Bool) : Stmt → Bool
  | .While c b [] _ => f c && g b
  | _ => false
def retS (f : Expr → Bool) : Stmt → Bool
  | .Return (some e) _ => f e
  | _ => false
def ret0S : Stmt → Bool
  | .Return none _ => true
  | _ => false
def nilB : List Stmt → Bool
  | [] => true
  | _ => false
def seqB' (f : Stmt → Bool) (g : List Stmt → Bool) : List Stmt → Bool
  | s :: r => f s && g r
  | _ => false
/-- the check of a comprehension, for a store that is swapped in -/
def compCk (Γn : List Fk) (S : Sx) : Y → Expr → Bool
  | .comp _ vs tg src tst elt => compC (ck Γn tst) (ck Γn elt) (ck Γn src S) S vs tg (isYes tst)
  | .comp2 _ vs vs1 tg tg1 src src1 tst elt => comp2C (ck Γn src1) (ck Γn tst) (ck Γn elt) (ck Γn src S) S vs vs1 tg tg1 (isYes tst)
  | .compU vs tg src elt => compC (fun _ => {}) (ck Γn elt) (ck Γn src S) S vs tg true
  | _ => fun _ => false
def rseS (S : Sx) (e : XcD) (f : List Expr → Bool) : Stmt → Bool
  | .Raise (some (.Call (.Name c _) [] [] _)) none _ => decide (c = e.nm) && decide (e ∈ S.xs) && gloB S.sc c && oknB c && f []
  | .Raise (some (.Call (.Name c _) (x :: xs) [] _)) none _ => decide (c = e.nm) && decide (e ∈ S.xs) && gloB S.sc c && oknB c && noStar x && xs.all noStar && f (x :: xs)
  | _ => false
def ckS (Γn : List Fk) : YS → Sx → CkS
  | .nil, _ => { B := nilB }
  | .seq a r, S => { B := seqB' (ckS Γn a S).S (ckS Γn r S).B }
  | .pas, _ => { S := pasS }
  | .doc, _ => { S := docS }
  | .ex y, S => { S := exS (ck Γn y S).E }
  | .set i y, S => { S := setS S i (ck Γn y S).E (compCk Γn S y) }
  | .tgt t y, S => { S := tgtS S t (ck Γn y S).E }
  | .par i j es, S => { S := parS S i j (ck Γn es S).A }
  | .par3 i j l es, S => { S := par3S S i j l (ck Γn es S).A }
  | .seti o ix y, S => { S := setiS (ck Γn o S).E (ck Γn ix S).E (ck Γn y S).E }
  | .ite c a b, S => { S := iteS (ck Γn c S).T (ckS Γn a S).B (ckS Γn b S).B }
  | .for_ t src b, S => { S := forS S t (ck Γn src S).I (ckS Γn b S).B }
  | .whl c b, S => { S := whlS (ck Γn c S).T (ckS Γn b S).B }
  | .ret y, S => { S := retS (ck Γn y S).E }
  | .ret0, _ => { S := ret0S }
  | .brk, _ => { S := brkS }
  | .cnt, _ => { S := cntS }
  | .nev, _ => { S := fun _ => true }
  | .rse e es, S => { S := rseS S e (ck Γn es S).A }
  | .sfl i f y, S => { S := sflS S i f (ck Γn y S).E }

/-! ### soundness -/
structure DLow (G : Gx) (B : Addr → Prop) (α : List Addr) (O : List DO) (H : Hp) (D0 : ZD) (D : Ends) : Prop where
  nx : ∀ ρ' O', D0.nx ρ' O' → ∀ α' σ' H', Stp α O H α' O' H' → Rep G B α' σ' H' ρ' O' → D.nx σ' H'
  rt : ∀ u O', D0.rt u O' → ∀ α' v H', Stp α O H α' O' H' → Own G B α' O' H' → AtU G.K B α' O' H' v u → D.rt v H'
  bk : ∀ ρ' O', D0.bk ρ' O' → ∀ α' σ' H', Stp α O H α' O' H' → Rep G B α' σ' H' ρ' O' → D.bk σ' H'
  ct : ∀ ρ' O', D0.ct ρ' O' → ∀ α' σ' H', Stp α O H α' O' H' → Rep G B α' σ' H' ρ' O' → D.ct σ' H'
def LfS (G : Gx) (W0 : XK) (t : ZS) : TS := fun D σ H => ∃ B α ρ O D0 E0, Rep G B α σ H ρ O ∧ t E0 D0 ρ O ∧ DLow G B α O H D0 D ∧ ELow G B W0 α O H E0
theorem DLow.stp {G : Gx} {B : Addr → Prop} {α α' : List Addr} {O O' : List DO} {H H' : Hp} {D0 : ZD} {D : Ends} (d : DLow G B α O H D0 D) (s : Stp α O H α' O' H') : DLow G B α' O' H' D0 D :=
  ⟨fun ρ O e α σ H s2 r => d.nx ρ O e α σ H (s.trans s2) r, fun u O e α v H s2 w a => d.rt u O e α v H (s.trans s2) w a, fun ρ O e α σ H s2 r => d.bk ρ O e α σ H (s.trans s2) r, fun ρ O e α σ H s2 r => d.ct ρ O e α σ H (s.trans s2) r⟩
theorem ps_imp {X : Cx} {e : Stmt} {t t' : TS} (h : PS X e t) (i : ∀ D σ H, t' D σ H → t D σ H) : PS X e t' := ⟨fun pins s σ H D I q => h.run pins s σ H D I (i D σ H q)⟩
theorem pss_imp {X : Cx} {e : List Stmt} {t t' : TS} (h : PSs X e t) (i : ∀ D σ H, t' D σ H → t D σ H) : PSs X e t' := ⟨fun pins s σ H D I q => h.run pins s σ H D I (i D σ H q)⟩
structure GoodS (X : Cx) (G : Gx) (W0 : XK) (k : Nat) (S : Sx) (Γ : List (Fk × ZSp)) : Prop extends Good X G W0 k S Γ where
  po : PassesOwn (model X.prog X.w) X.A X.env X.xe
  fk : X.env.scope.kind = .function
  rm2 : Room (k + 3) X.A
structure SdS (G : Gx) (k : Nat) (Γ : List (Fk × ZSp)) (z : YS) : Prop where
  S : ∀ X W0 S, GoodS X G W0 k S Γ → ∀ e, (ckS (Γ.map (·.1)) z S).S e = true → PS X e (LfS G W0 (vcS Γ z))
  B : ∀ X W0 S, GoodS X G W0 k S Γ → ∀ e, (ckS (Γ.map (·.1)) z S).B e = true → PSs X e (LfS G W0 (vcS Γ z))
section
variable {G : Gx} {k : Nat} {Γ : List (Fk × ZSp)}
theorem SdS.ofS {z : YS} (f : Sx → Stmt → Bool) (hf : ∀ S, ckS (Γ.map (·.1)) z S = { S := f S }) (h : ∀ X W0 S, GoodS X G W0 k S Γ → ∀ e, f S e = true → PS X e (LfS G W0 (vcS Γ z))) : SdS G k Γ z where
  S := fun X W0 S g e c => h X W0 S g e (by rw [hf S] at c; exact c)
  B := fun X W0 S g e c => by rw [hf S] at c; cases c
theorem ss_nil : SdS G k Γ .nil where
  S := fun X W0 S g e c => by cases c
  B := fun X W0 S g e c => by
    have c' : nilB e = true := c
    unfold nilB at c'
    split at c'
    · exact pss_imp pss_nil fun D σ H ⟨B, α, ρ, O, D0, E0, R, h, hd, hl⟩ => hd.nx _ _ h _ _ _ Stp.refl R
    · cases c'
theorem ss_seq {a r : YS} (da : SdS G k Γ a) (dr : SdS G k Γ r) : SdS G k Γ (.seq a r) where
  S := fun X W0 S g e c => by cases c
  B := fun X W0 S g e c => by
    have c' : seqB' (ckS (Γ.map (·.1)) a S).S (ckS (Γ.map (·.1)) r S).B e = true := c
    unfold seqB' at c'
    split at c'
    · obtain ⟨c1, c2⟩ := ba c'
      refine pss_imp (pss_cons (da.S X W0 S g _ c1) (dr.B X W0 S g _ c2)) fun D σ H ⟨B, α, ρ, O, D0, E0, R, h, hd, hl⟩ => ?_
      exact ⟨B, α, ρ, O, _, E0, R, h, ⟨fun ρ' O' q α' σ' H' s R' => ⟨B, α', ρ', O', D0, E0, R', q, hd.stp s, hl.stp s⟩, hd.rt, hd.bk, hd.ct⟩, hl⟩
    · cases c'
theorem ss_pas : SdS G k Γ .pas := .ofS _ (fun _ => rfl) fun X W0 S g e c => by
  unfold pasS at c
  split at c
  · exact ps_imp ps_pass fun D σ H ⟨B, α, ρ, O, D0, E0, R, h, hd, hl⟩ => hd.nx _ _ h _ _ _ Stp.refl R
  · cases c
theorem ss_doc : SdS G k Γ .doc := .ofS _ (fun _ => rfl) fun X W0 S g e c => by
  unfold docS at c
  split at c
  · exact ps_imp ps_doc fun D σ H ⟨B, α, ρ, O, D0, E0, R, h, hd, hl⟩ => hd.nx _ _ h _ _ _ Stp.refl R
  · cases c
theorem ss_brk : SdS G k Γ .brk := .ofS _ (fun _ => rfl) fun X W0 S g e c => by
  unfold brkS at c
  split at c
  · exact ps_imp ps_break fun D σ H ⟨B, α, ρ, O, D0, E0, R, h, hd, hl⟩ => hd.bk _ _ h _ _ _ Stp.refl R
  · cases c
theorem ss_cnt : SdS G k Γ .cnt := .ofS _ (fun _ => rfl) fun X W0 S g e c => by
  unfold cntS at c
  split at c
  · exact ps_imp ps_continue fun D σ H ⟨B, α, ρ, O, D0, E0, R, h, hd, hl⟩ => hd.ct _ _ h _ _ _ Stp.refl R
  · cases c
theorem ss_nev : SdS G k Γ .nev := .ofS _ (fun _ => rfl) fun X W0 S g e c => ps_imp ps_never fun D σ H ⟨B, α, ρ, O, D0, E0, R, h, hd, hl⟩ => h
theorem ss_rse (e : XcD) {es : Y} : SdS G k Γ (.rse e es) := .ofS _ (fun _ => rfl) fun X W0 S g st c => by
  have low : ∀ {t : L2.St → Hp → XK → Prop} {ex : Expr} {pos : Pos}, PMk X ex t → (∀ σ H, LfS G W0 (vcS Γ (.rse e es)) ⟨fun _ _ => False, fun _ _ => False, fun _ _ => False, fun _ _ => False⟩ σ H → True) → (∀ D σ H, LfS G W0 (vcS Γ (.rse e es)) D σ H → t σ H fun cls d H' => W0 cls d H') → PS X (.Raise (some ex) none pos) (LfS G W0 (vcS Γ (.rse e es))) := fun {t ex pos} h _ i =>
    ps_imp (ps_raise (W := fun c d _ H => W0 c d H) g.calm g.takes h) fun D σ H q => i D σ H q
  have read : ∀ (D : Ends) (σ : L2.St) (H : Hp), LfS G W0 (vcS Γ (.rse e es)) D σ H → LfA G W0 (vc Γ es) σ H fun vs H1 => vs.length = e.n ∧ ∃ gs, initFs vs e.fl = some gs ∧ ∀ d, H1 d = none → W0 (.ref (He.ga X.K e.nm)) (some d) (upd H1 d (.xd gs.reverse)) := by
    rintro D σ H ⟨B, α, ρ, O, D0, E0, R, h, hd, hl⟩
    refine seqA R h hl fun us O1 f α1 vs H1 s1 w1 a1 => ?_
    obtain ⟨ds, e1, hn, fs, e2, f⟩ := tosK_of f
    have r := Ats.of w1 a1 e1
    obtain ⟨gs, e3, e4, r2⟩ := initD_of r e2
    refine ⟨by rw [r.length]; exact hn, gs, e3, fun d hd => ?_⟩
    refine (hl.stp s1) _ _ f α1 _ _ _ (stp_new hd) (own_new w1 hd) ⟨by rw [g.hK], d, gs.reverse, rfl, upd_same, w1.mu_ne hd, ?_, ?_⟩
    · rw [List.map_reverse, List.map_reverse, e4]
    · rw [List.map_reverse, List.map_reverse]
      exact (stp_new hd).ats r2.reverse
  unfold rseS at c
  split at c
  · obtain ⟨c, c5⟩ := ba c
    obtain ⟨c, c4⟩ := ba c
    obtain ⟨c, c3⟩ := ba c
    obtain ⟨c1, c2⟩ := ba c
    cases of_decide_eq_true c1
    have W := g.xs e (of_decide_eq_true c2)
    refine low (t := fun σ H Q => LfA G W0 (vc Γ es) σ H fun vs H1 => vs.length = e.n ∧ ∃ gs, initFs vs e.fl = some gs ∧ ∀ d, H1 d = none → Q (.ref (He.ga X.K e.nm)) (some d) (upd H1 d (.xd gs.reverse))) (fun pins s σ H Q I h => ?_) (fun _ _ _ => trivial) read
    refine wpAny_Call_Name_kw (ld_glob I (glo_of g.toGood c3) W.hm ?_ (okn_of c4).1)
    refine PySem.W.callWith_K0 I.kIn W.T.kC ?_
    have en : es = .nil := by
      cases es <;> first | rfl | cases c5 | (rename_i o _ _; cases o <;> cases c5)
    subst en
    obtain ⟨B, α, ρ, O, Q0, E0, R, h, hq, hl⟩ := h
    obtain ⟨hn, gs, e3, q⟩ := hq _ _ h _ _ _ Stp.refl R.own .nil
    exact mk_err (us := []) W (g.rm2.mono (by omega)) I .nil hn e3 q
  · obtain ⟨c, c7⟩ := ba c
    obtain ⟨c, c6⟩ := ba c
    obtain ⟨c, c5⟩ := ba c
    obtain ⟨c, c4⟩ := ba c
    obtain ⟨c, c3⟩ := ba c
    obtain ⟨c1, c2⟩ := ba c
    cases of_decide_eq_true c1
    have W := g.xs e (of_decide_eq_true c2)
    refine low (t := fun σ H Q => LfA G W0 (vc Γ es) σ H fun vs H1 => vs.length = e.n ∧ ∃ gs, initFs vs e.fl = some gs ∧ ∀ d, H1 d = none → Q (.ref (He.ga X.K e.nm)) (some d) (upd H1 d (.xd gs.reverse))) (fun pins s σ H Q I h => ?_) (fun _ _ _ => trivial) read
    refine wpAny_Call_Name_kw (ld_glob I (glo_of g.toGood c3) W.hm ?_ (okn_of c4).1)
    refine PySem.W.callWith_K (h₀ := X.base) I.ok.mod.kin W.T.kC (thn (((sd_all es).A X W0 S g.toGood _ c7).run _ pins s σ H _ I h) fun us s1 ⟨vs, H1, I1, r, hn, gs, e3, q⟩ => ⟨I1.kIn, ?_⟩) (starEach_plain c5) (any_plain c6)
    exact mk_err W (g.rm2.mono (by omega)) I1 r hn e3 q
  · cases c
theorem ss_ret0 : SdS G k Γ .ret0 := .ofS _ (fun _ => rfl) fun X W0 S g e c => by
  unfold ret0S at c
  split at c
  · exact ps_imp ps_retN fun D σ H ⟨B, α, ρ, O, D0, E0, R, h, hd, hl⟩ => hd.rt _ _ h _ _ _ Stp.refl R.own (.d .non)
  · cases c
theorem nosw_none {e : Expr} {l : Nat} {env : Env} (h : noComp e = true) : swapsWith e none l env = pure false := by
  cases e <;> first | rfl | cases h
theorem nosw_sub {e o i : Expr} {p : Pos} {l : Nat} {env : Env} : swapsWithSole [.Subscript o i p] e l env = pure false := by
  cases e <;> rfl
theorem nosw_tup {e : Expr} {ts : List Expr} {kk : Nat} {p : Pos} {l : Nat} {env : Env} : swapsWithSole [.Tuple ts kk p] e l env = pure false := by
  cases e <;> rfl
theorem sws_sub {e o i : Expr} {p : Pos} {env : Env} : swappedStores [.Subscript o i p] e env = pure none := by
  cases e <;> rfl
theorem ss_ex {y : Y} : SdS G k Γ (.ex y) := .ofS _ (fun _ => rfl) fun X W0 S g e c => by
  unfold exS at c
  split at c
  · obtain ⟨c1, c2⟩ := ba c
    refine ps_imp (ps_expr ((sd_all y).E X W0 S g.toGood _ c2) (nosw_none c1)) fun D σ H ⟨B, α, ρ, O, D0, E0, R, h, hd, hl⟩ => ?_
    exact seqE R h hl fun u O1 f α1 v H1 s1 w1 a1 => hd.nx _ _ f _ _ _ s1 (R.stp s1 w1)
  · cases c
theorem ss_ret {y : Y} : SdS G k Γ (.ret y) := .ofS _ (fun _ => rfl) fun X W0 S g e c => by
  unfold retS at c
  split at c
  · refine ps_imp (ps_ret ((sd_all y).E X W0 S g.toGood _ c)) fun D σ H ⟨B, α, ρ, O, D0, E0, R, h, hd, hl⟩ => ?_
    exact seqE R h hl fun u O1 f α1 v H1 s1 w1 a1 => hd.rt _ _ f _ _ _ s1 w1 a1
  · cases c
theorem ss_ite {c : Y} {a b : YS} (da : SdS G k Γ a) (db : SdS G k Γ b) : SdS G k Γ (.ite c a b) := .ofS _ (fun _ => rfl) fun X W0 S g e ch => by
  unfold iteS at ch
  split at ch
  · obtain ⟨ch, c3⟩ := ba ch
    obtain ⟨c1, c2⟩ := ba ch
    refine ps_imp (ps_if ((sd_all c).T X W0 S g.toGood _ c1) (da.B X W0 S g _ c2) (db.B X W0 S g _ c3)) fun D σ H ⟨B, α, ρ, O, D0, E0, R, h, hd, hl⟩ => ?_
    refine seqT R h hl fun t O1 f α1 H1 s1 w1 => ?_
    cases t with
    | true => rw [if_pos rfl]; exact ⟨B, α1, ρ, O1, D0, E0, R.stp s1 w1, f.1 rfl, hd.stp s1, hl.stp s1⟩
    | false => rw [if_neg (by decide)]; exact ⟨B, α1, ρ, O1, D0, E0, R.stp s1 w1, f.2 rfl, hd.stp s1, hl.stp s1⟩
  · cases ch
end
end Z

set_option Elab.async false
set_option linter.all false
set_option maxRecDepth 100000
set_option maxHeartbeats 4000000
namespace Z
open PySem PySem.Spec PyProof.Rows L2
theorem nosw_name {e : Expr} {x : Str} {px : Pos} {l : Nat} {env : Env} (h : noswC env.scope x px e = true) : swapsWith e (some (.Name x px)) l env = pure false := by
  cases e with
  | ListComp elt gs scope pos =>
    have e1 : swapsWith (.ListComp elt gs scope pos) (some (.Name x px)) l env = pure (env.blockKind == .function && env.kindOf x == some .local && px.line == pos.line && !(scope.names.any fun (n, k) => n == x && (k == .local || k == .cell))) := rfl
    rw [e1]
    congr 1
    have h' : (!(px.line == pos.line) || decide (env.scope.names.lookup x ≠ some .local) || (scope.names.any fun (n, k) => n == x && (k == .local || k == .cell))) = true := h
    rw [Bool.or_eq_true, Bool.or_eq_true] at h'
    rcases h' with (h' | h') | h'
    · have : (px.line == pos.line) = false := by simpa using h'
      rw [this, Bool.and_false, Bool.false_and]
    · have h2 := of_decide_eq_true h'
      have : (env.kindOf x == some .local) = false := by
        show (env.scope.names.lookup x == some .local) = false
        exact beq_eq_false_iff_ne.mpr h2
      rw [this, Bool.and_false, Bool.false_and, Bool.false_and]
    · rw [h', Bool.not_true, Bool.and_false]
  | SetComp _ _ _ _ => cases h
  | DictComp _ _ _ _ _ => cases h
  | _ => rfl
theorem sws_noTup {e : Expr} {ts : List Expr} {kk : Nat} {p : Pos} {env : Env} (h : noTup e = true) : swappedStores [.Tuple ts kk p] e env = pure none := by
  cases e <;> first | rfl | cases h
def nms (env : Env) (ts : List Expr) : List Str := ts.filterMap fun
    | .Name id pos => if (env.kindOf id == some .local && pos.line == ((ts.head?.map (·.pos.line)).getD 0)) = true then some id else none
    | _ => none
theorem sws_eq {ts vs : List Expr} {kk k2 : Nat} {p p2 : Pos} {env : Env} : ∃ X, swappedStores [.Tuple ts kk p] (.Tuple vs k2 p2) env =
    if (!(ts.length == 2 || ts.length == 3) || vs.length != ts.length || env.blockKind != .function) = true then pure none else
    if (vs.any fun | .Starred .. => true | _ => false) = true then pure none else
    if ((nms env ts).length != ts.length || (nms env ts).eraseDups.length != (nms env ts).length) = true then pure none else
    if (vs.all (foldedForSure 8)) = true then pure none else
    if (vs.all (constantsAlone 8)) = true then X else
    pure (some (nms env ts)) := ⟨_, rfl⟩
theorem fm_lt {α β : Type} {f : α → Option β} : ∀ {l : List α} {a : α}, a ∈ l → f a = none → (l.filterMap f).length < l.length
  | x :: l, a, hm, hf => by
    rcases List.mem_cons.mp hm with rfl | hm
    · rw [List.filterMap_cons_none hf, List.length_cons]
      exact Nat.lt_succ_of_le (List.length_filterMap_le f l)
    · have ih := fm_lt hm hf
      rw [List.length_cons]
      cases q : f x with
      | none => rw [List.filterMap_cons_none q]; omega
      | some y => rw [List.filterMap_cons_some q, List.length_cons]; omega
theorem sws_tup {e : Expr} {ts : List Expr} {kk : Nat} {p : Pos} {env : Env} (h : (noTup e || nosw2 env.scope ts) = true) : swappedStores [.Tuple ts kk p] e env = pure none := by
  rw [Bool.or_eq_true] at h
  rcases h with h | h
  · exact sws_noTup h
  · by_cases hn : noTup e = true
    · exact sws_noTup hn
    · cases e with
      | Tuple vs k2 p2 =>
        obtain ⟨X, e1⟩ := @sws_eq ts vs kk k2 p p2 env
        rw [e1]
        by_cases c1 : (!(ts.length == 2 || ts.length == 3) || vs.length != ts.length || env.blockKind != .function) = true
        · rw [if_pos c1]
        · rw [if_neg c1]
          by_cases c2 : (vs.any fun | .Starred .. => true | _ => false) = true
          · rw [if_pos c2]
          · rw [if_neg c2, if_pos]
            unfold nosw2 at h
            rw [Bool.or_eq_true] at h
            rcases h with h | h
            · obtain ⟨t, hm, ht⟩ := List.any_eq_true.mp h
              rw [Bool.or_eq_true]
              left
              have : (nms env ts).length < ts.length := by
                refine fm_lt hm ?_
                cases t with
                | Name x px =>
                  have h2 : (env.kindOf x == some .local) = false := beq_eq_false_iff_ne.mpr (of_decide_eq_true ht)
                  show (if (env.kindOf x == some .local && _) = true then some x else none) = none
                  rw [h2, Bool.false_and, if_neg (by decide)]
                | _ => rfl
              exact bne_iff_ne.mpr (Nat.ne_of_lt this)
            · exact absurd (by rw [h]; rfl) c1
      | _ => exact absurd rfl hn
theorem nms_loc {env : Env} {l : Nat} : ∀ {xs : List (Str × Pos)}, (∀ p ∈ xs, env.scope.names.lookup p.1 = some .local ∧ (p.2.line == l) = true) → (xs.filterMap fun p => if (env.kindOf p.1 == some .local && p.2.line == l) = true then some p.1 else none) = xs.map (·.1)
  | [], _ => rfl
  | p :: xs, h => by
    obtain ⟨h1, h2⟩ := h p List.mem_cons_self
    have h3 : (env.kindOf p.1 == some .local) = true := beq_iff_eq.mpr h1
    rw [List.filterMap_cons_some (b := p.1) (by rw [h3, h2]; rfl), nms_loc fun q hq => h q (List.mem_cons_of_mem _ hq)]
    rfl
theorem sws_par {x y : Str} {px py : Pos} {a b : Expr} {kk k2 : Nat} {p p2 : Pos} {env : Env} (hk : env.scope.kind = .function) (hx : env.scope.names.lookup x = some .local) (hy : env.scope.names.lookup y = some .local) (hl : (px.line == py.line) = true) (hne : x ≠ y)
    (ha : noStar a = true) (hb : noStar b = true) (hf : (foldedForSure 8 a && foldedForSure 8 b) = false) (hc : (constantsAlone 8 a && constantsAlone 8 b) = false) :
    swappedStores [.Tuple [.Name x px, .Name y py] kk p] (.Tuple [a, b] k2 p2) env = pure (some [x, y]) := by
  obtain ⟨X, e1⟩ := @sws_eq [.Name x px, .Name y py] [a, b] kk k2 p p2 env
  have hn : nms env [.Name x px, .Name y py] = [x, y] := by
    have h3 : (env.kindOf x == some .local) = true := beq_iff_eq.mpr hx
    have h4 : (env.kindOf y == some .local) = true := beq_iff_eq.mpr hy
    have hl' : (py.line == px.line) = true := by rw [beq_iff_eq] at hl ⊢; exact hl.symm
    unfold nms
    rw [List.filterMap_cons_some (b := x) (by show (if (env.kindOf x == some .local && px.line == px.line) = true then some x else none) = some x; rw [h3]; simp), List.filterMap_cons_some (b := y) (by show (if (env.kindOf y == some .local && py.line == px.line) = true then some y else none) = some y; rw [h4, hl']; rfl)]
    rfl
  have hbk : env.blockKind = .function := by unfold Env.blockKind; rw [hk]; rfl
  have star : ∀ {e : Expr}, noStar e = true → (match e with | .Starred .. => true | _ => false) = false := fun {e} h => by cases e <;> first | rfl | cases h
  rw [e1, if_neg (by rw [hbk]; show ¬ (false = true); decide), if_neg, hn, if_neg, if_neg, if_neg]
  · simp only [List.all_cons, List.all_nil, Bool.and_true]; rw [hc]; decide
  · simp only [List.all_cons, List.all_nil, Bool.and_true]; rw [hf]; decide
  · have : [x, y].eraseDups = [x, y] := by
      have h2 : (y == x) = false := beq_eq_false_iff_ne.mpr (Ne.symm hne)
      simp [List.eraseDups_cons, h2]
    rw [this]
    show ¬ (false = true)
    decide
  · simp only [List.any_cons, List.any_nil]
    have h1 := star ha
    have h2 := star hb
    simp only [Bool.or_false, Bool.or_eq_true, not_or]
    exact ⟨by rw [Bool.not_eq_true]; exact h1, by rw [Bool.not_eq_true]; exact h2⟩
theorem sws_par3 {x y z : Str} {px py pz : Pos} {a b c : Expr} {kk k2 : Nat} {p p2 : Pos} {env : Env} (hk : env.scope.kind = .function) (hx : env.scope.names.lookup x = some .local) (hy : env.scope.names.lookup y = some .local) (hz : env.scope.names.lookup z = some .local) (hl : (px.line == py.line) = true) (hl2 : (px.line == pz.line) = true) (hne : x ≠ y ∧ x ≠ z ∧ y ≠ z)
    (ha : noStar a = true) (hb : noStar b = true) (hcs : noStar c = true) (hf : (foldedForSure 8 a && foldedForSure 8 b && foldedForSure 8 c) = false) (hc : (constantsAlone 8 a && constantsAlone 8 b && constantsAlone 8 c) = false) :
    swappedStores [.Tuple [.Name x px, .Name y py, .Name z pz] kk p] (.Tuple [a, b, c] k2 p2) env = pure (some [x, y, z]) := by
  obtain ⟨X, e1⟩ := @sws_eq [.Name x px, .Name y py, .Name z pz] [a, b, c] kk k2 p p2 env
  have hn : nms env [.Name x px, .Name y py, .Name z pz] = [x, y, z] := by
    have h3 : (env.kindOf x == some .local) = true := beq_iff_eq.mpr hx
    have h4 : (env.kindOf y == some .local) = true := beq_iff_eq.mpr hy
    have h5 : (env.kindOf z == some .local) = true := beq_iff_eq.mpr hz
    have hl' : (py.line == px.line) = true := by rw [beq_iff_eq] at hl ⊢; exact hl.symm
    have hl3 : (pz.line == px.line) = true := by rw [beq_iff_eq] at hl2 ⊢; exact hl2.symm
    unfold nms
    rw [List.filterMap_cons_some (b := x) (by show (if (env.kindOf x == some .local && px.line == px.line) = true then some x else none) = some x; rw [h3]; simp), List.filterMap_cons_some (b := y) (by show (if (env.kindOf y == some .local && py.line == px.line) = true then some y else none) = some y; rw [h4, hl']; rfl), List.filterMap_cons_some (b := z) (by show (if (env.kindOf z == some .local && pz.line == px.line) = true then some z else none) = some z; rw [h5, hl3]; rfl)]
    rfl
  have hbk : env.blockKind = .function := by unfold Env.blockKind; rw [hk]; rfl
  have star : ∀ {e : Expr}, noStar e = true → (match e with | .Starred .. => true | _ => false) = false := fun {e} h => by cases e <;> first | rfl | cases h
  rw [e1, if_neg (by rw [hbk]; show ¬ (false = true); decide), if_neg, hn, if_neg, if_neg, if_neg]
  · simp only [List.all_cons, List.all_nil, Bool.and_true]; rw [← Bool.and_assoc, hc]; decide
  · simp only [List.all_cons, List.all_nil, Bool.and_true]; rw [← Bool.and_assoc, hf]; decide
  · have : [x, y, z].eraseDups = [x, y, z] := by
      have h1 : (y == x) = false := beq_eq_false_iff_ne.mpr (Ne.symm hne.1)
      have h2 : (z == x) = false := beq_eq_false_iff_ne.mpr (Ne.symm hne.2.1)
      have h3 : (z == y) = false := beq_eq_false_iff_ne.mpr (Ne.symm hne.2.2)
      simp [List.eraseDups_cons, h1, h2, h3]
    rw [this]
    show ¬ (false = true)
    decide
  · simp only [List.any_cons, List.any_nil]
    have h1 := star ha
    have h2 := star hb
    have h3 := star hcs
    simp only [Bool.or_false, Bool.or_eq_true, not_or]
    exact ⟨by rw [Bool.not_eq_true]; exact h1, by rw [Bool.not_eq_true]; exact h2, by rw [Bool.not_eq_true]; exact h3⟩

section
variable {G : Gx} {k : Nat} {Γ : List (Fk × ZSp)}
theorem bnot {b : Bool} (h : (!b) = true) : b = false := by cases b <;> first | rfl | cases h
theorem kind_of_swC {sc : Scope} {x : Str} {px : Pos} {e : Expr} (h : swC sc x px e = true) : ∃ elt gs scope pos, e = .ListComp elt gs scope pos ∧ (px.line == pos.line) = true ∧ sc.names.lookup x = some .local ∧ (scope.names.any fun (n, k) => n == x && (k == .local || k == .cell)) = false ∧ sc.kind = .function := by
  cases e with
  | ListComp elt gs scope pos =>
    have h' : ((px.line == pos.line) && decide (sc.names.lookup x = some .local) && !(scope.names.any fun (n, k) => n == x && (k == .local || k == .cell)) && (match sc.kind with | .function => true | _ => false)) = true := h
    obtain ⟨h', h4⟩ := ba h'
    obtain ⟨h', h3⟩ := ba h'
    obtain ⟨h1, h2⟩ := ba h'
    refine ⟨elt, gs, scope, pos, rfl, h1, of_decide_eq_true h2, by simpa using h3, ?_⟩
    cases q : sc.kind <;> rw [q] at h4 <;> first | rfl | cases h4
  | _ => cases h
theorem ss_set (i : Nat) (y : Y) : SdS G k Γ (.set i y) := .ofS _ (fun _ => rfl) fun X W0 S g e c => by
  unfold setS at c
  split at c
  · rename_i x px e sp
    obtain ⟨c, c3⟩ := ba c
    obtain ⟨c1, c2⟩ := ba c
    obtain ⟨l, hf⟩ := g.sto x c2
    have hi : X.N[i]? = some x := by rw [g.hN]; exact of_decide_eq_true c1
    have low : ∀ D σ H, LfS G W0 (vcS Γ (.set i y)) D σ H → tAsg (LfE G W0 (vc Γ y)) (gName i) D σ H := fun D σ H ⟨B, α, ρ, O, D0, E0, R, h, hd, hl⟩ => by
      exact seqE R h hl fun u O1 f α1 v H1 s1 w1 a1 => hd.nx _ _ f _ _ _ s1 ((R.stp s1 w1).st i a1)
    rw [Bool.or_eq_true] at c3
    rcases c3 with c3 | c3
    · obtain ⟨c3, c4⟩ := ba c3
      exact ps_imp (ps_set g.nd hi l ((sd_all y).E X W0 S g.toGood _ c3) (nosw_name (by rw [g.sc]; exact c4)) hf) low
    · obtain ⟨c3, c4⟩ := ba c3
      cases y with
      | comp own vs tg src tst elt =>
        obtain ⟨e0, t, it, ifs, scope, pos, wi, gg, tt, te, rfl, pi, ok, hg, ht, he, hs, imp⟩ := comp_ex own vs tg (sd_all src) (sd_all tst) (sd_all elt) (by
          intro h
          cases tst <;> first | rfl | cases h) g.toGood c3
        obtain ⟨elt', gs', scope', pos', e1, h1, h2, h3, h4⟩ := kind_of_swC c4
        cases e1
        rw [← g.sc] at h2 h4
        exact ps_imp (ps_setLc g.calm g.nd hi h2 (sw_true h4 h2 h1 h3) pi ok hg ht he hs) fun D σ H h => imp _ _ _ (low D σ H h)
      | compU vs tg src elt =>
        obtain ⟨e0, t, it, ifs, scope, pos, wi, gg, tt, te, rfl, pi, ok, hg, ht, he, hs, imp⟩ := comp_exU vs tg (sd_all src) (sd_all elt) g.toGood c3
        obtain ⟨elt', gs', scope', pos', e1, h1, h2, h3, h4⟩ := kind_of_swC c4
        cases e1
        rw [← g.sc] at h2 h4
        exact ps_imp (ps_setLc g.calm g.nd hi h2 (sw_true h4 h2 h1 h3) pi ok hg ht he hs) fun D σ H h => imp _ _ _ (low D σ H h)
      | comp2 own vs vs1 tg tg1 src src1 tst elt =>
        obtain ⟨e0, t, it, t1, it1, ifs, scope, pos, wi, wi1, gg, gg1, tt1, te, rfl, pi, ok, hv, hg, hi1, hg1, ht1, he, hs, hs1, imp⟩ := comp2_ex own vs vs1 tg tg1 (sd_all src) (sd_all src1) (sd_all tst) (sd_all elt) (by
          intro h
          cases tst <;> first | rfl | cases h) g.toGood c3
        obtain ⟨elt', gs', scope', pos', e1, h1, h2, h3, h4⟩ := kind_of_swC c4
        cases e1
        rw [← g.sc] at h2 h4
        exact ps_imp (ps_setLc2 g.calm g.nd hi h2 (sw_true h4 h2 h1 h3) pi ok hv hg (fun _ _ _ _ _ => pts_nil) hi1 hg1 ht1 he hs hs1) fun D σ H h => imp _ _ _ (low D σ H h)
      | _ => cases c3
  · cases c
theorem ss_tgt (t : T1) (y : Y) : SdS G k Γ (.tgt t y) := .ofS _ (fun _ => rfl) fun X W0 S g e c => by
  unfold tgtS at c
  split at c
  · obtain ⟨c, c3⟩ := ba c
    obtain ⟨c1, c2⟩ := ba c
    refine ps_imp (ps_asg ((sd_all y).E X W0 S g.toGood _ c2) (sd_tg g.toGood c1) nosw_tup (sws_tup (by rw [g.sc]; exact c3)) rfl) fun D σ H ⟨B, α, ρ, O, D0, E0, R, h, hd, hl⟩ => ?_
    refine seqE R h hl fun u O1 f α1 v H1 s1 w1 a1 => ?_
    obtain ⟨d, e1, f⟩ := toK_of f
    exact ⟨B, α1, O1, ρ, d, _, R.stp s1 w1, At.of w1 a1 e1, f, fun ρ' q σ' R' _ _ => hd.nx _ _ q _ _ _ s1 R'⟩
  · cases c
theorem ss_par (i j : Nat) (es : Y) : SdS G k Γ (.par i j es) := .ofS _ (fun _ => rfl) fun X W0 S g e c => by
  unfold parS at c
  split at c
  · obtain ⟨c, c12⟩ := ba c
    obtain ⟨c, c11⟩ := ba c
    obtain ⟨c, c10⟩ := ba c
    obtain ⟨c, c9⟩ := ba c
    obtain ⟨c, c8⟩ := ba c
    obtain ⟨c, c7⟩ := ba c
    obtain ⟨c, c6⟩ := ba c
    obtain ⟨c, c5⟩ := ba c
    obtain ⟨c, c4⟩ := ba c
    obtain ⟨c, c3⟩ := ba c
    obtain ⟨c1, c2⟩ := ba c
    have hx := of_decide_eq_true c4
    have hy := of_decide_eq_true c5
    rw [← g.sc] at hx hy
    refine ps_imp (ps_par g.calm g.nd (by rw [g.hN]; exact of_decide_eq_true c1) (by rw [g.hN]; exact of_decide_eq_true c2) (of_decide_eq_true c3) hx hy ((sd_all es).A X W0 S g.toGood _ c12) (sws_par g.fk hx hy c6 (of_decide_eq_true c7) c8 c9 (bnot c10) (bnot c11))) fun D σ H ⟨B, α, ρ, O, D0, E0, R, h, hd, hl⟩ => ?_
    refine seqA R h hl fun us O1 f α1 vs H1 s1 w1 a1 => ?_
    split at f
    · cases a1 with
      | cons a r => cases r with
        | cons a2 r => cases r with
          | nil => exact ⟨_, _, rfl, hd.nx _ _ f _ _ _ s1 (((R.stp s1 w1).st i a).st j a2)⟩
    · exact f.elim
  · cases c
theorem ss_par3 (i j l : Nat) (es : Y) : SdS G k Γ (.par3 i j l es) := .ofS _ (fun _ => rfl) fun X W0 S g e c => by
  unfold par3S at c
  split at c
  · obtain ⟨c, c16⟩ := ba c
    obtain ⟨c, c15⟩ := ba c
    obtain ⟨c, c14⟩ := ba c
    obtain ⟨c, c13⟩ := ba c
    obtain ⟨c, c12⟩ := ba c
    obtain ⟨c, c11⟩ := ba c
    obtain ⟨c, c10⟩ := ba c
    obtain ⟨c, c9⟩ := ba c
    obtain ⟨c, c8⟩ := ba c
    obtain ⟨c, c7⟩ := ba c
    obtain ⟨c, c6⟩ := ba c
    obtain ⟨c, c5⟩ := ba c
    obtain ⟨c, c4⟩ := ba c
    obtain ⟨c, c3⟩ := ba c
    obtain ⟨c1, c2⟩ := ba c
    have hx := of_decide_eq_true c5
    have hy := of_decide_eq_true c6
    have hz := of_decide_eq_true c7
    rw [← g.sc] at hx hy hz
    obtain ⟨n1, n2, n3⟩ := of_decide_eq_true c4
    refine ps_imp (ps_par3 g.calm g.nd (by rw [g.hN]; exact of_decide_eq_true c1) (by rw [g.hN]; exact of_decide_eq_true c2) (by rw [g.hN]; exact of_decide_eq_true c3) n1 n2 n3 hx hy hz ((sd_all es).A X W0 S g.toGood _ c16) (sws_par3 g.fk hx hy hz c8 c9 (of_decide_eq_true c10) c11 c12 c13 (bnot c14) (bnot c15))) fun D σ H ⟨B, α, ρ, O, D0, E0, R, h, hd, hl⟩ => ?_
    refine seqA R h hl fun us O1 f α1 vs H1 s1 w1 a1 => ?_
    split at f
    · cases a1 with
      | cons a r => cases r with
        | cons a2 r => cases r with
          | cons a3 r => cases r with
            | nil => exact ⟨_, _, _, rfl, hd.nx _ _ f _ _ _ s1 ((((R.stp s1 w1).st i a).st j a2).st l a3)⟩
    · exact f.elim
  · cases c
theorem asg_sub {o i : Expr} {pos : Pos} {env : Env} (h : noSlice i = true) (v : Value) : assign (.Subscript o i pos) env v = (do
      let ov ← holding [v] (eval o env)
      let iv ← holding [v, ov] (eval i env)
      standAt pos
      holding [v, ov, iv] (setItem ov iv v)
      release [v, ov, iv] []) := by
  cases i <;> first | rfl | cases h
theorem ss_seti (o ix y : Y) : SdS G k Γ (.seti o ix y) := .ofS _ (fun _ => rfl) fun X W0 S g e c => by
  unfold setiS at c
  split at c
  · obtain ⟨c, c4⟩ := ba c
    obtain ⟨c, c3⟩ := ba c
    obtain ⟨c1, c2⟩ := ba c
    refine ps_imp (ps_asg ((sd_all y).E X W0 S g.toGood _ c3) (pg_sub ((sd_all o).E X W0 S g.toGood _ c1) ((sd_all ix).E X W0 S g.toGood _ c2) set_list (asg_sub c4)) nosw_sub sws_sub rfl) fun D σ H ⟨B, α, ρ, O, D0, E0, R, h, hd, hl⟩ => ?_
    refine seqE R h hl fun u O1 f α1 v H1 s1 w1 a1 => ?_
    refine seqE (R.stp s1 w1) f (hl.stp s1) fun r O2 f2 α2 v2 H2 s2 w2 a2 => ?_
    refine seqE ((R.stp s1 w1).stp s2 w2) f2 ((hl.stp s1).stp s2) fun kx O3 f3 α3 v3 H3 s3 w3 a3 => ?_
    split at f3
    · rename_i k' i'
      rw [go_eq] at f3
      cases q : O3[k']? with
      | none => rw [q] at f3; exact f3.elim
      | some oo =>
        rw [q] at f3
        cases oo with
        | frz _ => exact f3.elim
        | brw _ => exact f3.elim
        | ob _ _ => exact f3.elim
        | lst ds =>
          obtain ⟨x, e1, j, e2, f3⟩ := toK_of f3
          cases (s3.atU a2) with
          | @o _ a ek =>
          cases a3 with
          | d a3 =>
          cases a3
          obtain ⟨vs, e4, r4⟩ := w3.at_ k' a _ ek q
          have ax := At.of w3 ((s2.trans s3).atU a1) e1
          rw [so_eq] at f3
          have S3 := (s1.trans s2).trans s3
          refine ⟨a, vs, i', j, rfl, rfl, e4, by rw [r4.length]; exact e2, ?_⟩
          have s5 : Stp α3 O3 H3 α3 (O3.set k' (.lst (ds.set j x))) (upd H3 a (.lst (vs.set j v))) := stp_set ek q rfl
          exact hd.nx _ _ f3 _ _ _ (S3.trans s5) ((R.stp S3 w3).stp s5 (own_set w3 ek q (r4.set ax j)))
    · exact f3.elim
  · cases c
theorem noswA {e o : Expr} {f : Str} {p : Pos} {l : Nat} {env : Env} : swapsWith e (some (.Attribute o f p)) l env = pure false := by
  cases e <;> rfl
theorem putD_names {f : Str} {y : V} {d : D} : ∀ {gs : List (Str × V)} {fs : List (Str × D)}, gs.map (·.1) = fs.map (·.1) → (putF f y gs).map (·.1) = (putD f d fs).map (·.1)
  | [], [], _ => rfl
  | [], _ :: _, e => by cases e
  | _ :: _, [], e => by cases e
  | (g, v) :: gs, (h, x) :: fs, e => by
    obtain ⟨e1, e2⟩ := List.cons.inj e
    have e1 : g = h := e1
    subst e1
    unfold putF putD
    by_cases q : g = f
    · rw [if_pos q, if_pos q]
      show g :: _ = g :: _
      rw [e2]
    · rw [if_neg q, if_neg q]
      show g :: _ = g :: _
      rw [putD_names e2]
theorem putD_ats {K : PySem.W.Frag} {M : Addr → Prop} {H : Hp} {f : Str} {y : V} {d : D} (a : At K M H y d) : ∀ {gs : List (Str × V)} {fs : List (Str × D)}, gs.map (·.1) = fs.map (·.1) → Ats K M H (gs.map (·.2)) (fs.map (·.2)) → Ats K M H ((putF f y gs).map (·.2)) ((putD f d fs).map (·.2))
  | [], [], _, _ => .cons a .nil
  | [], _ :: _, e, _ => by cases e
  | _ :: _, [], e, _ => by cases e
  | (g, v) :: gs, (h, x) :: fs, e, r => by
    obtain ⟨e1, e2⟩ := List.cons.inj e
    have e1 : g = h := e1
    subst e1
    cases r with
    | cons b r =>
    unfold putF putD
    by_cases q : g = f
    · rw [if_pos q, if_pos q]
      exact .cons a r
    · rw [if_neg q, if_neg q]
      exact .cons b (putD_ats a e2 r)
theorem putD_in {f : Str} {d : D} {al : List Str} (h : f ∈ al) : ∀ {fs : List (Str × D)}, (∀ g ∈ fs.map (·.1), g ∈ al) → ∀ g ∈ (putD f d fs).map (·.1), g ∈ al
  | [], _, g, m => by
    have m : g ∈ [f] := m
    rw [List.mem_singleton.mp m]; exact h
  | (g0, x) :: fs, k, g, m => by
    unfold putD at m
    by_cases q : g0 = f
    · rw [if_pos q] at m
      exact k g m
    · rw [if_neg q] at m
      have m : g ∈ g0 :: (putD f d fs).map (·.1) := m
      rcases List.mem_cons.mp m with rfl | m
      · exact k _ List.mem_cons_self
      · exact putD_in h (fun g' m' => k g' (List.mem_cons_of_mem _ m')) g m
theorem ss_sfl (i : Nat) (f : Str) (y : Y) : SdS G k Γ (.sfl i f y) := .ofS _ (fun _ => rfl) fun X W0 S g e c => by
  unfold sflS at c
  split at c
  · obtain ⟨c, c4⟩ := ba c
    obtain ⟨c1, c3⟩ := ba c
    cases of_decide_eq_true c3
    refine ps_imp (ps_fld (pe_name g.toGood c1) ((sd_all y).E X W0 S g.toGood _ c4) noswA) fun D σ H ⟨B, α, ρ, O, D0, E0, R, h, hd, hl⟩ => ?_
    refine seqE R h hl fun u O1 f1 α1 v H1 s1 w1 a1 => ?_
    obtain ⟨x, e1, f1⟩ := toK_of f1
    split at f1
    · rename_i k' hg
      obtain ⟨v2, e2, a2⟩ := (R.stp s1 w1).vars i _ hg
      refine ⟨v2, e2, ?_⟩
      split at f1
      · rename_i c0 fs hgo
        rw [go_eq] at hgo
        cases a2 with
        | @o _ a ek =>
        obtain ⟨dx, gs, e4, ⟨ok, hin, hle⟩, hn, r4⟩ := w1.at_ k' a _ ek hgo
        obtain ⟨⟨h1, h2, h3⟩, f1⟩ := f1
        have ax := At.of w1 a1 e1
        rw [so_eq] at f1
        rw [g.hK]
        have lg : gs.length = fs.length := by
          have := congrArg List.length hn
          simpa using this
        refine ⟨a, _, dx, gs, rfl, e4, ok.1, ok.2.1 _ h1, by omega, ?_⟩
        have s5 := stp_upd (H := H1) (o' := .ob c0 (putD f x fs)) (ho := .ins (He.ga G.K c0.1) dx (putF f v gs)) ek hgo rfl
        exact hd.nx _ _ f1 _ _ _ (s1.trans s5) ((R.stp s1 w1).stp s5 (own_setO w1 ek hgo e4 ⟨ok, putD_in (f := f) (d := x) h1 hin, h2⟩ (putD_names hn) (putD_ats ax hn r4)))
      · exact f1.elim
    · exact f1.elim
  · cases c
theorem AtU.unb {B : Addr → Prop} {α : List Addr} {O O2 : List DO} {H : Hp} (h : ∀ b, Mu B α O2 b → Mu B α O b) {v : V} {u : U} (a : AtU G.K B α O H v u) : AtU G.K B α O2 H v u := a.later (fun _ _ z => z) fun b o m e _ => ⟨e, fun z => m (h b z)⟩
theorem ss_for (t : T1) (src : Y) {b : YS} (db : SdS G k Γ b) : SdS G k Γ (.for_ t src b) := .ofS _ (fun _ => rfl) fun X W0 S g e c => by
  unfold forS at c
  split at c
  · obtain ⟨c, c4⟩ := ba c
    obtain ⟨c, c3⟩ := ba c
    obtain ⟨c1, c2⟩ := ba c
    refine ps_imp (ps_for g.po g.calm ((sd_all src).I X W0 S g.toGood _ _ c2) (sd_tg g.toGood c1) (db.B X W0 S g _ c4) (folded_of c3)) fun D σ H ⟨B, α, ρ, O, D0, E0, R, h, hd, hl⟩ => ?_
    refine ⟨B, α, ρ, O, _, E0, R, h, fun us O1 q => ?_, hl⟩
    obtain ⟨xs, rfl, q⟩ := q
    refine ⟨xs, rfl, fun α1 H1 J s1 w1 wk => ?_⟩
    obtain ⟨Gd, Yy, wk, hwk⟩ := wk.ex
    refine for_it wk (fun i σ H => ∃ α2 ρ2 O2, Stp α1 O1 H1 α2 O2 H ∧ Rep G B α2 σ H ρ2 O2 ∧ forR t (vcS Γ b) E0 D0 O (xs.drop i) ρ2 O2) ?_ ?_ ?_ ?_
    · exact ⟨α1, ρ, O1, Stp.refl, R.stp s1 w1, q⟩
    · rintro i σ2 H2 hi ⟨α2, ρ2, O2, s2, R2, q2⟩
      exact (hwk _ _ _ _ (fun b m => by
        rcases m with m | m
        · exact .inl (.inl m)
        · rcases s2.new b m with z | z
          · exact .inl (.inr z)
          · exact .inr z) (fun b o e m n => s2.keep b o e m n) R2.own).1
    · rintro i x σ2 H2 H3 hi ⟨α2, ρ2, O2, s2, R2, q2⟩ y
      obtain ⟨d, ed, hH3, ax⟩ := (hwk _ _ _ _ (fun b m => by
        rcases m with m | m
        · exact .inl (.inl m)
        · rcases s2.new b m with z | z
          · exact .inl (.inr z)
          · exact .inr z) (fun b o e m n => s2.keep b o e m n) R2.own).2 i x H3 hi y
      have st3 : Stp α2 O2 H2 α2 O2 H3 ∧ Own G B α2 O2 H3 := by
        rcases hH3 with rfl | ⟨p, vs, hp, rfl⟩
        · exact ⟨Stp.refl, R2.own⟩
        · exact ⟨stp_new hp, own_new R2.own hp⟩
      obtain ⟨s3, w3⟩ := st3
      have hdrop : xs.drop i = d :: xs.drop (i + 1) := by
        obtain ⟨hlt, ed⟩ := List.getElem?_eq_some_iff.mp ed
        rw [← ed]
        exact List.drop_eq_getElem_cons hlt
      rw [hdrop, forR] at q2
      have S03 := s1.trans (s2.trans s3)
      refine ⟨B, α2, O2, ρ2, d, _, R2.stp s3 w3, ax, q2, fun ρ3 q3 σ3 R3 _ _ => ?_⟩
      refine ⟨B, α2, ρ3, O2, _, _, R3, q3, ⟨fun ρ' O' e α' σ' H' s' R' => ⟨α', ρ', O', (s2.trans s3).trans s', R', e⟩, fun u O' e α' v H' s' w' a' => ?_, fun ρ' O' e α' σ' H' s' R' => ?_, fun ρ' O' e α' σ' H' s' R' => ⟨α', ρ', O', (s2.trans s3).trans s', R', e⟩⟩, fun x O' e α' cls dd H' s' w' ex => ?_⟩
      · obtain ⟨z1, z2, z3⟩ := unb_ok (S03.trans s') R.own w'
        exact hd.rt _ _ e _ _ _ z1 z2 (a'.unb z3)
      · obtain ⟨z1, z2, z3⟩ := unb_ok (S03.trans s') R.own R'.own
        exact hd.nx _ _ e _ _ _ z1 ⟨fun j u e => let ⟨v, h1, h2⟩ := R'.vars j u e; ⟨v, h1, h2.unb z3⟩, z2, R'.len⟩
      · obtain ⟨z1, z2, z3⟩ := unb_ok (S03.trans s') R.own w'
        obtain ⟨h1, dx, fs, h2, h3, h4, h5, h6⟩ := ex
        exact hl _ _ e _ _ _ _ z1 z2 ⟨h1, dx, fs, h2, h3, fun m => h4 (z3 _ m), h5, h6.less z3⟩
    · rintro σ2 H2 ⟨α2, ρ2, O2, s2, R2, q2⟩
      rw [List.drop_length, forR] at q2
      obtain ⟨z1, z2, z3⟩ := unb_ok (s1.trans s2) R.own R2.own
      exact hd.nx _ _ q2 _ _ _ z1 ⟨fun j u e => let ⟨v, h1, h2⟩ := R2.vars j u e; ⟨v, h1, h2.unb z3⟩, z2, R2.len⟩
  · cases c
theorem ss_whl (c : Y) {b : YS} (db : SdS G k Γ b) : SdS G k Γ (.whl c b) := .ofS _ (fun _ => rfl) fun X W0 S g e ch => by
  unfold whlS at ch
  split at ch
  · obtain ⟨c1, c2⟩ := ba ch
    refine ps_imp (ps_while g.po ((sd_all c).T X W0 S g.toGood _ c1) (db.B X W0 S g _ c2)) fun D σ H ⟨B, α, ρ, O, D0, E0, R, ⟨W, ⟨m, h0⟩, hw⟩, hd, hl⟩ => ?_
    refine ⟨fun n σ H1 => ∃ α1 ρ1 O1, Stp α O H α1 O1 H1 ∧ Rep G B α1 σ H1 ρ1 O1 ∧ W n ρ1 O1, ⟨m, α, ρ, O, Stp.refl, R, h0⟩, ?_⟩
    rintro n σ1 H1 ⟨α1, ρ1, O1, s1, R1, w1⟩
    refine seqT R1 (hw n ρ1 O1 w1) (hl.stp s1) fun t O2 f α2 H2 s2 w2 => ?_
    cases t with
    | true =>
      rw [if_pos rfl]
      have s12 := s1.trans s2
      refine ⟨fun σ3 H3 => ∃ m', m' < n ∧ ∃ α1 ρ1 O1, Stp α O H α1 O1 H3 ∧ Rep G B α1 σ3 H3 ρ1 O1 ∧ W m' ρ1 O1, fun _ _ h => h, B, α2, ρ1, O2, _, E0, R1.stp s2 w2, f.1 rfl, ?_, hl.stp s12⟩
      exact ⟨fun ρ' O' ⟨m', hm, q⟩ α' σ' H' s R' => ⟨m', hm, α', ρ', O', s12.trans s, R', q⟩, fun u O' q α' v H' s w a => hd.rt _ _ q _ _ _ (s12.trans s) w a, fun ρ' O' q α' σ' H' s R' => hd.nx _ _ q _ _ _ (s12.trans s) R',
        fun ρ' O' ⟨m', hm, q⟩ α' σ' H' s R' => ⟨m', hm, α', ρ', O', s12.trans s, R', q⟩⟩
    | false =>
      rw [if_neg (by decide)]
      exact hd.nx _ _ (f.2 rfl) _ _ _ (s1.trans s2) (R1.stp s2 w2)
  · cases ch
theorem ss_all : ∀ z : YS, SdS G k Γ z
  | .nil => ss_nil
  | .seq a r => ss_seq (ss_all a) (ss_all r)
  | .pas => ss_pas
  | .doc => ss_doc
  | .ex _ => ss_ex
  | .set i y => ss_set i y
  | .tgt t y => ss_tgt t y
  | .par i j es => ss_par i j es
  | .par3 i j l es => ss_par3 i j l es
  | .seti o ix y => ss_seti o ix y
  | .ite _ a b => ss_ite (ss_all a) (ss_all b)
  | .for_ t src b => ss_for t src (ss_all b)
  | .whl c b => ss_whl c (ss_all b)
  | .ret _ => ss_ret
  | .ret0 => ss_ret0
  | .brk => ss_brk
  | .cnt => ss_cnt
  | .nev => ss_nev
  | .rse e _ => ss_rse e
  | .sfl i f y => ss_sfl i f y
end
end Z

set_option Elab.async false
set_option linter.all false
set_option maxRecDepth 100000
set_option maxHeartbeats 4000000
namespace Z
open PySem PySem.Spec PyProof.Rows L2
/-- the def x keeps the promise S, without a context -/
def FnT (P : Program) (w : World) (K : PySem.W.Frag) (mg : Str → Option Value) (base : Heap) (G : Gx) (k : Nat) (x : Fk) (S : ZSp) : Prop := FnX P w K mg base G k x S
section
variable {P : Program} {w : World} {K : PySem.W.Frag} {mg : Str → Option Value} {base : Heap} {G : Gx} {j k : Nat} {x : Fk} {S T : ZSp}
theorem FnT.mono (h : FnT P w K mg base G j x S) (l : j ≤ k) : FnT P w K mg base G k x S := FnX.mono h l
/-- a lesser promise -/
theorem FnT.weak (h : FnT P w K mg base G k x S) (l : ∀ us O Q E, T us O Q E → S us O Q E) : FnT P w K mg base G k x T := FnX.weak h l
end
section
variable {P : Program} {w : World} {K : PySem.W.Frag} {mg : Str → Option Value} {base : Heap} {G : Gx} {k : Nat} {x : Str} {S T : ZSp} {f : Addr} {fd : FuncData} {ps : List Str} {ds : List Value} {dvs : List V}
/-- a promise out of what a def does -/
theorem FnT.raw (h1 : mg x = some (.ref f)) (h2 : PySem.W.keepIn K (.ref f) = true) (h3 : FnOk P w K mg base (L2.CX P w) k f fd ps (lowSp G S)) (h4 : Binds K fd ps []) : FnT P w K mg base G k (x, []) S :=
  .inl ⟨rfl, f, h1, h2, (FnRK.of h3 h4 .nil).imp fun _ _ _ _ z => by rw [List.append_nil]; exact z⟩
/-- .. with the defaults dd behind the arguments that are given -/
theorem FnT.dflt (h1 : mg x = some (.ref f)) (h2 : PySem.W.keepIn K (.ref f) = true) (h3 : FnOk P w K mg base (L2.CX P w) k f fd ps (lowSp G S)) (h4 : Binds K fd ps ds) (h5 : Vals dvs ds)
    (dd : List U) (hdd : ∀ B α O H, AtUs G.K B α O H dvs dd) (l : ∀ us O Q E, T us O Q E → S (us ++ dd) O Q E) : FnT P w K mg base G k (x, []) T :=
  .inl ⟨rfl, f, h1, h2, (FnRK.of h3 h4 h5).imp fun vs H Q E ⟨B, α, O, us, Q0, E0, ow, ha, p, r⟩ => ⟨B, α, O, us ++ dd, Q0, E0, ow, ha.append (hdd _ _ _ _), l _ _ _ _ p, r⟩⟩
/-- .. called with keywords ks: g puts the positional values and the keywords' ones into the parameters' order -/
theorem FnT.kw {ks : List Str} {n : Nat} (h1 : mg x = some (.ref f)) (h2 : PySem.W.keepIn K (.ref f) = true) (h3 : FnOk P w K mg base (L2.CX P w) k f fd ps (lowSp G S)) (g : List Value → List Value → List Value) (gV : List V → List V → List V) (gU : List U → List U → List U) (hb : KBn K fd ps n ks g gV)
    (hU : ∀ B α O H vs us zs ws, AtUs G.K B α O H vs us → AtUs G.K B α O H zs ws → us.length = n → ws.length = ks.length → AtUs G.K B α O H (gV vs zs) (gU us ws))
    (l : ∀ us O Q E, T us O Q E → us.length = n + ks.length ∧ S (gU (us.take n) (us.drop n)) O Q E) (hmk : mkd ks = false := by rfl) : FnT P w K mg base G k (x, ks) T := by
  refine .inl ⟨hmk, f, h1, h2, fun A outer s H us ws vs zs Q E hr e0 r1 r2 hl h => ?_⟩
  obtain ⟨B, α, O, uu, Q0, E0, ow, ha, p, r⟩ := h
  obtain ⟨l1, p⟩ := l _ _ _ _ p
  have lz : zs.length = ks.length := by rw [r2.length]; exact hl
  have lv : vs.length = n := by
    have := ha.length
    rw [List.length_append] at this
    omega
  have split : AtUs G.K B α O H vs (uu.take n) ∧ AtUs G.K B α O H zs (uu.drop n) := by
    have key : ∀ {vs zs : List V} {uu : List U}, AtUs G.K B α O H (vs ++ zs) uu → AtUs G.K B α O H vs (uu.take vs.length) ∧ AtUs G.K B α O H zs (uu.drop vs.length) := by
      intro vs
      induction vs with
      | nil => intro zs uu h; exact ⟨.nil, h⟩
      | cons v vs ih =>
        intro zs uu h
        cases h with
        | cons a r => exact ⟨.cons a (ih r).1, (ih r).2⟩
    rw [← lv]
    exact key ha
  have KX : K.In s.heap := e0.mod.kin.keeps fun b o e => (e0.bs b o e).1
  refine h3.run A outer s H ⟨us, ks.zip ws⟩ (g us ws) (gV vs zs) Q E hr e0 (hb.to s us ws KX (by rw [← r1.length]; exact lv) hl) (hb.rel r1 r2) ?_
  exact ⟨B, α, O, _, Q0, E0, ow, hU _ _ _ _ _ _ _ _ split.1 split.2 (by rw [List.length_take]; omega) (by rw [List.length_drop]; omega), p, r⟩
end
/-- the body does as the promise says -/
def Keeps (Γ : List (Fk × ZSp)) (z : YS) (n : Nat) (S : ZSp) : Prop := ∀ us O Q E, S us O Q E →
  vcS Γ z E ⟨fun _ O' => Q (.d .non) O', Q, fun _ _ => False, fun _ _ => False⟩ (us.map some ++ List.replicate (n - us.length) none) O
/-- .. for a def that gives data alone: its own places are left behind -/
def KeepsD (Γ : List (Fk × ZSp)) (z : YS) (n : Nat) (S : ZSp) : Prop := ∀ us O Q E, S us O Q E →
  vcS Γ z E ⟨fun _ O' => Q (.d .non) (O'.take O.length), fun u O' => ∃ x, u = .d x ∧ Q u (O'.take O.length), fun _ _ => False, fun _ _ => False⟩ (us.map some ++ List.replicate (n - us.length) none) O
theorem gt_start : ∀ {us : List U} {m i : Nat} {u : U}, gt (us.map some ++ List.replicate m none) i = some u → us[i]? = some u
  | [], 0, _, _, h => by cases h
  | [], m + 1, 0, _, h => by cases h
  | [], m + 1, i + 1, u, h => by
    have h' : gt (([] : List U).map some ++ List.replicate m none) i = some u := h
    have := gt_start h'
    simp at this
  | v :: us, m, 0, u, h => h
  | v :: us, m, i + 1, u, h => by
    have h' : gt (us.map some ++ List.replicate m none) i = some u := h
    have := gt_start h'
    simpa using this
theorem ownB_loc {sc : Scope} {x : Str} (h : ownB sc x = true) : Loc sc x := by
  unfold ownB at h
  split at h
  · exact .inl (by assumption)
  · exact .inr (by assumption)
  · cases h
/-- what is known of the program: built-ins' names free, global numbers and texts, errors, the defs that ask -/
structure Wld (P : Program) (w : World) (K : PySem.W.Frag) (mg : Str → Option Value) (base : Heap) (G : Gx) (ex : List Str) (gi : List (Str × Int)) (gs : List (Str × Str)) (xs : List XcD) (ask : Bool) (isd : Bool) : Prop where
  hK : K = G.K
  free : ∀ y ∈ bnames, mg y = none
  gi : ∀ p ∈ gi, ∃ t, mg p.1 = some (.int p.2 t)
  gs : ∀ p ∈ gs, ∃ t, mg p.1 = some (.str p.2 t)
  xs : ∀ e ∈ xs, XcF P w K mg base e
  ask : ask = true → AskE K mg ex isd
/-- a def with lambdas: its code object and its table -/
def LamD (K : PySem.W.Frag) (mg : Str → Option Value) (base : Heap) (G : Gx) (f : Addr) (qual : Str) : Prop := ∃ c Pt, (∀ oc od fd osl, K.lookup f = some ⟨oc, od, .func fd, osl⟩ → fd.code = .ref c) ∧ LamX.TabB base mg c Pt ∧ (Pt, qual ++ ".<locals>." ++ "<lambda>") ∈ G.T ∧ ∀ p ∈ G.T, p.1 = Pt → p.2 = qual ++ ".<locals>." ++ "<lambda>"
section
variable {P : Program} {w : World} {K : PySem.W.Frag} {mg : Str → Option Value} {base : Heap} {G : Gx} {k : Nat} {ex : List Str} {gi : List (Str × Int)} {gs : List (Str × Str)} {xs : List XcD} {ask isd : Bool}
theorem good_of {x qual : Str} {params : Arguments} {body : List Stmt} {scope : Scope} {N ps : List Str} {Γ : List (Fk × ZSp)} {f : Addr} {cdv : Value} {lam : Bool} (fs : FnScope N ps scope) (Wd : Wld P w K mg base G ex gi gs xs ask isd) (hl : lam = true → ask = true)
    (hfn : ∀ (i : Nat) (y : Fk) (Q : ZSp), Γ[i]? = some (y, Q) → FnT P w K mg base G k y Q)
    (hlam : lam = true → ∃ c Pt, cdv = .ref c ∧ LamX.TabB base mg c Pt ∧ (Pt, qual ++ ".<locals>." ++ "<lambda>") ∈ G.T ∧ ∀ p ∈ G.T, p.1 = Pt → p.2 = qual ++ ".<locals>." ++ "<lambda>")
    (A : Around) (outer : List Env) (s : Shared) (H : Hp) (E : XK) (hr : Room (k + 3) (A.deeper (envOfC qual scope s.heap.objs.size f cdv))) : GoodS (cxOf (L2.CX P w) P w K mg base N qual scope f cdv A outer s H E) G E k ⟨N, scope, scope, lam, ex, gi, gs, xs, isd, true⟩ Γ where
  hN := rfl
  nd := fs.nd
  sc := rfl
  calm := rfl
  hK := Wd.hK
  takes := takes_of rfl rfl rfl rfl
  rm := by
    show Room (if lam = true then k + 3 else k) _
    split
    · exact hr
    · exact hr.mono (by omega)
  fns := fun i y Q h => hfn i y Q h
  free := Wd.free
  sto := fun x h => ⟨ownB_loc h, .inl rfl⟩
  gi := Wd.gi
  gs := Wd.gs
  xs := Wd.xs
  mkx := fun _ => hr.mono (by omega)
  lam := fun z => by
    obtain ⟨c, Pt, h1, h2, h3, h4⟩ := hlam z
    exact ⟨⟨c, Pt, h2, h1, h3, h4⟩, Wd.ask (hl z), rfl⟩
  po := passes_of rfl
  fk := fs.kind
  rm2 := hr
theorem rep_start {α : List Addr} {O : List DO} {B : Addr → Prop} {H : Hp} {vs : List V} {us : List U} {N : List Str} (ow : Own G B α O H) (ha : AtUs G.K B α O H vs us) : Rep G B α (L2.start N vs) H (us.map some ++ List.replicate (N.length - us.length) none) O := by
  refine ⟨fun i u e => ?_, ow, ?_⟩
  · have e := gt_start e
    obtain ⟨v, e1, a1⟩ := ha.get e
    refine ⟨v, ?_, a1⟩
    unfold L2.start
    rw [List.getElem?_append_left (by rw [List.length_map]; exact (List.getElem?_eq_some_iff.mp e1).1), List.getElem?_map, e1]
    rfl
  · unfold L2.start
    rw [List.length_append, List.length_append, List.length_map, List.length_map, List.length_replicate, List.length_replicate, ha.length]
    exact Nat.le_refl _
section
variable {x qual : Str} {params : Arguments} {body : List Stmt} {scope : Scope} {kws : List (Str × V)} {dvs : List V} {f : Addr} {fd : FuncData} {N ps : List Str} {Γ : List (Fk × ZSp)} {z : YS} {S : ZSp} {lam : Bool}
theorem fnOk_of (F : FunD K x qual params body scope dvs kws f fd) (Wd : Wld P w K mg base G ex gi gs xs ask isd) (hl : lam = true → ask = true) (hlam : lam = true → LamD K mg base G f qual)
    (hS : C8.scC N ps scope = true) (hck : (ckS (Γ.map (·.1)) z ⟨N, scope, scope, lam, ex, gi, gs, xs, isd, true⟩).B body = true)
    (hfn : ∀ (i : Nat) (y : Fk) (Q : ZSp), Γ[i]? = some (y, Q) → FnT P w K mg base G k y Q) (len : ∀ us O Q E, S us O Q E → us.length = ps.length) (spec : Keeps Γ z N.length S) : FnOk P w K mg base (L2.CX P w) (k + 4) f fd ps (lowSp G S) := by
  have fs := C8.fnScope_by hS
  obtain ⟨oc, od, dV, kV, doc, pm, an, cdv, ct, osl, rfl, lk, hcd, _, _⟩ := F.ex
  refine fn_of lk hcd fs (fun vs H Q E ⟨B, α, O, us, Q0, E0, ow, ha, h, hq, he⟩ => by rw [ha.length]; exact len _ _ _ _ h) fun A outer s H vs Q E hr ⟨B, α, O, us, Q0, E0, ow, ha, h, hq, he⟩ => ?_
  have good := good_of (x := x) (params := params) (body := body) (Γ := Γ) (f := f) fs Wd hl hfn (cdv := cdv) (fun z => let ⟨c, Pt, h1, h2⟩ := hlam z; ⟨c, Pt, h1 _ _ _ _ lk, h2⟩) A outer s H E hr
  exact ⟨_, (ss_all z).B _ E _ good _ hck, B, α, _, O, _, E0, rep_start ow ha, spec _ _ _ _ h, ⟨fun ρ' O' q α' σ' H' s R' => hq _ _ q _ _ _ s R'.own (.d .non), fun u O' q α' v H' s w a => hq _ _ q _ _ _ s w a, fun _ _ q => q.elim, fun _ _ q => q.elim⟩, he⟩
theorem fnOkD_of (F : FunD K x qual params body scope dvs kws f fd) (Wd : Wld P w K mg base G ex gi gs xs ask isd) (hl : lam = true → ask = true) (hlam : lam = true → LamD K mg base G f qual)
    (hS : C8.scC N ps scope = true) (hck : (ckS (Γ.map (·.1)) z ⟨N, scope, scope, lam, ex, gi, gs, xs, isd, true⟩).B body = true)
    (hfn : ∀ (i : Nat) (y : Fk) (Q : ZSp), Γ[i]? = some (y, Q) → FnT P w K mg base G k y Q) (len : ∀ us O Q E, S us O Q E → us.length = ps.length) (spec : KeepsD Γ z N.length S) : FnOk P w K mg base (L2.CX P w) (k + 4) f fd ps (lowSp G S) := by
  have fs := C8.fnScope_by hS
  obtain ⟨oc, od, dV, kV, doc, pm, an, cdv, ct, osl, rfl, lk, hcd, _, _⟩ := F.ex
  refine fn_of lk hcd fs (fun vs H Q E ⟨B, α, O, us, Q0, E0, ow, ha, h, hq, he⟩ => by rw [ha.length]; exact len _ _ _ _ h) fun A outer s H vs Q E hr ⟨B, α, O, us, Q0, E0, ow, ha, h, hq, he⟩ => ?_
  have good := good_of (x := x) (params := params) (body := body) (Γ := Γ) (f := f) fs Wd hl hfn (cdv := cdv) (fun z => let ⟨c, Pt, h1, h2⟩ := hlam z; ⟨c, Pt, h1 _ _ _ _ lk, h2⟩) A outer s H E hr
  have cut : ∀ {x : D} {v : V} (O' : List DO), Q0 (.d x) (O'.take O.length) → ∀ α' H', Stp α O H α' O' H' → Own G B α' O' H' → AtU G.K B α' O' H' v (.d x) → Q v H' := fun {x v} O' q α' H' s w a => by
    have h1 := stp_take s ow
    have h2 := own_take w α.length
    rw [h1.2] at h2
    rw [← ow.len] at q
    cases a with
    | d a =>
      refine hq _ _ q _ _ _ h1.1 h2 (.d (a.less fun b m => ?_))
      rcases m with m | ⟨j, o, e1, e2, l⟩
      · exact .inl m
      · exact .inr ⟨j, o, s.idx e1, take_some e2, l⟩
  exact ⟨_, (ss_all z).B _ E _ good _ hck, B, α, _, O, _, E0, rep_start ow ha, spec _ _ _ _ h, ⟨fun ρ' O' q α' σ' H' s R' => cut _ q _ _ s R'.own (.d .non), fun u O' ⟨x, e, q⟩ α' v H' s w a => by
      subst e
      cases a with
      | d a => exact cut _ q _ _ s w (.d a), fun _ _ q => q.elim, fun _ _ q => q.elim⟩, he⟩
theorem fnT_of (F : FunD K x qual params body scope dvs kws f fd) (Wd : Wld P w K mg base G ex gi gs xs ask isd) (hl : lam = true → ask = true) (hlam : lam = true → LamD K mg base G f qual) (hm : mg x = some (.ref f)) (hb : Binds K fd ps [])
    (hS : C8.scC N ps scope = true) (hck : (ckS (Γ.map (·.1)) z ⟨N, scope, scope, lam, ex, gi, gs, xs, isd, true⟩).B body = true)
    (hfn : ∀ (i : Nat) (y : Fk) (Q : ZSp), Γ[i]? = some (y, Q) → FnT P w K mg base G k y Q) (len : ∀ us O Q E, S us O Q E → us.length = ps.length) (spec : Keeps Γ z N.length S) : FnT P w K mg base G (k + 4) (x, []) S :=
  .raw hm F.kp (fnOk_of F Wd hl hlam hS hck hfn len spec) hb
theorem fnTD_of (F : FunD K x qual params body scope dvs kws f fd) (Wd : Wld P w K mg base G ex gi gs xs ask isd) (hl : lam = true → ask = true) (hlam : lam = true → LamD K mg base G f qual) (hm : mg x = some (.ref f)) (hb : Binds K fd ps [])
    (hS : C8.scC N ps scope = true) (hck : (ckS (Γ.map (·.1)) z ⟨N, scope, scope, lam, ex, gi, gs, xs, isd, true⟩).B body = true)
    (hfn : ∀ (i : Nat) (y : Fk) (Q : ZSp), Γ[i]? = some (y, Q) → FnT P w K mg base G k y Q) (len : ∀ us O Q E, S us O Q E → us.length = ps.length) (spec : KeepsD Γ z N.length S) : FnT P w K mg base G (k + 4) (x, []) S :=
  .raw hm F.kp (fnOkD_of F Wd hl hlam hS hck hfn len spec) hb
end
end
/-- the law's own promise: one script, no places -/
def lawZ (n : Nat) : ZSp := fun us O Q _ => ∃ ns : List Int, us = [.d (.scr ns)] ∧ O = [] ∧ ns.length ≤ n ∧ ∀ O', Q (.d (.bl true)) O'
theorem lawZ_low {G : Gx} {n : Nat} {H : Hp} {a : Addr} {ns : List Int} (hT : LamX.Tabs G.T H) (hl : ns.length ≤ n) (hS : SqL G.K H a (ns.map V.int)) : lowSp G (lawZ n) [.ref a] H (fun v _ => v = .bl true) fun _ _ _ => False := by
  refine ⟨fun _ => False, [], [], [.d (.scr ns)], fun u _ => u = .d (.bl true), fun _ _ => False, ⟨rfl, List.nodup_nil, fun k a o e => by simp at e, fun _ z => z.elim, fun a _ z => z, hT⟩, .cons (.d ?_) .nil, ⟨ns, rfl, rfl, hl, fun _ => rfl⟩, fun u O' e α' v H' s w a => ?_, fun _ _ z => z.elim⟩
  · have hn : ¬ Mu (fun _ => False) [] [] a := fun m => m.elim id fun ⟨k, o, e, _⟩ => by simp at e
    rcases hS with h | h
    · exact .scr h hn
    · exact .scrK fun _ => .inr h
  · cases e
    cases a with
    | d a => cases a; rfl
end Z

set_option Elab.async false
set_option linter.all false
set_option maxRecDepth 100000
set_option maxHeartbeats 4000000
namespace Z
open PySem PySem.Spec PyProof.Rows L2
/-! ### steps of the reading, by cases -/
theorem nrm_d {O : List DO} {x : D} : nrm O (.d x) = some x := rfl
theorem toD_d {O : List DO} {x : D} : toD O (.d x) = some x := by rw [toD]
theorem nrK_d {O : List DO} {x : D} {k : D → Prop} : nrK O (.d x) k = k x := rfl
theorem toK_d {O : List DO} {x : D} {k : D → Prop} : toK O (.d x) k = k x := by unfold toK; rw [toD_d]
theorem nrK_lst {O : List DO} {i : Nat} {ds : List D} {k : D → Prop} (h : go O i = some (.lst ds)) : nrK O (.o i) k = k (.lst ds) := by simp only [nrK, nrm, h]
theorem nrK_lst0 {O : List DO} {ds : List D} {k : D → Prop} : nrK (.lst ds :: O) (.o 0) k = k (.lst ds) := rfl
theorem nrK_lst1 {O : List DO} {x : DO} {ds : List D} {k : D → Prop} : nrK (x :: .lst ds :: O) (.o 1) k = k (.lst ds) := rfl
theorem nrK_frz {O : List DO} {i : Nat} {ds : List D} {k : D → Prop} (h : go O i = some (.frz ds)) : nrK O (.o i) k = k (.lst ds) := by simp only [nrK, nrm, h]
theorem nrK_frz0 {O : List DO} {ds : List D} {k : D → Prop} : nrK (.frz ds :: O) (.o 0) k = k (.lst ds) := rfl
theorem nrK_frz1 {O : List DO} {x : DO} {ds : List D} {k : D → Prop} : nrK (x :: .frz ds :: O) (.o 1) k = k (.lst ds) := rfl
theorem nrK_brw {O : List DO} {i : Nat} {ds : List D} {k : D → Prop} (h : go O i = some (.brw ds)) : nrK O (.o i) k = k (.lst ds) := by simp only [nrK, nrm, h]
theorem nrK_brw0 {O : List DO} {ds : List D} {k : D → Prop} : nrK (.brw ds :: O) (.o 0) k = k (.lst ds) := rfl
theorem nrK_brw1 {O : List DO} {x : DO} {ds : List D} {k : D → Prop} : nrK (x :: .brw ds :: O) (.o 1) k = k (.lst ds) := rfl
theorem nob0 {O : List DO} {ds : List D} {P : Prop} : noOb (.lst ds :: O) 0 P = P := rfl
theorem nob1 {O : List DO} {x : DO} {ds : List D} {P : Prop} : noOb (x :: .lst ds :: O) 1 P = P := rfl
theorem nob2 {O : List DO} {x y : DO} {ds : List D} {P : Prop} : noOb (x :: y :: .lst ds :: O) 2 P = P := rfl
theorem nob {O : List DO} {k : Nat} {ds : List D} {P : Prop} (h : go O k = some (.lst ds)) : noOb O k P = P := by unfold noOb; rw [h]
theorem oneK_1 {u : U} {k : U → Prop} : oneK [u] k = k u := rfl
theorem boolK_1 {b : Bool} {k : Bool → Prop} : boolK [.d (.bl b)] k = k b := rfl
theorem nrs_nil {O : List DO} : nrs O [] = some [] := rfl
theorem nrs_d {O : List DO} {x : D} {us : List U} : nrs O (.d x :: us) = (nrs O us).map (x :: ·) := by
  rw [nrs, nrm_d]
  cases nrs O us <;> rfl
theorem toDs_nil {O : List DO} : toDs O [] = some [] := by rw [toDs]
theorem toDs_d {O : List DO} {x : D} {us : List U} : toDs O (.d x :: us) = (toDs O us).map (x :: ·) := by
  rw [toDs, toD_d]
  cases toDs O us <;> rfl
theorem nrsK_some {O : List DO} {us : List U} {ds : List D} {k : List D → Prop} (h : nrs O us = some ds) : nrsK O us k = k ds := by unfold nrsK; rw [h]
theorem tosK_some {O : List DO} {us : List U} {ds : List D} {k : List D → Prop} (h : toDs O us = some ds) : tosK O us k = k ds := by unfold tosK; rw [h]
theorem nrsK_1 {O : List DO} {x : D} {k : List D → Prop} : nrsK O [.d x] k = k [x] := rfl
theorem nrsK_2 {O : List DO} {x y : D} {k : List D → Prop} : nrsK O [.d x, .d y] k = k [x, y] := rfl
theorem nrsK_o {O : List DO} {i : Nat} {ds : List D} {k : List D → Prop} (h : nrm O (.o i) = some (.lst ds)) : nrsK O [.o i] k = k [.lst ds] := by unfold nrsK; rw [nrs, h]; rfl
theorem tosK_0 {O : List DO} {k : List D → Prop} : tosK O [] k = k [] := tosK_some toDs_nil
theorem tosK_1 {O : List DO} {x : D} {k : List D → Prop} : tosK O [.d x] k = k [x] := tosK_some (by simp [toDs_d, toDs_nil])
theorem tosK_2 {O : List DO} {x y : D} {k : List D → Prop} : tosK O [.d x, .d y] k = k [x, y] := tosK_some (by simp [toDs_d, toDs_nil])
theorem tosK_3 {O : List DO} {x y z : D} {k : List D → Prop} : tosK O [.d x, .d y, .d z] k = k [x, y, z] := tosK_some (by simp [toDs_d, toDs_nil])
theorem tosK_5 {O : List DO} {x y z a b : D} {k : List D → Prop} : tosK O [.d x, .d y, .d z, .d a, .d b] k = k [x, y, z, a, b] := tosK_some (by simp [toDs_d, toDs_nil])
theorem add_i {i j : Int} {Q : D → Prop} : binD .Add (.int i) (.int j) Q = Q (.int (i + j)) := rfl
theorem sub_i {i j : Int} {Q : D → Prop} : binD .Sub (.int i) (.int j) Q = Q (.int (i - j)) := rfl
theorem mul_i {i j : Int} {Q : D → Prop} : binD .Mult (.int i) (.int j) Q = (MulOk i j ∧ Q (.int (i * j))) := rfl
theorem div_i {i j : Int} {Q : D → Prop} : binD .FloorDiv (.int i) (.int j) Q = (DivOk j ∧ Q (.int (i.fdiv j))) := rfl
theorem mod_i {i j : Int} {Q : D → Prop} : binD .Mod (.int i) (.int j) Q = (j ≠ 0 ∧ Q (.int (i.fmod j))) := rfl
theorem pow_i {i j : Int} {Q : D → Prop} : binD .Pow (.int i) (.int j) Q = (CPow i j ∧ Q (.int (i ^ j.toNat))) := rfl
theorem eq_i {i j : Int} {Q : Bool → Prop} : cmpD .Eq (.int i) (.int j) Q = Q (decide (i = j)) := rfl
theorem ne_i {i j : Int} {Q : Bool → Prop} : cmpD .NotEq (.int i) (.int j) Q = Q (!(decide (i = j))) := rfl
theorem lt_i {i j : Int} {Q : Bool → Prop} : cmpD .Lt (.int i) (.int j) Q = Q (decide (i < j)) := rfl
theorem le_i {i j : Int} {Q : Bool → Prop} : cmpD .LtE (.int i) (.int j) Q = Q (decide (i ≤ j)) := rfl
theorem gt_i {i j : Int} {Q : Bool → Prop} : cmpD .Gt (.int i) (.int j) Q = Q (decide (i > j)) := rfl
theorem ge_i {i j : Int} {Q : Bool → Prop} : cmpD .GtE (.int i) (.int j) Q = Q (decide (i ≥ j)) := rfl
theorem len_l {ds : List D} {Q : D → Prop} : BF.op .len [.lst ds] Q = Q (.int ds.length) := rfl
theorem len_t {ds : List D} {Q : D → Prop} : BF.op .len [.tup ds] Q = Q (.int ds.length) := rfl
theorem abs_i {i : Int} {Q : D → Prop} : BF.op .abs [.int i] Q = Q (.int (i.natAbs : Nat)) := rfl
theorem int_i {i : Int} {Q : D → Prop} : BF.op .int [.int i] Q = Q (.int i) := rfl
theorem int_b {b : Bool} {Q : D → Prop} : BF.op .int [.bl b] Q = Q (.int (if b = true then 1 else 0)) := rfl
theorem list_l {ds : List D} {Q : D → Prop} : BF.op .list [.lst ds] Q = Q (.lst ds) := rfl
theorem list_t {ds : List D} {Q : D → Prop} : BF.op .list [.tup ds] Q = Q (.lst ds) := rfl
theorem tuple_l {ds : List D} {Q : D → Prop} : BF.op .tuple [.lst ds] Q = Q (.tup ds) := rfl
theorem tuple_t {ds : List D} {Q : D → Prop} : BF.op .tuple [.tup ds] Q = Q (.tup ds) := rfl
theorem ix_l {ds : List D} {i : Int} {Q : D → Prop} : ixD (.lst ds) (.int i) Q = ∃ d, atI ds i = some d ∧ Q d := rfl
theorem ix_t {ds : List D} {i : Int} {Q : D → Prop} : ixD (.tup ds) (.int i) Q = ∃ d, atI ds i = some d ∧ Q d := rfl
theorem ex_some {α : Type} {a : α} {P : α → Prop} : (∃ d, some a = some d ∧ P d) = P a := by
  refine propext ⟨?_, fun h => ⟨a, rfl, h⟩⟩
  rintro ⟨d, e, h⟩
  cases e
  exact h
theorem at_0 {α : Type} {a : α} {l : List α} : atI (a :: l) 0 = some a := by
  unfold atI ixN
  rw [if_pos (by decide), if_pos (by simp)]
  rfl
theorem at_1 {α : Type} {a b : α} {l : List α} : atI (a :: b :: l) 1 = some b := atI_nat (j := 1) rfl
theorem at_2 {α : Type} {a b c : α} {l : List α} : atI (a :: b :: c :: l) 2 = some c := atI_nat (j := 2) rfl
theorem at_3 {α : Type} {a b c d : α} {l : List α} : atI (a :: b :: c :: d :: l) 3 = some d := atI_nat (j := 3) rfl
theorem at_4 {α : Type} {a b c d e : α} {l : List α} : atI (a :: b :: c :: d :: e :: l) 4 = some e := atI_nat (j := 4) rfl
theorem ixN_nat {n j : Nat} (h : j < n) : ixN n (j : Int) = some j := by
  unfold ixN
  rw [if_pos (by omega), if_pos (by omega)]
  rfl
theorem ixN_0 {n : Nat} : ixN (n + 1) 0 = some 0 := ixN_nat (j := 0) (by omega)
theorem ixN_5 {i : Int} {a b c d e : D} (j : Nat) (h : i = j) (l : j < 5) : ixN [a, b, c, d, e].length i = some j := by rw [h]; exact ixN_nat l
theorem at_nat {α : Type} {l : List α} {j : Nat} (h : j < l.length) : atI l (j : Int) = some l[j] := atI_nat (List.getElem?_eq_getElem h)
theorem ix5_0 {α : Type} {a b c d e : α} : ixN [a, b, c, d, e].length 0 = some 0 := ixN_nat (j := 0) (by decide : 0 < 5)
theorem ix5_1 {α : Type} {a b c d e : α} : ixN [a, b, c, d, e].length 1 = some 1 := ixN_nat (j := 1) (by decide : 1 < 5)
theorem ix5_2 {α : Type} {a b c d e : α} : ixN [a, b, c, d, e].length 2 = some 2 := ixN_nat (j := 2) (by decide : 2 < 5)
theorem ix5_3 {α : Type} {a b c d e : α} : ixN [a, b, c, d, e].length 3 = some 3 := ixN_nat (j := 3) (by decide : 3 < 5)
theorem ix5_4 {α : Type} {a b c d e : α} : ixN [a, b, c, d, e].length 4 = some 4 := ixN_nat (j := 4) (by decide : 4 < 5)
theorem true_and' {p q : Prop} : ((true = true → p) ∧ (true = false → q)) = p := propext ⟨fun h => h.1 rfl, fun h => ⟨fun _ => h, fun z => by cases z⟩⟩
theorem false_and' {p q : Prop} : ((false = true → p) ∧ (false = false → q)) = q := propext ⟨fun h => h.2 rfl, fun h => ⟨fun z => (by cases z), fun _ => h⟩⟩
theorem dec_t {p : Prop} [Decidable p] {a b : Prop} (h : p) : ((decide p = true → a) ∧ (decide p = false → b)) = a := by rw [decide_eq_true h]; exact true_and'
theorem dec_f {p : Prop} [Decidable p] {a b : Prop} (h : ¬ p) : ((decide p = true → a) ∧ (decide p = false → b)) = b := by rw [decide_eq_false h]; exact false_and'
/-- two ways by a test -/
theorem way {p : Prop} [Decidable p] {a b : Prop} (h1 : p → a) (h2 : ¬ p → b) : (decide p = true → a) ∧ (decide p = false → b) := ⟨fun h => h1 (of_decide_eq_true h), fun h => h2 (of_decide_eq_false h)⟩
theorem wayN {p : Prop} [Decidable p] {a b : Prop} (h1 : ¬ p → a) (h2 : p → b) : ((!(decide p)) = true → a) ∧ ((!(decide p)) = false → b) :=
  ⟨fun h => h1 (of_decide_eq_false (by simpa using h)), fun h => h2 (by simpa using h)⟩
/-! ### calls -/
theorem lendU_d {O : List DO} : ∀ {ds : List D} {f : Bool} {j : Nat}, lendU O f (ds.map .d) j = some (ds.map .d, [], [])
  | [], _, _ => by rw [List.map_nil, lendU]
  | d :: ds, f, j => by
    have ih := @lendU_d O ds false j
    rw [List.map_cons, lendU]
    · simp only [toD_d, ih]
    · intro k z
      cases z
theorem mrg_nil {A O : List DO} : mrg [] [] A O = some (O ++ A) := by rw [mrg]
theorem shU_d {f : Nat → Nat} {d : D} : shU f (.d d) = .d d := by rw [shU]
theorem shU_o {f : Nat → Nat} {k : Nat} : shU f (.o k) = .o (f k) := by rw [shU]
/-- a call by data -/
theorem callD {P : ZSp} {O : List DO} {Q : U → List DO → Prop} {E : ZX} (ds : List D) (h : P (ds.map .d) [] (fun u O' => Q (shU (ren [] O.length) u) (O ++ O')) (fun x O' => E x ((O ++ O').take O.length))) : callZ P (ds.map .d) O Q E :=
  ⟨ds.map .d, [], [], lendU_d, List.nodup_nil, by simpa only [mrg_nil, ex_some'] using h⟩
where ex_some' : ∀ {α : Type} {a : α} {P : α → Prop}, (∃ d, some a = some d ∧ P d) = P a := ex_some
/-- .. that gives data alone -/
theorem callD0 {P : ZSp} {O : List DO} {Q : U → List DO → Prop} {E : ZX} (ds : List D) (h : ∀ F X, (∀ d, Q (.d d) O → F (.d d) []) → P (ds.map .d) [] F X) : callZ P (ds.map .d) O Q E :=
  callD ds (h _ _ fun d q => by
    show Q (shU _ (.d d)) (O ++ [])
    rw [shU_d, List.append_nil]
    exact q)
/-- the first argument is an owned list, the others are data; data comes back -/
theorem callO {P : ZSp} {O : List DO} {Q : U → List DO → Prop} {E : ZX} {k : Nat} {l : List D} (ds : List D) (e : go O k = some (.lst l)) (h : ∀ F X, (∀ d l', Q (.d d) (so O k (.lst l')) → F (.d d) [.lst l']) → P (.o 0 :: ds.map .d) [.lst l] F X) : callZ P (.o k :: ds.map .d) O Q E := by
  refine ⟨.o 0 :: ds.map .d, [k], [.lst l], ?_, by simp, h _ _ fun d l' q => ⟨so O k (.lst l'), ?_, by rw [shU_d]; exact q⟩⟩
  · rw [lendU]
    simp only [e, lendU_d]
    rfl
  · rw [mrg, mrg_nil, List.append_nil]
/-- .. and a second owned list, to be read -/
theorem callOB {P : ZSp} {O : List DO} {Q : U → List DO → Prop} {E : ZX} {k j : Nat} {l m : List D} (ds : List D) (e : go O k = some (.lst l)) (e2 : go O j = some (.lst m)) (hkj : k ≠ j) (h : ∀ F X, (∀ d l', Q (.d d) (so O k (.lst l')) → F (.d d) [.lst l', .brw m]) → P (.o 0 :: .o 1 :: ds.map .d) [.lst l, .brw m] F X) : callZ P (.o k :: .o j :: ds.map .d) O Q E := by
  refine ⟨.o 0 :: .o 1 :: ds.map .d, [k, j], [.lst l, .brw m], ?_, by simp [hkj], h _ _ fun d l' q => ⟨so O k (.lst l'), ?_, by rw [shU_d]; exact q⟩⟩
  · rw [lendU]
    simp only [e]
    rw [lendU]
    simp only [e2, lendU_d]
    rfl
  · rw [mrg, mrg, mrg_nil, List.append_nil]
/-! ### for, comprehensions -/
theorem compR_nil {tg : T1} {vt ve : List (Option U) → List DO → ZQ → Prop} {ρ0 : List (Option U)} {n : Nat} {acc : List D} {O : List DO} {Q : List D → List DO → Prop} : compR tg vt ve ρ0 n [] acc O Q = Q acc O := by rw [compR]
mutual
theorem bindT_mono : ∀ {t : T1} {d : D} {ρ : List (Option U)} {k k' : List (Option U) → Prop}, (∀ ρ, k ρ → k' ρ) → bindT t d ρ k → bindT t d ρ k'
  | .nm i, d, ρ, k, k', h, q => h _ q
  | .tp r, d, ρ, k, k', h, q => by
    cases d <;> first | exact bindTs_mono (t := r) h q | exact False.elim q
  | .nil, d, ρ, k, k', h, q => q.elim
  | .cons _ _, d, ρ, k, k', h, q => q.elim
theorem bindTs_mono : ∀ {t : T1} {ds : List D} {ρ : List (Option U)} {k k' : List (Option U) → Prop}, (∀ ρ, k ρ → k' ρ) → bindTs t ds ρ k → bindTs t ds ρ k'
  | .nil, [], ρ, k, k', h, q => h _ q
  | .nil, _ :: _, ρ, k, k', h, q => q.elim
  | .cons a r, d :: ds, ρ, k, k', h, q => by
    have q' : bindT a d ρ fun ρ1 => bindTs r ds ρ1 k := q
    exact bindT_mono (t := a) (d := d) (k' := fun ρ1 => bindTs r ds ρ1 k') (fun ρ1 z => bindTs_mono h z) q'
  | .cons a r, [], ρ, k, k', h, q => q.elim
  | .nm _, ds, ρ, k, k', h, q => q.elim
  | .tp _, ds, ρ, k, k', h, q => q.elim
end
/-- no test -/
abbrev yesV : List (Option U) → List DO → ZQ → Prop := fun _ O Q => Q [.d (.bl true)] O
section
variable {Γ : List (Fk × ZSp)} {tg : T1} {ve : List (Option U) → List DO → ZQ → Prop} {ρ0 : List (Option U)} {n : Nat} {Q : List D → List DO → Prop}
/-- a comprehension without a test, by an invariant -/
theorem compR_inv (I : Nat → List D → List DO → Prop) : ∀ (ds acc : List D) (O : List DO) (i : Nat), I i acc O →
    (∀ (j : Nat) d acc O, ds[j]? = some d → I (i + j) acc O → ∀ F : ZQ, (∀ x O2, I (i + j + 1) (acc ++ [x]) (O2.take n) → F [.d x] O2) → bindT tg d ρ0 fun ρ1 => ve ρ1 O F) → (∀ acc O, I (i + ds.length) acc O → Q acc O) →
    compR tg yesV ve ρ0 n ds acc O Q
  | [], acc, O, i, h0, hs, hq => by
    rw [compR_nil]
    exact hq _ _ h0
  | d :: ds, acc, O, i, h0, hs, hq => by
    rw [compR]
    refine bindT_mono (fun ρ1 z => ?_) (hs 0 d acc O rfl h0 (fun ws O2 => oneK ws fun w => toK O2 w fun x => compR tg yesV ve ρ0 n ds (acc ++ [x]) (O2.take n) Q) fun x O2 hx => ?_)
    · show boolK [.d (.bl true)] _
      rw [boolK_1]
      exact ⟨fun _ => z, fun h => by cases h⟩
    · rw [oneK_1, toK_d]
      refine compR_inv I ds (acc ++ [x]) (O2.take n) (i + 1) hx (fun j d' acc' O' e hi F hF => ?_) fun acc' O' hi => hq _ _ (by rw [List.length_cons, show i + (ds.length + 1) = i + 1 + ds.length by omega]; exact hi)
      refine hs (j + 1) d' acc' O' (by simpa using e) (by rw [show i + (j + 1) = i + 1 + j by omega]; exact hi) F fun x O2 hx => hF x O2 (by rw [show i + 1 + j + 1 = i + (j + 1) + 1 by omega]; exact hx)
/-- .. each item by f, the places as they are -/
theorem compR_map (f : D → D) {O : List DO} (hO : O.length ≤ n) (ds : List D) (hs : ∀ d ∈ ds, ∀ F : ZQ, F [.d (f d)] O → bindT tg d ρ0 fun ρ1 => ve ρ1 O F) (hq : Q (ds.map f) O) : compR tg yesV ve ρ0 n ds [] O Q := by
  have ht : O.take n = O := List.take_of_length_le hO
  refine compR_inv (fun i acc O' => acc = (ds.take i).map f ∧ O' = O) ds [] O 0 ⟨rfl, rfl⟩ (fun j d acc O' e ⟨h1, h2⟩ F hF => ?_) fun acc O' ⟨h1, h2⟩ => ?_
  · subst h2
    refine hs d (List.mem_of_getElem? e) F (hF _ _ ⟨?_, ht⟩)
    rw [h1, Nat.zero_add]
    obtain ⟨hj, e⟩ := List.getElem?_eq_some_iff.mp e
    rw [List.take_succ, List.getElem?_eq_getElem hj, e]
    simp
  · subst h2
    rw [h1, Nat.zero_add, List.take_length]
    exact hq
/-- .. those that pass a test alone -/
theorem compR_filter {vt : List (Option U) → List DO → ZQ → Prop} (p : D → Bool) (f : D → D) {O : List DO} (hO : O.length ≤ n) : ∀ (ds acc : List D)
    (hs : ∀ d ∈ ds, ∀ (F : ZQ) (S : List DO → Prop), (p d = true → F [.d (f d)] O) → (p d = false → S O) → bindT tg d ρ0 fun ρ1 => vt ρ1 O fun us O1 => boolK us fun b => (b = true → ve ρ1 O1 F) ∧ (b = false → S O1)) (hq : Q (acc ++ (ds.filter p).map f) O), compR tg vt ve ρ0 n ds acc O Q
  | [], acc, hs, hq => by
    rw [compR_nil]
    simpa using hq
  | d :: ds, acc, hs, hq => by
    have ht : O.take n = O := List.take_of_length_le hO
    have rest : ∀ acc, Q (acc ++ (ds.filter p).map f) O → compR tg vt ve ρ0 n ds acc O Q := fun acc hq => compR_filter p f hO ds acc (fun d h => hs d (List.mem_cons_of_mem _ h)) hq
    rw [compR]
    refine hs d List.mem_cons_self (fun ws O2 => oneK ws fun w => toK O2 w fun x => compR tg vt ve ρ0 n ds (acc ++ [x]) (O2.take n) Q) (fun O1 => compR tg vt ve ρ0 n ds acc (O1.take n) Q) (fun hp => ?_) fun hp => ?_
    · rw [oneK_1, toK_d, ht]
      refine rest _ ?_
      rw [List.filter_cons_of_pos hp] at hq
      simpa using hq
    · show compR tg vt ve ρ0 n ds acc (O.take n) Q
      rw [ht]
      refine rest _ ?_
      rw [List.filter_cons_of_neg (by simp [hp])] at hq
      exact hq
end
/-- a for by an invariant -/
theorem forR_inv {tg : T1} {body : ZS} {E : ZX} {D : ZD} {O0 : List DO} (I : Nat → List (Option U) → List DO → Prop) : ∀ (ds : List Z.D) (ρ : List (Option U)) (O : List DO) (i : Nat), I i ρ O →
    (∀ (j : Nat) d ρ O, ds[j]? = some d → I (i + j) ρ O → ∀ N : List (Option U) → List DO → Prop, (∀ ρ' O', I (i + j + 1) ρ' O' → N ρ' O') → bindT tg d ρ fun ρ1 => body (fun x O' => E x (unb O0 O')) ⟨N, fun u O' => D.rt u (unb O0 O'), fun ρ' O' => D.nx ρ' (unb O0 O'), N⟩ ρ1 O) →
    (∀ ρ O, I (i + ds.length) ρ O → D.nx ρ (unb O0 O)) → forR tg body E D O0 ds ρ O
  | [], ρ, O, i, h0, hs, hq => by
    rw [forR]
    exact hq _ _ h0
  | d :: ds, ρ, O, i, h0, hs, hq => by
    rw [forR]
    refine hs 0 d ρ O rfl h0 _ fun ρ' O' hi => ?_
    refine forR_inv I ds ρ' O' (i + 1) hi (fun j d' ρ2 O2 e h N hN => ?_) fun ρ2 O2 h => hq _ _ (by rw [List.length_cons, show i + (ds.length + 1) = i + 1 + ds.length by omega]; exact h)
    exact hs (j + 1) d' ρ2 O2 (by simpa using e) (by rw [show i + (j + 1) = i + 1 + j by omega]; exact h) N fun ρ' O' h => hN ρ' O' (by rw [show i + 1 + j + 1 = i + (j + 1) + 1 by omega]; exact h)
theorem unb_nil {O : List DO} : unb [] O = O := by rw [unb]
theorem brK_d {O : List DO} {x : D} {k : D → List DO → Prop} : brK O (.d x) k = k x O := by
  unfold brK
  show (match toD O (.d x) with
    | some x => k x O
    | none => False) = _
  rw [toD_d]
theorem unb_0 {O : List DO} : unb [] O = O := by rw [unb]
end Z

set_option Elab.async false
set_option linter.all false
set_option maxRecDepth 100000
set_option maxHeartbeats 4000000
namespace Z
open PySem PySem.Spec PyProof.Rows L2
/-! ### what every law of this house uses (no law's text in sight) -/
def BagOk (ds : List D) : Prop := ∃ (cs : List Int) (pos left seed cnt : Int), ds = [.lst (cs.map .int), .int pos, .int left, .int seed, .int cnt] ∧ 0 ≤ pos ∧ 0 ≤ left ∧ 0 ≤ seed ∧ seed < 2147483249
def bagZ : ZSp := fun us O Q _ => ∃ ns : List Int, us = [.d (.scr ns)] ∧ O = [] ∧ ∀ ds, BagOk ds → Q (.o 0) [.lst ds]
theorem cutL_len {β : Type} (xs : List β) (n : Nat) : (cutL xs none (some (n : Int))).length ≤ n := by
  unfold cutL
  rw [List.length_take, HT.sIx_nat, HT.sIx_none]
  omega
def drawZ : ZSp := fun us O Q _ => ∃ (ds : List D) (n : Int), us = [.o 0, .d (.int n)] ∧ O = [.lst ds] ∧ BagOk ds ∧ 1 ≤ n ∧ n < 2 ^ 200 ∧ ∀ r ds', 0 ≤ r → r < n → BagOk ds' → Q (.d (.int r)) [.lst ds']
theorem divOk_pos {n : Int} (h : 1 ≤ n) (h2 : n < 2 ^ 200) : DivOk n := ⟨by omega, by
  have : n.natAbs < 2 ^ 200 := by omega
  have := PySem.Flt.log2_lt_of (by decide) this
  omega⟩
theorem divOk_b {j : Int} {b : Nat} (h0 : j ≠ 0) (h : j.natAbs < 2 ^ b) (hb : 0 < b) (hl : b ≤ 9000) : DivOk j := ⟨h0, by have := PySem.Flt.log2_lt_of hb h; omega⟩
def fr (p q : Int) : D := .tup [.int p, .int q]
theorem isi_ii : isiB "int" ["int"] = some true := by decide +kernel
theorem isi_ib : isiB "int" ["bool"] = some false := by decide +kernel
theorem isi_tt : isiB "tuple" ["tuple"] = some true := by decide +kernel
/-- one of some -/
def pickZ : ZSp := fun us O Q _ => ∃ (ds xs : List D), ((us = [.o 0, .d (.lst xs)] ∧ O = [.lst ds]) ∨ (us = [.o 0, .o 1] ∧ O = [.lst ds, .brw xs])) ∧ BagOk ds ∧ 1 ≤ xs.length ∧ xs.length < 2 ^ 60 ∧ ∀ x ds', x ∈ xs → BagOk ds' → Q (.d x) (.lst ds' :: O.tail)
def Bd (b : Nat) (x : Int) : Prop := x.natAbs < 2 ^ b
theorem Bd.mono {a b : Nat} {x : Int} (h : Bd a x) (l : a ≤ b) : Bd b x := Nat.lt_of_lt_of_le h (Nat.pow_le_pow_right (by decide) l)
theorem Bd.mul {a b : Nat} {x y : Int} (h : Bd a x) (k : Bd b y) : Bd (a + b) (x * y) := by
  unfold Bd at *
  rw [Int.natAbs_mul, Nat.pow_add]
  by_cases hx : x.natAbs = 0
  · rw [hx, Nat.zero_mul]
    exact Nat.mul_pos (Nat.pow_pos (by decide)) (Nat.pow_pos (by decide))
  · exact Nat.mul_lt_mul'' h k
theorem Bd.add {a b : Nat} {x y : Int} (h : Bd a x) (k : Bd b y) : Bd (max a b + 1) (x + y) := by
  have h1 := h.mono (Nat.le_max_left a b)
  have k1 := k.mono (Nat.le_max_right a b)
  unfold Bd at *
  rw [Nat.pow_succ]
  have := Int.natAbs_add_le x y
  omega
theorem Bd.neg {a : Nat} {x : Int} (h : Bd a x) : Bd a (-x) := by
  unfold Bd at *
  rw [Int.natAbs_neg]
  exact h
theorem Bd.sub {a b : Nat} {x y : Int} (h : Bd a x) (k : Bd b y) : Bd (max a b + 1) (x - y) := by
  rw [Int.sub_eq_add_neg]
  exact h.add k.neg
theorem Bd.le {a : Nat} {x y : Int} (h : Bd a x) (l : y.natAbs ≤ x.natAbs) : Bd a y := Nat.lt_of_le_of_lt l h
theorem Bd.dvd {a : Nat} {x y : Int} (h : Bd a x) (l : y ∣ x) (h0 : x ≠ 0) : Bd a y := h.le (Nat.le_of_dvd (by omega) (Int.natAbs_dvd_natAbs.mpr l))
theorem Bd.ok {a b : Nat} {x y : Int} (h : Bd a x) (k : Bd b y) (l : a + b ≤ 999998) : MulOk x y := by
  refine mulOk_bits (a := a + 1) (b := b + 1) (h.mono (Nat.le_succ a)) (k.mono (Nat.le_succ b)) (by omega) (by omega) (by omega)
theorem Bd.div {a : Nat} {j : Int} (h : Bd a j) (h0 : j ≠ 0) (l : a ≤ 8999) : DivOk j := divOk_b (b := a + 1) h0 (h.mono (Nat.le_succ a)) (by omega) (by omega)
theorem Bd.lo {a : Nat} {j : Int} (h : Bd a j) (l : a ≤ 8999) : j.natAbs < 2 ^ 8999 := h.mono l
theorem Bd.ediv {a : Nat} {n : Int} (m : Int) (h : Bd a n) : Bd a (n / m) := h.le (Int.natAbs_ediv_le_natAbs n m)
def hugeZ : ZSp := fun us O Q _ => ∃ ds, us = [.o 0] ∧ O = [.lst ds] ∧ BagOk ds ∧ ∀ h ds', 0 ≤ h → h < 10 ^ 35 → BagOk ds' → Q (.d (.int h)) [.lst ds']
theorem all_l {bs : List Bool} {Q : D → Prop} (h : Q (.bl (bs.all id))) : BF.op .all [.lst (bs.map .bl)] Q := ⟨bs, rfl, h⟩
/-! ### plain data -/
inductive Pl : Nat → D → Prop
  | non {n : Nat} : Pl n .non
  | bl {n : Nat} (b : Bool) : Pl n (.bl b)
  | int {n : Nat} (i : Int) : Pl n (.int i)
  | str {n : Nat} (x : Str) (h : PyData.strOk x = true) : Pl n (.str x)
  | lst {n : Nat} {ds : List D} : ds.length ≤ 1000 → (∀ d ∈ ds, Pl n d) → Pl (n + 1) (.lst ds)
  | tup {n : Nat} {ds : List D} : ds.length ≤ 1000 → (∀ d ∈ ds, Pl n d) → Pl (n + 1) (.tup ds)
theorem pls {n : Nat} : ∀ {ds : List D}, (∀ d ∈ ds, (toP d).canLay0 = true ∧ (toP d).depth ≤ n) → PyData.canLayAll0 (toPs ds) = true ∧ PyData.depthAll (toPs ds) ≤ n
  | [], _ => ⟨by rw [toPs, PyData.canLayAll0], by rw [toPs, PyData.depthAll]; exact Nat.zero_le _⟩
  | d :: ds, h => by
    obtain ⟨h1, h2⟩ := h d List.mem_cons_self
    obtain ⟨h3, h4⟩ := pls fun e he => h e (List.mem_cons_of_mem _ he)
    exact ⟨by rw [toPs, PyData.canLayAll0, h1, h3]; rfl, by rw [toPs, PyData.depthAll]; exact Nat.max_le.mpr ⟨h2, h4⟩⟩
theorem Pl.ok {n : Nat} {d : D} (h : Pl n d) : (toP d).canLay0 = true ∧ (toP d).depth ≤ n := by
  induction h with
  | non => exact ⟨by rw [toP, PyData.canLay0], by rw [toP, PyData.depth]; exact Nat.zero_le _⟩
  | bl b => exact ⟨by rw [toP, PyData.canLay0], by rw [toP, PyData.depth]; exact Nat.zero_le _⟩
  | int i => exact ⟨by rw [toP, PyData.canLay0], by rw [toP, PyData.depth]; exact Nat.zero_le _⟩
  | str x hx => exact ⟨by rw [toP, PyData.canLay0]; exact hx, by rw [toP, PyData.depth]; exact Nat.zero_le _⟩
  | lst _ _ ih =>
    obtain ⟨h1, h2⟩ := pls ih
    exact ⟨by rw [toP, PyData.canLay0]; exact h1, by rw [toP, PyData.depth]; exact Nat.succ_le_succ h2⟩
  | tup _ _ ih =>
    obtain ⟨h1, h2⟩ := pls ih
    exact ⟨by rw [toP, PyData.canLay0]; exact h1, by rw [toP, PyData.depth]; exact Nat.succ_le_succ h2⟩
theorem Pl.shp {n : Nat} {d : D} (h : Pl n d) (hn : n ≤ 64) : Shp d := by
  obtain ⟨h1, h2⟩ := h.ok
  unfold Shp SeqAt.shaped
  rw [h1, decide_eq_true (Nat.le_trans h2 hn)]
  rfl
theorem Pl.mono {n m : Nat} {d : D} (h : Pl n d) (l : n ≤ m) : Pl m d := by
  induction h generalizing m with
  | non => exact .non
  | bl b => exact .bl b
  | int i => exact .int i
  | str x hx => exact .str x hx
  | lst hl _ ih =>
    obtain ⟨k, rfl⟩ : ∃ k, m = k + 1 := ⟨m - 1, by omega⟩
    exact .lst hl fun d hd => ih d hd (by omega)
  | tup hl _ ih =>
    obtain ⟨k, rfl⟩ : ∃ k, m = k + 1 := ⟨m - 1, by omega⟩
    exact .tup hl fun d hd => ih d hd (by omega)
def rowD (r : List Int) : D := .lst (r.map .int)
theorem pl_row {r : List Int} (h : r.length ≤ 1000) : Pl 1 (rowD r) := .lst (by rw [List.length_map]; exact h) fun d hd => by
  obtain ⟨i, _, rfl⟩ := List.mem_map.mp hd
  exact .int i
theorem pl_fr {p q : Int} : Pl 1 (fr p q) := .tup (by show 2 ≤ 1000; decide) fun d hd => by
  simp only [List.mem_cons, List.not_mem_nil, or_false] at hd
  rcases hd with rfl | rfl <;> exact .int _
/-- x != [] -/
theorem ne_nil {n : Nat} {ds : List D} {Q : Bool → Prop} (h : Pl n (.lst ds)) (hn : n ≤ 64) (q : Q (!ds.isEmpty)) : cmpD .NotEq (.lst ds) (.lst []) Q := by
  have h0 : Pl 1 (.lst []) := .lst (by show 0 ≤ 1000; decide) fun d hd => by cases hd
  refine ⟨h.shp hn, h0.shp (by decide), ?_⟩
  have e : PyData.eqv (toP (.lst ds)) (toP (.lst [])) = ds.isEmpty := by
    cases ds with
    | nil => simp [toP, toPs, PyData.eqv, PyData.eqvAll]
    | cons a b => simp [toP, toPs, PyData.eqv, PyData.eqvAll]
  show Q (!(PyData.eqv (toP (.lst ds)) (toP (.lst []))))
  rw [e]
  exact q
theorem ne_b {a b : Bool} {Q : Bool → Prop} (q : Q (!(a == b))) : cmpD .NotEq (.bl a) (.bl b) Q := by
  refine ⟨(Pl.bl (n := 0) a).shp (by decide), (Pl.bl (n := 0) b).shp (by decide), ?_⟩
  show Q (!(PyData.eqv (toP (.bl a)) (toP (.bl b))))
  rw [toP, toP, PyData.eqv]
  exact q
theorem eq_b {a b : Bool} {Q : Bool → Prop} (q : Q (a == b)) : cmpD .Eq (.bl a) (.bl b) Q := by
  refine ⟨(Pl.bl (n := 0) a).shp (by decide), (Pl.bl (n := 0) b).shp (by decide), ?_⟩
  show Q (PyData.eqv (toP (.bl a)) (toP (.bl b)))
  rw [toP, toP, PyData.eqv]
  exact q
theorem zip_self : ∀ ds : List D, List.zipWith (fun d e => D.tup [d, e]) ds ds = ds.map fun d => D.tup [d, d]
  | [] => rfl
  | d :: ds => by rw [List.zipWith_cons_cons, zip_self ds]; rfl
theorem is_nn {Q : Bool → Prop} : cmpD .Is .non .non Q = Q true := rfl
theorem is_in {i : Int} {Q : Bool → Prop} : cmpD .Is (.int i) .non Q = Q false := rfl
theorem is_bn {i : Bool} {Q : Bool → Prop} : cmpD .Is (.bl i) .non Q = Q false := rfl
/-! ### the same of the same -/
def sameZ (n : Nat) : ZSp := fun us O Q _ => ∃ x : D, us = [.d x, .d x] ∧ O = [] ∧ Pl n x ∧ Q (.d (.bl true)) []
/-! ### kinds -/
/-- a value whose kind isinstance sees -/
def Knd : D → Bool
  | .scr _ => false
  | .obj _ _ _ => false
  | _ => true
/-- a whole number, no bool -/
def isInt : D → Bool
  | .int _ => true
  | _ => false
def intZ : ZSp := fun us O Q _ => ∃ d : D, us = [.d d] ∧ O = [] ∧ Knd d = true ∧ Q (.d (.bl (isInt d))) []
theorem isi_int : isiB "int" ["int"] = some true ∧ isiB "bool" ["int"] = some true ∧ isiB "NoneType" ["int"] = some false ∧ isiB "str" ["int"] = some false ∧ isiB "tuple" ["int"] = some false ∧ isiB "list" ["int"] = some false ∧ isiB "dict" ["int"] = some false := by decide +kernel
theorem isi_bool : isiB "int" ["bool"] = some false ∧ isiB "bool" ["bool"] = some true ∧ isiB "NoneType" ["bool"] = some false ∧ isiB "str" ["bool"] = some false ∧ isiB "tuple" ["bool"] = some false ∧ isiB "list" ["bool"] = some false ∧ isiB "dict" ["bool"] = some false := by decide +kernel
theorem isi_tuple : isiB "int" ["tuple"] = some false ∧ isiB "bool" ["tuple"] = some false ∧ isiB "NoneType" ["tuple"] = some false ∧ isiB "str" ["tuple"] = some false ∧ isiB "tuple" ["tuple"] = some true ∧ isiB "list" ["tuple"] = some false ∧ isiB "dict" ["tuple"] = some false := by decide +kernel
theorem isi_tab : isiB "list" ["list", "tuple"] = some true ∧ isiB "tuple" ["list", "tuple"] = some true ∧ isiB "int" ["list", "tuple"] = some false ∧ isiB "bool" ["list", "tuple"] = some false ∧ isiB "NoneType" ["list", "tuple"] = some false ∧
    isiB "list" ["list"] = some true ∧ isiB "list" ["tuple"] = some false ∧ isiB "tuple" ["list"] = some false ∧ isiB "tuple" ["tuple"] = some true ∧ isiB "int" ["dict"] = some false ∧ isiB "bool" ["dict"] = some false ∧ isiB "int" ["bool"] = some false ∧ isiB "bool" ["bool"] = some true ∧ isiB "int" ["int"] = some true := by decide +kernel
theorem isi_str : isiB "str" ["list", "tuple"] = some false ∧ isiB "str" ["dict"] = some false ∧ isiB "str" ["bool"] = some false ∧ isiB "str" ["int"] = some false ∧ isiB "str" ["str"] = some true := by decide +kernel
theorem is_sn {i : Str} {Q : Bool → Prop} : cmpD .Is (.str i) .non Q = Q false := rfl
theorem eq_s {a b : Str} {Q : Bool → Prop} : cmpD .Eq (.str a) (.str b) Q = Q (decide (a = b)) := rfl
/-! ### statements, one at a time -/
section
variable {Γ : List (Fk × ZSp)} {E : ZX} {D : ZD} {ρ : List (Option U)} {O : List DO}
theorem vs_seq {a r : YS} : vcS Γ (.seq a r) E D ρ O = vcS Γ a E { D with nx := fun ρ' O' => vcS Γ r E D ρ' O' } ρ O := rfl
theorem vs_nil : vcS Γ .nil E D ρ O = D.nx ρ O := rfl
theorem vs_set {i : Nat} {y : Y} : vcS Γ (.set i y) E D ρ O = vc Γ y E ρ O fun us O1 => oneK us fun u => D.nx (st ρ i u) O1 := rfl
theorem vs_ex {y : Y} : vcS Γ (.ex y) E D ρ O = vc Γ y E ρ O fun us O1 => oneK us fun _ => D.nx ρ O1 := rfl
theorem vs_tgt {t : T1} {y : Y} : vcS Γ (.tgt t y) E D ρ O = vc Γ y E ρ O fun us O1 => oneK us fun u => toK O1 u fun d => bindT t d ρ fun ρ1 => D.nx ρ1 O1 := rfl
theorem vs_ite {c : Y} {a b : YS} : vcS Γ (.ite c a b) E D ρ O = vc Γ c E ρ O fun us O1 => boolK us fun t => (t = true → vcS Γ a E D ρ O1) ∧ (t = false → vcS Γ b E D ρ O1) := rfl
theorem vs_for {t : T1} {src : Y} {b : YS} : vcS Γ (.for_ t src b) E D ρ O = vc Γ src E ρ O fun us O1 => ∃ ds, us = ds.map .d ∧ forR t (vcS Γ b) E D O ds ρ O1 := rfl
theorem vs_ret {y : Y} : vcS Γ (.ret y) E D ρ O = vc Γ y E ρ O fun us O1 => oneK us fun u => D.rt u O1 := rfl
theorem vs_par {i j : Nat} {es : Y} : vcS Γ (.par i j es) E D ρ O = vc Γ es E ρ O fun us O1 => match us with
    | [u, w] => D.nx (st (st ρ i u) j w) O1
    | _ => False := rfl
end
theorem toDs_map {O : List DO} : ∀ ds : List D, toDs O (ds.map .d) = some ds
  | [] => by rw [List.map_nil, toDs_nil]
  | d :: ds => by rw [List.map_cons, toDs_d, toDs_map ds]; rfl
theorem tosK_snoc {O : List DO} {ds : List D} {x : D} {k : List D → Prop} : tosK O (ds.map .d ++ [.d x]) k = k (ds ++ [x]) := by
  have : ds.map U.d ++ [.d x] = (ds ++ [x]).map .d := by rw [List.map_append]; rfl
  rw [this]
  exact tosK_some (toDs_map _)
theorem so_same : ∀ {O : List DO} {k : Nat} {x : DO}, go O k = some x → so O k x = O
  | [], _, _, h => by cases h
  | o :: O, 0, x, h => by
    have : o = x := by simpa [go] using h
    rw [so, this]
  | o :: O, k + 1, x, h => by
    have h' : go O k = some x := h
    rw [so, so_same h']
theorem unb1_self (o : DO) : unb1 o o = o := by cases o <;> rfl
theorem unb_self : ∀ O : List DO, unb O O = O
  | [] => rfl
  | o :: O => by rw [unb, unb_self O, unb1_self]
theorem unb_brw : ∀ {O : List DO} {k : Nat} {ds : List D}, go O k = some (.lst ds) → unb O (so O k (.brw ds)) = O
  | [], _, _, h => by cases h
  | o :: O, 0, ds, h => by
    have : o = .lst ds := by simpa [go] using h
    rw [so, unb, this, unb_self]
    rfl
  | o :: O, k + 1, ds, h => by
    have h' : go O k = some (.lst ds) := h
    rw [so, unb, unb_brw h', unb1_self]
theorem brK_o {O : List DO} {j : Nat} {ds : List D} {k : D → List DO → Prop} (h : go O j = some (.lst ds)) : brK O (.o j) k = k (.lst ds) (so O j (.brw ds)) := by
  unfold brK
  simp only [h]
theorem go_snoc {O : List DO} {x y : DO} {k : Nat} (h : go O k = some x) : go (O ++ [y]) k = some x := by
  rw [go_eq] at h ⊢
  rw [List.getElem?_append_left (List.getElem?_eq_some_iff.mp h).1]
  exact h
theorem go_last {O : List DO} {y : DO} : go (O ++ [y]) O.length = some y := by
  rw [go_eq, List.getElem?_append_right (Nat.le_refl _), Nat.sub_self]
  rfl
theorem go_so {O : List DO} {k j : Nat} {x y : DO} (h : go O k = some x) (hkj : k ≠ j) : go (so O j y) k = some x := by
  rw [go_eq] at h ⊢
  rw [so_eq, List.getElem?_set_ne (Ne.symm hkj)]
  exact h
theorem go_so_self {O : List DO} {k : Nat} {x y : DO} (h : go O k = some x) : go (so O k y) k = some y := by
  rw [go_eq] at h ⊢
  rw [so_eq, List.getElem?_set_self (List.getElem?_eq_some_iff.mp h).1]
theorem go_len {O : List DO} {k : Nat} {x : DO} (h : go O k = some x) : k < O.length := by
  rw [go_eq] at h
  exact (List.getElem?_eq_some_iff.mp h).1
theorem so_len {O : List DO} {k : Nat} {x : DO} : (so O k x).length = O.length := by rw [so_eq, List.length_set]
theorem unb_go : ∀ {O0 O : List DO} {k : Nat} {ds : List D}, go O k = some (.lst ds) → go (unb O0 O) k = some (.lst ds)
  | [], _, _, _, h => by rw [unb]; exact h
  | _ :: _, [], _, _, h => by cases h
  | o :: _, x :: O, 0, ds, h => by
    have : x = .lst ds := by simpa [go] using h
    rw [unb, this]
    cases o <;> rfl
  | o :: O0, x :: O, k + 1, ds, h => by
    have h' : go O k = some (.lst ds) := h
    rw [unb]
    exact unb_go (O0 := O0) h'
theorem cut_to {β : Type} (xs : List β) {j : Nat} (h : j ≤ xs.length) : cutL xs none (some (j : Int)) = xs.take j := by
  unfold cutL
  rw [HT.sIx_nat, HT.sIx_none, Nat.min_eq_left h, List.drop_zero, Nat.sub_zero]
theorem cut_from {β : Type} (xs : List β) {j : Nat} (h : j ≤ xs.length) : cutL xs (some (j : Int)) none = xs.drop j := by
  unfold cutL
  rw [HT.sIx_nat, HT.sIx_none, Nat.min_eq_left h, List.take_of_length_le (by rw [List.length_drop]; exact Nat.le_refl _)]
/-! ### lowest terms -/
theorem low_math {n m : Int} (hm : m ≠ 0) (s : Int) (hs : s = if m > 0 then 1 else -1) : 0 < m.fdiv ((Int.gcd n m : Nat) * s) ∧ Int.gcd (n.fdiv ((Int.gcd n m : Nat) * s)) (m.fdiv ((Int.gcd n m : Nat) * s)) = 1 ∧ n.fdiv ((Int.gcd n m : Nat) * s) * m = n * m.fdiv ((Int.gcd n m : Nat) * s) := by
  have hg : 0 < Int.gcd n m := Int.gcd_pos_of_ne_zero_right n hm
  obtain ⟨a, ha⟩ : ((Int.gcd n m : Nat) : Int) ∣ n := Int.gcd_dvd_left ..
  obtain ⟨b, hb⟩ : ((Int.gcd n m : Nat) : Int) ∣ m := Int.gcd_dvd_right ..
  generalize hgg : Int.gcd n m = g at *
  have hg0 : ((g : Nat) : Int) ≠ 0 := by omega
  have hcop : Int.gcd a b = 1 := by
    have h := Int.gcd_mul_left (g : Int) a b
    rw [← ha, ← hb, hgg] at h
    have h2 : ((g : Nat) : Int).natAbs = g := by omega
    rw [h2] at h
    exact (Nat.eq_of_mul_eq_mul_left hg (by omega : g * Int.gcd a b = g * 1))
  have hb0 : b ≠ 0 := fun z => hm (by rw [hb, z, Int.mul_zero])
  by_cases hp : m > 0
  · rw [if_pos hp] at hs
    subst hs
    have e1 : n.fdiv ((g : Int) * 1) = a := by rw [Int.mul_one, ha, Int.mul_fdiv_cancel_left _ hg0]
    have e2 : m.fdiv ((g : Int) * 1) = b := by rw [Int.mul_one, hb, Int.mul_fdiv_cancel_left _ hg0]
    rw [e1, e2]
    refine ⟨?_, hcop, ?_⟩
    · rw [hb] at hp
      exact Int.pos_of_mul_pos_right hp (by omega)
    · rw [ha, hb]
      rw [Int.mul_left_comm, ← Int.mul_assoc]
  · rw [if_neg hp] at hs
    subst hs
    have e1 : n.fdiv ((g : Int) * -1) = -a := by
      have h : n = ((g : Int) * -1) * (-a) := by rw [Int.mul_neg, Int.mul_neg, Int.mul_one, Int.neg_mul, Int.neg_neg]; exact ha
      rw [h, Int.mul_fdiv_cancel_left _ (by omega)]
    have e2 : m.fdiv ((g : Int) * -1) = -b := by
      have h : m = ((g : Int) * -1) * (-b) := by rw [Int.mul_neg, Int.mul_neg, Int.mul_one, Int.neg_mul, Int.neg_neg]; exact hb
      rw [h, Int.mul_fdiv_cancel_left _ (by omega)]
    rw [e1, e2]
    refine ⟨?_, by rw [Int.neg_gcd, Int.gcd_neg]; exact hcop, ?_⟩
    · have hmn : (g : Int) * b < 0 := by rw [← hb]; omega
      have : b < 0 := by
        by_cases hbn : b < 0
        · exact hbn
        · have := Int.mul_nonneg (by omega : (0 : Int) ≤ g) (by omega : (0 : Int) ≤ b)
          omega
      omega
    · rw [ha, hb]
      rw [Int.neg_mul, Int.mul_neg, Int.mul_left_comm, ← Int.mul_assoc]

theorem gcd_le {n m : Int} (hm : m ≠ 0) : Int.gcd n m ≤ m.natAbs := Nat.le_of_dvd (by omega) (Int.gcd_dvd_natAbs_right n m)
theorem Bd.gcd {a : Nat} {n m : Int} (h : Bd a m) (h0 : m ≠ 0) : Bd a (Int.gcd n m : Nat) := h.le (by have := gcd_le (n := n) h0; omega)
theorem dvd_cop {k m n : Int} (hc : Int.gcd k m = 1) (h : k ∣ m * n) : k ∣ n := by
  have h1 := Int.natAbs_dvd_natAbs.mpr h
  rw [Int.natAbs_mul] at h1
  exact Int.natAbs_dvd_natAbs.mp (Nat.Coprime.dvd_of_dvd_mul_left (Nat.coprime_iff_gcd_eq_one.mpr hc) h1)
/-- a fraction that was brought to lowest terms is no larger -/
theorem low_bd {a : Nat} {n m p q : Int} (hm : m ≠ 0) (hq : 0 < q) (hc : Int.gcd p q = 1) (e : p * m = n * q) : q ∣ m ∧ (n ≠ 0 → p ∣ n) ∧ (n = 0 → p = 0) := by
  have h1 : q ∣ p * m := ⟨n, by rw [e, Int.mul_comm]⟩
  have h2 : q ∣ m := dvd_cop (by rw [Int.gcd_comm]; exact hc) h1
  have h3 : p ∣ n * q := ⟨m, e.symm⟩
  refine ⟨h2, fun hn => dvd_cop hc (by rw [Int.mul_comm]; exact h3), fun hn => ?_⟩
  rw [hn, Int.zero_mul] at e
  rcases Int.mul_eq_zero.mp e with h | h
  · exact h
  · exact absurd h hm
theorem low_num {a : Nat} {n m p q : Int} (hm : m ≠ 0) (hq : 0 < q) (hc : Int.gcd p q = 1) (e : p * m = n * q) (h : Bd a n) : Bd a p := by
  obtain ⟨_, h2, h3⟩ := low_bd (a := a) hm hq hc e
  by_cases hn : n = 0
  · rw [h3 hn, ← hn]; exact h
  · exact h.dvd (h2 hn) hn
theorem low_den {a : Nat} {n m p q : Int} (hm : m ≠ 0) (hq : 0 < q) (hc : Int.gcd p q = 1) (e : p * m = n * q) (h : Bd a m) : Bd a q := h.dvd (low_bd (a := a) hm hq hc e).1 hm
end Z

set_option Elab.async false
set_option linter.all false
set_option maxRecDepth 100000
set_option maxHeartbeats 4000000
namespace Z
open PySem PySem.Spec PyProof.Rows L2
/-! ### texts of some signs -/
def ltS : Str := "abcdefghijklmnopqrstuvwxyz"
def sgS : Str := "abcdefghijklmnopqrstuvwxyz()[],"
def allIn (y x : Str) : Bool := x.cps.toList.all fun c => decide (c ∈ y.cps.toList)
theorem tw_len_lt {p : Nat → Bool} : ∀ (l : List Nat), l.all p = false → (l.takeWhile p).length < l.length ∧ ∃ a r, l.drop (l.takeWhile p).length = a :: r ∧ p a = false
  | [], h => by simp at h
  | c :: l, h => by
    by_cases hc : p c = true
    · rw [List.takeWhile_cons_of_pos hc]
      have h' : l.all p = false := by simpa [hc] using h
      obtain ⟨h1, a, r, h2, h3⟩ := tw_len_lt l h'
      exact ⟨Nat.succ_lt_succ h1, a, r, h2, h3⟩
    · rw [List.takeWhile_cons_of_neg hc]
      exact ⟨Nat.succ_pos _, c, l, rfl, by simpa using hc⟩
theorem tw_snoc {p : Nat → Bool} {a : Nat} (h : p a = false) : ∀ l : List Nat, ((l ++ [a]).takeWhile p).length ≤ l.length
  | [] => by
    have : ¬ p a = true := by rw [h]; decide
    rw [List.nil_append, List.takeWhile_cons_of_neg this]
    exact Nat.le_refl _
  | c :: l => by
    by_cases hc : p c = true
    · rw [List.cons_append, List.takeWhile_cons_of_pos hc]
      exact Nat.succ_le_succ (tw_snoc h l)
    · rw [List.cons_append, List.takeWhile_cons_of_neg hc]
      exact Nat.zero_le _
theorem strip_size (p : Nat → Bool) (x : Str) : ((Txt.stripBy p true true x).cps.size = 0) ↔ x.cps.toList.all p = true := by
  rw [W.stripBy_eq]
  show (x.cps.extract (x.cps.toList.takeWhile p).length (x.length - ((x.cps.toList.drop (x.cps.toList.takeWhile p).length).reverse.takeWhile p).length)).size = 0 ↔ _
  have hl : x.length = x.cps.toList.length := by simp [Str.length]
  rw [Array.size_extract]
  constructor
  · intro h
    cases q : x.cps.toList.all p with
    | true => rfl
    | false =>
      obtain ⟨h1, a, r, h2, h3⟩ := tw_len_lt _ q
      rw [h2, List.reverse_cons] at h
      have h4 := tw_snoc h3 r.reverse
      rw [List.length_reverse] at h4
      have h5 : (x.cps.toList.drop (x.cps.toList.takeWhile p).length).length = r.length + 1 := by rw [h2]; rfl
      rw [List.length_drop] at h5
      have h6 : x.cps.size = x.cps.toList.length := by simp
      omega
  · intro h
    have key : ∀ l : List Nat, l.all p = true → l.takeWhile p = l := by
      intro l
      induction l with
      | nil => intro _; rfl
      | cons a l ih =>
        intro h
        rw [List.all_cons, Bool.and_eq_true] at h
        rw [List.takeWhile_cons_of_pos h.1, ih h.2]
    have e : x.cps.toList.takeWhile p = x.cps.toList := key _ h
    rw [e]
    have h6 : x.cps.size = x.cps.toList.length := by simp
    omega
theorem strip_nil (x y : Str) : decide (Txt.stripChars x y = ("" : Str)) = allIn y x := by
  have h1 : (Txt.stripChars x y = ("" : Str)) ↔ x.cps.toList.all y.cps.contains = true := by
    rw [← strip_size]
    show Txt.stripBy _ _ _ _ = _ ↔ _
    constructor
    · intro h
      rw [h]
      rfl
    · intro h
      generalize Txt.stripBy y.cps.contains true true x = z at h
      obtain ⟨c⟩ := z
      have : c = #[] := Array.eq_empty_of_size_eq_zero h
      rw [this]
      rfl
  have h2 : x.cps.toList.all y.cps.contains = allIn y x := by
    unfold allIn
    congr 1
    funext c
    simp
  rw [← h2]
  cases q : x.cps.toList.all y.cps.contains with
  | true => exact decide_eq_true (h1.mpr q)
  | false => exact decide_eq_false fun z => by rw [h1.mp z] at q; cases q
def nmB : D → Bool
  | .str x => decide (1 ≤ x.length) && decide (x.length ≤ 6) && allIn ltS x
  | _ => false
def kdB : D → Bool
  | .str x => decide (1 ≤ x.length) && decide (x.length ≤ 2000) && allIn sgS x
  | _ => false
def plB : D → Bool
  | .str x => decide (1 ≤ x.length) && decide (x.length ≤ 2000) && allIn sgS x && allIn ltS x
  | _ => false
def KdS (d : D) : Prop := Knd d = true ∧ ∀ x, d = .str x → x.length ≤ 40000
end Z

set_option Elab.async false
set_option linter.all false
set_option maxRecDepth 100000
set_option maxHeartbeats 4000000
namespace Z
open PySem PySem.Spec PyProof.Rows L2
/-! ### __init__ of an error: self.f = parameter | text, one after the other -/
def initC (sc : Scope) (ps : List Str) : List (Str × XSrc) → List Stmt → Bool
  | [], [] => true
  | (f, .arg i) :: r, .Assign [.Attribute (.Name s _) g _] (.Name y _) _ :: ss => decide (s = "self") && decide (g = f) && decide (ps[i + 1]? = some y) && oknB y && (sc.names.lookup y == some .local) && initC sc ps r ss
  | (f, .str z) :: r, .Assign [.Attribute (.Name s _) g _] (.Constant (.str y) _ _) _ :: ss => decide (s = "self") && decide (g = f) && decide (y = z) && initC sc ps r ss
  | _, _ => false
structure SelfAt (a : Addr) (ws : List V) (σ : L2.St) : Prop where
  me : σ[0]? = some (some (.ref a))
  arg : ∀ (i : Nat) (v : V), ws[i]? = some v → σ[i + 1]? = some (some v)
section
variable {X : Cx} {ps : List Str} {C : Addr}
theorem init_one (h0 : ps[0]? = some ("self" : Str)) (hN : X.N = ps) (hs : X.env.scope.names.lookup ("self" : Str) = some .local) {f : Str} {src : XSrc} {r : List (Str × XSrc)} {s : Stmt} {ss : List Stmt} (c : initC X.env.scope ps ((f, src) :: r) (s :: ss) = true) :
    initC X.env.scope ps r ss = true ∧ PS X s (fun D σ H => ∃ a ws y, SelfAt a ws σ ∧ initFs ws [(f, src)] = some [(f, y)] ∧ OexC X.K C ∧ PySem.W.findIn X.K (.ref C) f = some none ∧
      ((H a = some (exo a C none) ∧ ∀ dx, H dx = none → dx ≠ a → D.nx σ (upd (upd H dx (exd dx [(f, y)])) a (exo a C (some dx)))) ∨ ∃ dx fs, H a = some (exo a C (some dx)) ∧ H dx = some (exd dx fs) ∧ fs.length ≤ 900 ∧ D.nx σ (upd H dx (exd dx ((f, y) :: fs))))) := by
  have self : ∀ {p : Pos}, PE X (.Name "self" p) (tVar 0) := pe_var (i := 0) (by rw [hN]; exact h0) (.inl hs) (by decide) (by decide)
  unfold initC at c
  split at c
  · rename_i e1 e2
    cases e1
  · rename_i e1 e2
    cases e1
    cases e2
    obtain ⟨c, c6⟩ := ba c
    obtain ⟨c, c5⟩ := ba c
    obtain ⟨c, c4⟩ := ba c
    obtain ⟨c, c3⟩ := ba c
    obtain ⟨c1, c2⟩ := ba c
    cases of_decide_eq_true c1
    cases of_decide_eq_true c2
    rename_i i _ _ _ _ _ _ _ _ _ 
    refine ⟨c6, ?_⟩
    refine ⟨fun pins t σ H D I q => ?_⟩
    obtain ⟨a, ws, y, sa, e, T, no, q⟩ := q
    have hw : ∃ v, ws[i]? = some v ∧ v = y := by
      rw [initFs] at e
      split at e
      · rename_i v gs h1 h2
        cases e
        exact ⟨_, h1, rfl⟩
      · cases e
    obtain ⟨v, hw, rfl⟩ := hw
    exact (ps_ost (X := X) self (pe_var (i := i + 1) (by rw [hN]; exact of_decide_eq_true c3) (.inl (beq_iff_eq.mp c5)) (okn_of c4).1 (okn_of c4).2)).run pins t σ H D I ⟨v, sa.arg i v hw, .ref a, sa.me, a, C, rfl, T, no, q⟩
  · rename_i e1 e2
    cases e1
    cases e2
    obtain ⟨c, c4⟩ := ba c
    obtain ⟨c, c3⟩ := ba c
    obtain ⟨c1, c2⟩ := ba c
    cases of_decide_eq_true c1
    cases of_decide_eq_true c2
    cases of_decide_eq_true c3
    refine ⟨c4, ?_⟩
    refine ⟨fun pins t σ H D I q => ?_⟩
    obtain ⟨a, ws, y, sa, e, T, no, q⟩ := q
    cases e
    exact (ps_ost (X := X) self pe_str).run pins t σ H D I ⟨.ref a, sa.me, a, C, rfl, T, no, q⟩
  · cases c
theorem initFs_cons {ws : List V} {p : Str × XSrc} {r : List (Str × XSrc)} {gs : List (Str × V)} (h : initFs ws (p :: r) = some gs) : ∃ y rs, gs = (p.1, y) :: rs ∧ initFs ws [p] = some [(p.1, y)] ∧ initFs ws r = some rs := by
  obtain ⟨f, src⟩ := p
  cases src with
  | arg i =>
    rw [initFs] at h
    split at h
    · rename_i v fs h1 h2
      cases h
      exact ⟨v, fs, rfl, by rw [initFs, h1]; rfl, h2⟩
    · cases h
  | str z =>
    rw [initFs] at h
    split at h
    · rename_i fs h2
      cases h
      exact ⟨.str z, fs, rfl, rfl, h2⟩
    · cases h
theorem init_rest (h0 : ps[0]? = some ("self" : Str)) (hN : X.N = ps) (hs : X.env.scope.names.lookup ("self" : Str) = some .local) (T : OexC X.K C) : ∀ {r : List (Str × XSrc)} {ss : List Stmt}, (∀ p ∈ r, PySem.W.findIn X.K (.ref C) p.1 = some none) → initC X.env.scope ps r ss = true →
    PSs X ss (fun D σ H => ∃ a ws gs fs dx, a ≠ dx ∧ SelfAt a ws σ ∧ initFs ws r = some gs ∧ H a = some (exo a C (some dx)) ∧ H dx = some (exd dx fs) ∧ fs.length + r.length ≤ 900 ∧ ∀ H2, H2 a = some (exo a C (some dx)) → H2 dx = some (exd dx (gs.reverse ++ fs)) → (∀ b, b ≠ a → b ≠ dx → H2 b = H b) → D.nx σ H2)
  | [], [], _, _ => ⟨fun pins s σ H D I q => pss_nil.run pins s σ H D I (by
    obtain ⟨a, ws, gs, fs, dx, _, sa, e, h1, h2, _, q⟩ := q
    cases e
    exact q H h1 h2 fun _ _ _ => rfl)⟩
  | [], _ :: _, _, c => by cases c
  | (f, src) :: r, [], _, c => by cases src <;> cases c
  | (f, src) :: r, s :: ss, no, c => by
    obtain ⟨c2, one⟩ := init_one (C := C) h0 hN hs c
    refine ⟨fun pins t σ H D I q => (pss_cons one (init_rest h0 hN hs T (fun p hp => no p (List.mem_cons_of_mem _ hp)) c2)).run pins t σ H D I ?_⟩
    obtain ⟨a, ws, gs, fs, dx, nd, sa, e, h1, h2, hl, q⟩ := q
    obtain ⟨y, rs, rfl, e1, e2⟩ := initFs_cons e
    rw [List.length_cons] at hl
    refine ⟨a, ws, y, sa, e1, T, no _ List.mem_cons_self, .inr ⟨dx, fs, h1, h2, by omega, a, ws, rs, (f, y) :: fs, dx, nd, sa, e2, by rw [upd_ne nd]; exact h1, upd_same, by rw [List.length_cons]; omega, fun H2 g1 g2 g3 => q H2 g1 ?_ fun b n1 n2 => ?_⟩⟩
    · rw [g2, List.reverse_cons, List.append_assoc]
      rfl
    · rw [g3 b n1 n2, upd_ne n2]
end
theorem init_ok {P : Program} {w : World} {K : PySem.W.Frag} {mg : Str → Option Value} {base : Heap} {x qual : Str} {params : Arguments} {body : List Stmt} {scope : Scope} {f C : Addr} {fd : FuncData} {ps : List Str} {e : XcD} (F : FunD K x qual params body scope [] [] f fd) (hS : C8.scC ps ps scope = true)
    (h0 : ps[0]? = some ("self" : Str)) (hs : scope.names.lookup ("self" : Str) = some .local) (hps : ps.length = e.n + 1) (hC : initC scope ps e.fl body = true) (T : OexC K C) (no : ∀ p ∈ e.fl, PySem.W.findIn K (.ref C) p.1 = some none) (ne : e.fl ≠ []) (hl : e.fl.length ≤ 800) :
    FnOk P w K mg base (L2.CX P w) 1 f fd ps (initSp C e) := by
  refine F.ok (k := 0) (C8.fnScope_by hS) (fun vs H Q E ⟨a, ws, fs, e1, e2, _⟩ => by rw [e1, List.length_cons, e2, hps]) fun cdv A outer s H vs Q E hr ⟨a, ws, fs, e1, e2, e3, ha, hq⟩ => ?_
  subst e1
  have sa : SelfAt a ws (L2.start ps (.ref a :: ws)) := ⟨rfl, fun i v h => by
    unfold L2.start
    rw [List.map_cons, List.cons_append, List.getElem?_cons_succ, List.getElem?_append_left (by rw [List.length_map]; exact (List.getElem?_eq_some_iff.mp h).1), List.getElem?_map, h]
    rfl⟩
  cases q : e.fl with
  | nil => exact absurd q ne
  | cons p r =>
    obtain ⟨g, src⟩ := p
    rw [q] at e3 hC no hl
    cases body with
    | nil => cases src <;> cases hC
    | cons st ss =>
      obtain ⟨c2, one⟩ := init_one (X := cxOf (L2.CX P w) P w K mg base ps qual scope f cdv A outer s H E) (C := C) h0 rfl hs hC
      obtain ⟨y, rs, rfl, z1, z2⟩ := initFs_cons e3
      refine ⟨_, pss_cons one (init_rest (X := cxOf (L2.CX P w) P w K mg base ps qual scope f cdv A outer s H E) (C := C) h0 rfl hs T (fun p hp => no p (List.mem_cons_of_mem _ hp)) c2), a, ws, y, sa, z1, T, no _ List.mem_cons_self, .inl ⟨ha, fun dx hd nd => ?_⟩⟩
      rw [List.length_cons] at hl
      refine ⟨a, ws, rs, [(g, y)], dx, Ne.symm nd, sa, z2, upd_same, by rw [upd_ne nd, upd_same], by rw [List.length_singleton]; omega, fun H2 g1 g2 g3 => hq dx H2 hd ⟨g1, ?_, fun b n1 n2 => ?_⟩⟩
      · rw [g2, List.reverse_cons]
      · rw [g3 b n1 n2, upd_ne n1, upd_ne n2]
/-! ### what the head tells of such a class -/
def oexB (K : PySem.W.Frag) (C : Addr) : Bool := (match K.lookup C with
  | some ⟨.type t, _, .cls cd, sl⟩ => t == "type" && (match cd.mro, sl.toList with
    | .ref C' :: bm, [_, _, _, _, some (.builtin n), _] => C' == C && n == "ValueError.__new__" && !cd.hasDel && cd.hasDict && PySem.HandSPX.refsVE bm
    | _, _ => false)
  | _ => false) && decide (PySem.W.findIn K (.ref C) "__setattr__" = some (some (.builtin "object.__setattr__"))) && decide (PySem.W.subIn K (.ref C) (.type "BaseException") = some true) && decide (PySem.W.typeIn K (.ref C) = some (.type "type")) && PySem.W.keepIn K (.ref C)
theorem oexB_ok {K : PySem.W.Frag} {C : Addr} (h : oexB K C = true) : OexC K C := by
  obtain ⟨h, h5⟩ := ba h
  obtain ⟨h, h4⟩ := ba h
  obtain ⟨h, h3⟩ := ba h
  obtain ⟨h1, h2⟩ := ba h
  refine ⟨?_, of_decide_eq_true h2, of_decide_eq_true h3, of_decide_eq_true h4, h5⟩
  split at h1
  · rename_i t dd cd sl ho
    obtain ⟨ht, h1⟩ := ba h1
    cases beq_iff_eq.mp ht
    split at h1
    · rename_i C' bm k0 k1 k2 k3 n k5 hm hs
      simp only [Bool.and_eq_true, beq_iff_eq, Bool.not_eq_true'] at h1
      have y0 := h1.2
      have y1 := y0.1
      have hv := y0.2
      have e4 := y1.2
      have e3 := y1.1.2
      have e1 := y1.1.1.1
      have e2 := y1.1.1.2
      subst e1 e2
      obtain ⟨nm, bs, mro, ns, qn, hd, sn, sub, ab, col, del⟩ := cd
      dsimp only at hm hs e3 e4
      subst hm e3 e4
      obtain ⟨l⟩ := sl
      subst hs
      exact ⟨_, _, _, _, _, _, _, _, _, _, _, _, _, _, _, ho, hv⟩
    · cases h1
  · cases h1
/-- all that is asked of an error class by its name: the facts of its attributes, of its __init__ -/
def xcB (K : PySem.W.Frag) (e : XcD) : Bool := oexB K (He.ga K e.nm) && (e.fl.all fun p => decide (PySem.W.findIn K (.ref (He.ga K e.nm)) p.1 = some none)) && decide (PySem.W.findIn K (.ref (He.ga K e.nm)) "__init__" = some (some (.ref (He.ma K (He.ga K e.nm) "__init__")))) &&
  decide (PySem.W.typeIn K (.ref (He.ma K (He.ga K e.nm) "__init__")) = some (.type "function")) && excB K (He.ga K e.nm)
theorem xcF_of {P : Program} {w : World} {K : PySem.W.Frag} {mg : Str → Option Value} {base : Heap} {x qual : Str} {params : Arguments} {body : List Stmt} {scope : Scope} {fd : FuncData} {ps : List Str} {e : XcD} (h : xcB K e = true) (hm : mg e.nm = some (.ref (He.ga K e.nm)))
    (F : FunD K x qual params body scope [] [] (He.ma K (He.ga K e.nm) "__init__") fd) (hb : Binds K fd ps []) (hS : C8.scC ps ps scope = true)
    (h0 : ps[0]? = some ("self" : Str)) (hs : scope.names.lookup ("self" : Str) = some .local) (hps : ps.length = e.n + 1) (hC : initC scope ps e.fl body = true) (ne : e.fl ≠ []) (hl : e.fl.length ≤ 800) (hn : e.n ≤ 1000) : XcF P w K mg base e := by
  obtain ⟨h, h5⟩ := ba h
  obtain ⟨h, h4⟩ := ba h
  obtain ⟨h, h3⟩ := ba h
  obtain ⟨h1, h2⟩ := ba h
  have T := oexB_ok h1
  exact ⟨T, hm, ⟨_, fd, ps, of_decide_eq_true h3, of_decide_eq_true h4, init_ok F hS h0 hs hps hC T (fun p hp => of_decide_eq_true (List.all_eq_true.mp h2 p hp)) ne hl, hb⟩, hn, h5, fun f hf => by
    obtain ⟨p, hp, rfl⟩ := List.mem_map.mp hf
    exact of_decide_eq_true (List.all_eq_true.mp h2 p hp)⟩
end Z

set_option Elab.async false
set_option linter.all false
set_option maxRecDepth 100000
set_option maxHeartbeats 4000000
namespace Z
open PySem PySem.Spec PyProof.Rows L2
section
variable {P : Program} {w : World} {K : PySem.W.Frag} {mg : Str → Option Value} {base : Heap} {G : Gx} {k : Nat} {ex : List Str} {gi : List (Str × Int)} {gs : List (Str × Str)} {xs : List XcD} {ask isd : Bool}
variable {x qual : Str} {params : Arguments} {body : List Stmt} {scope : Scope} {kws : List (Str × V)} {dvs : List V} {f : Addr} {fd : FuncData} {N ps : List Str} {Γ : List (Fk × ZSp)} {z : YS} {S : ZSp} {lam : Bool}
/-- a def f( *r): the tuple is laid at the call; nothing is raised -/
theorem fnT_var {pv : Str} {nmax : Nat} (F : FunD K x qual params body scope [] [] f fd) (Wd : Wld P w K mg base G ex gi gs xs ask isd) (hm : mg x = some (.ref f)) (hz : nmax ≤ 1000) (hb : ∀ us : List Value, us.length ≤ nmax → bindArgs fd ⟨us, []⟩ = (newTuple us >>= fun t => pure [(pv, t)]))
    (hS : C8.scC N [pv] scope = true) (hck : (ckS (Γ.map (·.1)) z ⟨N, scope, scope, false, ex, gi, gs, xs, isd, true⟩).B body = true)
    (hfn : ∀ (i : Nat) (y : Fk) (Q : ZSp), Γ[i]? = some (y, Q) → FnT P w K mg base G k y Q) (spec : Keeps Γ z N.length S) :
    FnT P w K mg base G (k + 4) (x, []) fun us O Q _ => ∃ ds, us = ds.map .d ∧ ds.length ≤ nmax ∧ S [.d (.tup ds)] O Q fun _ _ => False := by
  have fs := C8.fnScope_by hS
  obtain ⟨oc, od, dV, kV, doc, pm, an, cdv, ct, osl, rfl, lk, hcd, _, _⟩ := F.ex
  refine .inl ⟨rfl, f, hm, F.kp, fun A outer s H us ws vs zs Q E hr e0 r1 r2 hl h => ?_⟩
  cases ws with
  | cons _ _ => cases hl
  | nil =>
  cases r2
  rw [List.append_nil] at h
  obtain ⟨B, α, O, uu, Q0, E0, ow, ha, ⟨ds, rfl, hn, hS0⟩, hq, he⟩ := h
  have lu : us.length = ds.length := by rw [← r1.length, ha.length, List.length_map]
  have KX : K.In s.heap := e0.mod.kin.keeps fun b o e => (e0.bs b o e).1
  have lim : s.heap.NoLimit := e0.mod.nolimit.keeps fun b o e => (e0.bs b o e).1
  obtain ⟨p, hp⟩ : ∃ p, p = s.heap.objs.size := ⟨_, rfl⟩
  have hn1 : H p = none := e0.hok.fresh (by rw [hp]; exact Nat.le_refl _)
  obtain ⟨g, hg⟩ : ∃ g, g = s.heap.push ({ cls := .type "tuple", data := .seq us.toArray } : Obj) := ⟨_, rfl⟩
  have kp : ∀ b o, s.heap.get? b = some o → g.get? b = some o := fun b o e => by rw [hg]; exact Heap.get?_push_of_some _ e
  have at_ : g.get? p = some ({ cls := .type "tuple", data := .seq us.toArray } : Obj) := by rw [hg, hp]; exact Heap.get?_push_size _ rfl
  have small : vs.length ≤ sizeLine := by rw [r1.length, lu, sizeLine_eq]; omega
  have new : ObjOk P w (upd H p (.tup vs)) g p (.tup vs) := ⟨small, us, r1, ⟨_, at_, rfl, _, rfl⟩⟩
  have le : s.heap.objs.size ≤ p := by rw [hp]; exact Nat.le_refl _
  have hok2 := e0.hok.laid kp le new
  have un : Un (frs outer) [] H (upd H p (.tup vs)) s.heap g := Un.laid kp le hn1
  have e2 : Env0 P w K mg base A outer { s with heap := g } (upd H p (.tup vs)) := by
    refine ⟨e0.frames, e0.mod, fun b o e => ⟨kp b o (e0.bs b o e).1, ?_⟩, ?_, Heap.FunFrames.of_keeps (fun b o e _ => ⟨o, kp b o e, rfl⟩) e0.funs, fun b hb2 => ?_, hok2, e0.bare⟩
    · rw [upd_ne (Nat.ne_of_lt (by rw [hp]; exact Heap.lt_size (e0.bs b o e).1))]
      exact (e0.bs b o e).2
    · have h1 := e0.bsz
      have h2 : g.objs.size = s.heap.objs.size + 1 := by rw [hg, Heap.size_push]
      show base.objs.size ≤ g.objs.size
      omega
    · obtain ⟨_, o, ho, _⟩ := e0.funs.mem hb2
      rw [upd_ne (Nat.ne_of_lt (by rw [hp]; exact Heap.lt_size ho))]
      exact e0.frf b hb2
  have hk : ∀ y ∈ [pv].zip [Value.ref p], scope.names.lookup y.1 = some .local ∨ (scope.names.lookup y.1 = some .cell ∧ ((cellsFrom (g.objs.size + 1) scope.names []).lookup y.1).isSome = true) := by
    rintro ⟨n, v⟩ hy
    exact (fs.par n (List.of_mem_zip hy).1).imp id fun q => ⟨q, PySem.W.cellsFrom_some _ _ _ (.inl q)⟩
  refine codeAny_call_function hr.depth (KX _ _ lk) rfl fs.co fs.gen rfl (PySem.W.codeRec_of KX hcd) ?_
  show wpAny _ _ (bindArgs _ ⟨us, []⟩) _ _ _
  rw [hb us (by omega)]
  refine wpAny_bind (wpAny_newTuple (wpAny_pure ?_) (by rw [lu, sizeLine_eq]; omega))
  have eg : ({ s with heap := s.heap.push ({ cls := .type "tuple", data := .seq us.toArray } : Obj) } : Shared) = { s with heap := g } := by rw [hg]
  rw [eg, ← hp]
  refine wpAny_newFunctionEnv_cells fs.kind hk fun env he1 s1 y => ?_
  subst he1
  have limg : g.NoLimit := lim.keeps kp
  refine ⟨limg.keeps y.toInCall.keep, codeAny_func ?_⟩
  have good := good_of (x := x) (params := params) (body := body) (Γ := Γ) (f := f) (cdv := cdv) (N := N) (lam := false) fs Wd (fun z => by cases z) hfn (fun z => by cases z) A outer { s with heap := g } (upd H p (.tup vs)) (fun _ _ _ => False) (hr.deeper (envOfC qual scope g.objs.size f cdv))
  have ow2 : Own G B α O (upd H p (.tup vs)) := own_new ow hn1
  have av : AtUs G.K B α O (upd H p (.tup vs)) [.ref p] [.d (.tup ds)] := by
    refine .cons (.d (At.tupNew ow hn1 ?_)) .nil
    have key : ∀ {vs : List V} {ds : List D}, AtUs G.K B α O H vs (ds.map .d) → Ats G.K (Mu B α O) H vs ds := by
      intro vs ds
      induction ds generalizing vs with
      | nil => intro h; cases h; exact .nil
      | cons d ds ih =>
        intro h
        cases h with
        | cons a r =>
          cases a with
          | d a => exact .cons a (ih r)
    exact key ha
  have rv1 : Vals [V.ref p] [Value.ref p] := .cons rfl .nil
  have I : Inv (cxOf (L2.CX P w) P w K mg base N qual scope f cdv A outer { s with heap := g } (upd H p (.tup vs)) fun _ _ _ => False) [] (L2.start N [.ref p]) (upd H p (.tup vs)) s1 := inv_start fs hr.hd e2 rfl rv1 y
  refine wpAny_mono (((ss_all z).B _ (fun _ _ _ => False) _ good _ hck).run [] s1 _ _ { nx := fun _ H' => Q .non H', rt := Q } I ⟨B, α, _, O, _, _, rep_start ow2 av, spec _ _ _ _ hS0, ⟨fun ρ' O' q α' σ' H' s R' => hq _ _ q _ _ _ ((stp_new hn1).trans s) R'.own (.d .non), fun u O' q α' v H' s w a => hq _ _ q _ _ _ ((stp_new hn1).trans s) w a, fun _ _ q => q.elim, fun _ _ q => q.elim⟩, fun _ _ z => z.elim⟩) (fun fl t hs => ?_) fun e t hs => ?_
  · cases fl with
    | ret u =>
      obtain ⟨v, σ', H', J, rv, q⟩ := hs
      exact ⟨v, H', J.os, J.bare, un.trans J.base, J.hok, rv, q⟩
    | next =>
      obtain ⟨σ', H', J, q⟩ := hs
      exact ⟨V.non, H', J.os, J.bare, un.trans J.base, J.hok, (rfl : RelV .non .none), q⟩
    | brk =>
      obtain ⟨_, _, _, q⟩ := hs
      exact False.elim q
    | cont =>
      obtain ⟨_, _, _, q⟩ := hs
      exact False.elim q
  · have no : ∀ (e' : Value) (s'' : Shared), L2.CX P w outer (upd H p (.tup vs)) { s with heap := g } (fun _ _ _ => False) e' s'' → L2.CX P w outer H s E e' s'' := fun e' s'' ⟨_, _, _, _, _, _, _, _, _, _, _, _, z⟩ => z.elim
    exact wpAny_mono hs (fun _ s'' z => no _ _ z) fun e' s'' z => no _ _ z
end
end Z

set_option Elab.async false
set_option linter.all false
set_option maxRecDepth 100000
set_option maxHeartbeats 4000000
namespace Z
open PySem PySem.Spec PyProof.Rows L2
/-! ### calls with keywords: which value goes where -/
def gsel {α : Type} (s : Nat) (us ds zs : List α) : List α := match s with
  | 0 => us
  | 1 => ds
  | _ => zs
/-- (0, i): the i-th positional value, (1, i): the i-th default, (2, i): the i-th keyword's value -/
def gix {α : Type} : List (Nat × Nat) → List α → List α → List α → List α
  | [], _, _, _ => []
  | (s, i) :: r, us, ds, zs => ((gsel s us ds zs)[i]?).toList ++ gix r us ds zs
theorem vals_at {vs : List V} {us : List Value} (h : Vals vs us) : ∀ i : Nat, Vals (vs[i]?).toList (us[i]?).toList := by
  induction h with
  | nil => intro i; exact .nil
  | cons a r ih =>
    intro i
    cases i with
    | zero => exact .cons a .nil
    | succ i => exact ih i
theorem vals_gix {vs ds zs : List V} {us its ws : List Value} (h1 : Vals vs us) (h2 : Vals ds its) (h3 : Vals zs ws) : ∀ is : List (Nat × Nat), Vals (gix is vs ds zs) (gix is us its ws)
  | [] => .nil
  | (s, i) :: r => by
    refine Vals.append ?_ (vals_gix h1 h2 h3 r)
    refine vals_at ?_ i
    match s with
    | 0 => exact h1
    | 1 => exact h2
    | s + 2 => exact h3
theorem atus_at {K : PySem.W.Frag} {B : Addr → Prop} {α : List Addr} {O : List DO} {H : Hp} {vs : List V} {us : List U} (h : AtUs K B α O H vs us) : ∀ i : Nat, AtUs K B α O H (vs[i]?).toList (us[i]?).toList := by
  intro i
  induction i generalizing vs us with
  | zero =>
    cases h with
    | nil => exact .nil
    | cons a r => exact .cons a .nil
  | succ i ih =>
    cases h with
    | nil => exact .nil
    | cons a r => exact ih r
theorem atus_gix {K : PySem.W.Frag} {B : Addr → Prop} {α : List Addr} {O : List DO} {H : Hp} {vs ds zs : List V} {us dd ws : List U} (h1 : AtUs K B α O H vs us) (h2 : AtUs K B α O H ds dd) (h3 : AtUs K B α O H zs ws) : ∀ is : List (Nat × Nat), AtUs K B α O H (gix is vs ds zs) (gix is us dd ws)
  | [] => .nil
  | (s, i) :: r => by
    refine AtUs.append ?_ (atus_gix h1 h2 h3 r)
    refine atus_at ?_ i
    match s with
    | 0 => exact h1
    | 1 => exact h2
    | s + 2 => exact h3
section
variable {P : Program} {w : World} {K : PySem.W.Frag} {mg : Str → Option Value} {base : Heap} {G : Gx} {k : Nat}
variable {x qual : Str} {params : Arguments} {body : List Stmt} {scope : Scope} {kws : List (Str × V)} {dvs : List V} {f : Addr} {fd : FuncData} {ps : List Str} {S T : ZSp}
theorem FnT.kwD {n : Nat} {ks : List Str} {dd : List U} (is : List (Nat × Nat)) (F : FunD K x qual params body scope dvs kws f fd) (h1 : mg x = some (.ref f)) (h3 : FnOk P w K mg base (L2.CX P w) k f fd ps (lowSp G S)) (hd : dvs ≠ [])
    (h : ∀ (T : Addr) (kV doc pm : Value) (an : Option Addr) (cdv ct : Value) (us its ws : List Value), us.length = n → its.length = dvs.length → ws.length = ks.length →
      ∃ k, bindArgs (PySem.W.fnOf x qual params body scope (.ref T) kV doc pm an cdv ct) ⟨us, ks.zip ws⟩ = seqItems? (.ref T) >>= k ∧ k (some its.toArray) = pure (ps.zip (gix is us its ws)))
    (hdd : ∀ B α O H, AtUs G.K B α O H dvs dd) (l : ∀ us O Q E, T us O Q E → us.length = n + ks.length ∧ S (gix is (us.take n) dd (us.drop n)) O Q E) (hmk : mkd ks = false := by rfl) : FnT P w K mg base G k (x, ks) T := by
  obtain ⟨its, hb⟩ := F.kbindsD n ks (fun us ds zs => gix is us ds zs) hd (fun r1 r2 r3 => vals_gix r1 r2 r3 is) h
  exact .kw h1 F.kp h3 _ _ (fun us ws => gix is us dd ws) hb (fun B α O H vs us zs ws a b _ _ => atus_gix a (hdd B α O H) b is) l hmk
theorem FnT.dfltD (F : FunD K x qual params body scope dvs kws f fd) (h1 : mg x = some (.ref f)) (h3 : FnOk P w K mg base (L2.CX P w) k f fd ps (lowSp G S)) (n j : Nat) (hd : dvs ≠ []) (hn : n + (dvs.length - j) = ps.length)
    (h : ∀ (T : Addr) (kV doc pm : Value) (an : Option Addr) (cdv ct : Value) (us its : List Value), us.length = n → its.length = dvs.length →
      ∃ k, bindArgs (PySem.W.fnOf x qual params body scope (.ref T) kV doc pm an cdv ct) ⟨us, []⟩ = seqItems? (.ref T) >>= k ∧ k (some its.toArray) = pure (ps.zip (us ++ its.drop j)))
    {dd : List U} (hdd : ∀ B α O H, AtUs G.K B α O H (dvs.drop j) dd) (l : ∀ us O Q E, T us O Q E → S (us ++ dd) O Q E) : FnT P w K mg base G k (x, []) T := by
  obtain ⟨ds, hv, hb⟩ := F.binds1 n j hd hn h
  exact .dflt h1 F.kp h3 hb hv dd hdd l
theorem binds_var {pv : Str} {nmax : Nat} (F : FunD K x qual params body scope [] kws f fd)
    (h : ∀ (kV doc pm : Value) (an : Option Addr) (cdv ct : Value) (us : List Value), us.length ≤ nmax → bindArgs (PySem.W.fnOf x qual params body scope .none kV doc pm an cdv ct) ⟨us, []⟩ = (newTuple us >>= fun t => pure [(pv, t)])) :
    ∀ us : List Value, us.length ≤ nmax → bindArgs fd ⟨us, []⟩ = (newTuple us >>= fun t => pure [(pv, t)]) := by
  obtain ⟨oc, od, dV, kV, doc, pm, an, cdv, ct, osl, rfl, lk, hcd, hD, hK⟩ := F.ex
  rcases hD with ⟨_, rfl⟩ | ⟨e, _⟩
  · exact h kV doc pm an cdv ct
  · exact absurd rfl e
theorem binds_full (F : FunD K x qual params body scope dvs kws f fd) {n j : Nat} (hd : dvs ≠ []) (hn : n + (dvs.length - j) = ps.length) (hj : dvs.drop j = [])
    (h : ∀ (T : Addr) (kV doc pm : Value) (an : Option Addr) (cdv ct : Value) (us its : List Value), us.length = n → its.length = dvs.length → ∃ k, bindArgs (PySem.W.fnOf x qual params body scope (.ref T) kV doc pm an cdv ct) ⟨us, []⟩ = seqItems? (.ref T) >>= k ∧ k (some its.toArray) = pure (ps.zip (us ++ its.drop j))) : Binds K fd ps [] := by
  obtain ⟨ds, hv, hb⟩ := F.binds1 n j hd hn h
  rw [hj] at hv
  cases hv
  exact hb
theorem fnT_false (F : FunD K x qual params body scope dvs kws f fd) (hm : mg x = some (.ref f)) (hb : Binds K fd ps []) : FnT P w K mg base G k (x, []) fun _ _ _ _ => False :=
  .raw hm F.kp ⟨fun vs H Q E ⟨_, _, _, _, _, _, _, _, h, _⟩ => h.elim, fun _ _ _ _ _ _ _ _ _ _ _ _ _ ⟨_, _, _, _, _, _, _, _, h, _⟩ => h.elim⟩ hb
end
/-- the promises of the defs that are called -/
inductive FnTs (P : Program) (w : World) (K : PySem.W.Frag) (mg : Str → Option Value) (base : Heap) (G : Gx) (k : Nat) : List (Fk × ZSp) → Prop
  | nil : FnTs P w K mg base G k []
  | cons {x : Fk} {S : ZSp} {r : List (Fk × ZSp)} : FnT P w K mg base G k x S → FnTs P w K mg base G k r → FnTs P w K mg base G k ((x, S) :: r)
section
variable {P : Program} {w : World} {K : PySem.W.Frag} {mg : Str → Option Value} {base : Heap} {G : Gx} {k : Nat}
theorem FnTs.get : ∀ {r : List (Fk × ZSp)}, FnTs P w K mg base G k r → ∀ (i : Nat) (y : Fk) (Q : ZSp), r[i]? = some (y, Q) → FnT P w K mg base G k y Q
  | _, .nil, i, y, Q, h => by simp at h
  | _, .cons a s, 0, y, Q, h => by
    simp at h
    obtain ⟨rfl, rfl⟩ := h
    exact a
  | _, .cons a s, i + 1, y, Q, h => FnTs.get s i y Q (by simpa using h)
/-! ### lambdas: a def's table -/
/-- the defs with lambdas: their names; the tables' names -/
def tfT (K : PySem.W.Frag) (tf : List Str) : List (Addr × Str) := tf.map fun x => ((He.cT K (x, none)).2, x ++ ".<locals>." ++ "<lambda>")
def tfU (K : PySem.W.Frag) (tf : List Str) : Bool := tf.all fun a => tf.all fun b => !((He.cT K (a, none)).2 == (He.cT K (b, none)).2) || decide (a = b)
theorem lamD_of {x : Str} {params : Arguments} {body : List Stmt} {scope : Scope} {kws : List (Str × V)} {dvs : List V} {fd : FuncData} {tf : List Str} (F : FunD K x x params body scope dvs kws (He.ga K x) fd) (hx : x ∈ tf) (hG : G.T = tfT K tf) (hu : tfU K tf = true)
    (hT : ∀ p ∈ tf.map fun x => He.cT K (x, none), LamX.TabB base mg p.1 p.2) : LamD K mg base G (He.ga K x) x := by
  obtain ⟨oc, od, dV, kV, doc, pm, an, cdv, ct, osl, rfl, lk, hcd, _, _⟩ := F.ex
  obtain ⟨c, rfl⟩ := He.codeIn_ref hcd
  have hc : He.codeOf K (x, none) = c := He.codeOf_eq (p := (x, none)) lk rfl
  have hTx := hT _ (List.mem_map.mpr ⟨x, hx, rfl⟩)
  refine ⟨c, (He.cT K (x, none)).2, fun oc2 od2 fd2 osl2 e => ?_, ?_, ?_, fun p hp e => ?_⟩
  · rw [lk] at e
    injection e with e
    injection e with e1 e2 e3 e4
    injection e3 with e3
    rw [← e3]
  · have : (He.cT K (x, none)).1 = c := hc
    rw [← this]
    exact hTx
  · rw [hG]
    exact List.mem_map.mpr ⟨x, hx, rfl⟩
  · rw [hG] at hp
    obtain ⟨y, hy, rfl⟩ := List.mem_map.mp hp
    have h := List.all_eq_true.mp (List.all_eq_true.mp hu y hy) x hx
    have e' : (He.cT K (y, none)).2 = (He.cT K (x, none)).2 := e
    rw [e', beq_self_eq_true] at h
    have : y = x := of_decide_eq_true (by simpa using h)
    rw [this]
theorem tabs_start {tf : List Str} {H : Hp} (h : ∀ p ∈ tf.map fun x => He.cT K (x, none), H p.2 = some (.tbl #[])) : LamX.Tabs (tfT K tf) H := by
  intro p hp
  obtain ⟨x, hx, rfl⟩ := List.mem_map.mp hp
  exact .nil (h _ (List.mem_map.mpr ⟨x, hx, rfl⟩))
end
end Z

set_option Elab.async false
set_option linter.all false
set_option maxRecDepth 100000
set_option maxHeartbeats 4000000
namespace Z
open PySem PySem.Spec PyProof.Rows L2
/-! ### methods, classes that are called -/
section
variable {P : Program} {w : World} {K : PySem.W.Frag} {mg : Str → Option Value} {base : Heap} {G : Gx} {j k : Nat} {c m : Str} {al : List Str} {S T : ZSp} {f : Addr} {fd : FuncData} {ps : List Str} {ds : List Value} {dvs : List V}
variable {x qual : Str} {params : Arguments} {body : List Stmt} {scope : Scope} {kws : List (Str × V)}
theorem FnT.met (M : Meth K (He.ga K c) m f) (hj : j + 1 ≤ k) (h3 : FnOk P w K mg base (L2.CX P w) j f fd ps (lowSp G S)) (h4 : Binds K fd ps []) : FnT P w K mg base G k (m, [mDot, c]) S :=
  .inr (.inl ⟨c, f, [], j, rfl, M, hj, (FnRK.of h3 h4 .nil).imp fun _ _ _ _ z => by rw [List.append_nil]; exact z⟩)
/-- .. with defaults behind the arguments that are given -/
theorem FnT.metD (M : Meth K (He.ga K c) m f) (hj : j + 1 ≤ k) (F : FunD K x qual params body scope dvs kws f fd) (h3 : FnOk P w K mg base (L2.CX P w) j f fd ps (lowSp G S)) (n i : Nat) (hd : dvs ≠ []) (hn : n + (dvs.length - i) = ps.length)
    (h : ∀ (T : Addr) (kV doc pm : Value) (an : Option Addr) (cdv ct : Value) (us its : List Value), us.length = n → its.length = dvs.length →
      ∃ k, bindArgs (PySem.W.fnOf x qual params body scope (.ref T) kV doc pm an cdv ct) ⟨us, []⟩ = seqItems? (.ref T) >>= k ∧ k (some its.toArray) = pure (ps.zip (us ++ its.drop i)))
    {dd : List U} (hdd : ∀ B α O H, AtUs G.K B α O H (dvs.drop i) dd) (l : ∀ us O Q E, T us O Q E → S (us ++ dd) O Q E) : FnT P w K mg base G k (m, [mDot, c]) T := by
  obtain ⟨ds, hv, hb⟩ := F.binds1 n i hd hn h
  exact .inr (.inl ⟨c, f, [], j, rfl, M, hj, (FnRK.of h3 hb hv).imp fun vs H Q E ⟨B, α, O, us, Q0, E0, ow, ha, p, r⟩ => ⟨B, α, O, us ++ dd, Q0, E0, ow, ha.append (hdd _ _ _ _), l _ _ _ _ p, r⟩⟩)
theorem FnT.mkC (hm : mg c = some (.ref (He.ga K c))) (M : Mk K (He.ga K c) f) (hc : OkC K c al) (ha : mDot ∉ al) (hj : j + 1 ≤ k) (h3 : FnOk P w K mg base (L2.CX P w) j f fd ps (lowSp G S)) (h4 : Binds K fd ps []) : FnT P w K mg base G k (c, mAt :: (al ++ [mDot])) S :=
  .inr (.inr ⟨f, al, [], j, rfl, ha, hm, M, hc, hj, (FnRK.of h3 h4 .nil).imp fun _ _ _ _ z => by rw [List.append_nil]; exact z⟩)
theorem FnT.mkD (hm : mg c = some (.ref (He.ga K c))) (M : Mk K (He.ga K c) f) (hc : OkC K c al) (ha : mDot ∉ al) (hj : j + 1 ≤ k) (F : FunD K x qual params body scope dvs kws f fd) (h3 : FnOk P w K mg base (L2.CX P w) j f fd ps (lowSp G S)) (n i : Nat) (hd : dvs ≠ []) (hn : n + (dvs.length - i) = ps.length)
    (h : ∀ (T : Addr) (kV doc pm : Value) (an : Option Addr) (cdv ct : Value) (us its : List Value), us.length = n → its.length = dvs.length →
      ∃ k, bindArgs (PySem.W.fnOf x qual params body scope (.ref T) kV doc pm an cdv ct) ⟨us, []⟩ = seqItems? (.ref T) >>= k ∧ k (some its.toArray) = pure (ps.zip (us ++ its.drop i)))
    {dd : List U} (hdd : ∀ B α O H, AtUs G.K B α O H (dvs.drop i) dd) (l : ∀ us O Q E, T us O Q E → S (us ++ dd) O Q E) : FnT P w K mg base G k (c, mAt :: (al ++ [mDot])) T := by
  obtain ⟨ds, hv, hb⟩ := F.binds1 n i hd hn h
  exact .inr (.inr ⟨f, al, [], j, rfl, ha, hm, M, hc, hj, (FnRK.of h3 hb hv).imp fun vs H Q E ⟨B, α, O, us, Q0, E0, ow, ha, p, r⟩ => ⟨B, α, O, us ++ dd, Q0, E0, ow, ha.append (hdd _ _ _ _), l _ _ _ _ p, r⟩⟩)
theorem FnRK.kw {ks : List Str} {n : Nat} (h3 : FnOk P w K mg base (L2.CX P w) k f fd ps (lowSp G S)) (g : List Value → List Value → List Value) (gV : List V → List V → List V) (gU : List U → List U → List U) (hb : KBn K fd ps n ks g gV)
    (hU : ∀ B α O H vs us zs ws, AtUs G.K B α O H vs us → AtUs G.K B α O H zs ws → us.length = n → ws.length = ks.length → AtUs G.K B α O H (gV vs zs) (gU us ws))
    (l : ∀ us O Q E, T us O Q E → us.length = n + ks.length ∧ S (gU (us.take n) (us.drop n)) O Q E) : FnRK P w K mg base k f ks (lowSp G T) := fun A outer s H us ws vs zs Q E hr e0 r1 r2 hl h => by
  obtain ⟨B, α, O, uu, Q0, E0, ow, ha, p, r⟩ := h
  obtain ⟨l1, p⟩ := l _ _ _ _ p
  have lz : zs.length = ks.length := by rw [r2.length]; exact hl
  have lv : vs.length = n := by
    have := ha.length
    rw [List.length_append] at this
    omega
  have split : AtUs G.K B α O H vs (uu.take n) ∧ AtUs G.K B α O H zs (uu.drop n) := by
    have key : ∀ {vs zs : List V} {uu : List U}, AtUs G.K B α O H (vs ++ zs) uu → AtUs G.K B α O H vs (uu.take vs.length) ∧ AtUs G.K B α O H zs (uu.drop vs.length) := by
      intro vs
      induction vs with
      | nil => intro zs uu h; exact ⟨.nil, h⟩
      | cons v vs ih =>
        intro zs uu h
        cases h with
        | cons a r => exact ⟨.cons a (ih r).1, (ih r).2⟩
    rw [← lv]
    exact key ha
  have KX : K.In s.heap := e0.mod.kin.keeps fun b o e => (e0.bs b o e).1
  refine h3.run A outer s H ⟨us, ks.zip ws⟩ (g us ws) (gV vs zs) Q E hr e0 (hb.to s us ws KX (by rw [← r1.length]; exact lv) hl) (hb.rel r1 r2) ?_
  exact ⟨B, α, O, _, Q0, E0, ow, hU _ _ _ _ _ _ _ _ split.1 split.2 (by rw [List.length_take]; omega) (by rw [List.length_drop]; omega), p, r⟩
theorem FnT.mkKD {n : Nat} {ks : List Str} {dd : List U} (is : List (Nat × Nat)) (hm : mg c = some (.ref (He.ga K c))) (M : Mk K (He.ga K c) f) (hc : OkC K c al) (ha : mDot ∉ al) (hj : j + 1 ≤ k) (F : FunD K x qual params body scope dvs kws f fd) (h3 : FnOk P w K mg base (L2.CX P w) j f fd ps (lowSp G S)) (hd : dvs ≠ [])
    (h : ∀ (T : Addr) (kV doc pm : Value) (an : Option Addr) (cdv ct : Value) (us its ws : List Value), us.length = n → its.length = dvs.length → ws.length = ks.length →
      ∃ k, bindArgs (PySem.W.fnOf x qual params body scope (.ref T) kV doc pm an cdv ct) ⟨us, ks.zip ws⟩ = seqItems? (.ref T) >>= k ∧ k (some its.toArray) = pure (ps.zip (gix is us its ws)))
    (hdd : ∀ B α O H, AtUs G.K B α O H dvs dd) (l : ∀ us O Q E, T us O Q E → us.length = n + ks.length ∧ S (gix is (us.take n) dd (us.drop n)) O Q E) : FnT P w K mg base G k (c, mAt :: (al ++ mDot :: ks)) T := by
  obtain ⟨its, hb⟩ := F.kbindsD n ks (fun us ds zs => gix is us ds zs) hd (fun r1 r2 r3 => vals_gix r1 r2 r3 is) h
  exact .inr (.inr ⟨f, al, ks, j, rfl, ha, hm, M, hc, hj, FnRK.kw h3 _ _ (fun us ws => gix is us dd ws) hb (fun B α O H vs us zs ws a b _ _ => atus_gix a (hdd B α O H) b is) l⟩)
end
/-- the empty tuple that stands in the program -/
def emT (K : PySem.W.Frag) (a : Addr) : Bool := match K.lookup a with
  | some ⟨.type c, _, .seq its _, _⟩ => decide (c = "tuple") && decide (its.toList = [])
  | _ => false
theorem emT_ok {K : PySem.W.Frag} {a : Addr} (h : emT K a = true) (H : Hp) : SqT K H a [] := by
  unfold emT at h
  cases q : K.lookup a with
  | none =>
    rw [q] at h
    cases h
  | some o =>
    obtain ⟨oc, od, dt, osl⟩ := o
    rw [q] at h
    cases oc with
    | type c =>
      cases dt with
      | seq its n =>
        obtain ⟨h1, h2⟩ := ba (show (decide (c = "tuple") && decide (its.toList = [])) = true from h)
        have h3 := of_decide_eq_true h2
        exact .inr ⟨_, its, n, q, congrArg Value.type (of_decide_eq_true h1), rfl, by rw [← Array.length_toList, h3]; exact Nat.zero_le _, by rw [h3]; exact .nil⟩
      | _ => cases h
    | _ => cases dt <;> cases h
theorem at_emT {K : PySem.W.Frag} {a : Addr} (h : emT K a = true) {M : Addr → Prop} {H : Hp} : At K M H (.ref a) (.tup []) := .tupK (emT_ok h) .nil
/-! keywords, no defaults -/
section
variable {P : Program} {w : World} {K : PySem.W.Frag} {mg : Str → Option Value} {base : Heap} {G : Gx} {k : Nat}
variable {x qual : Str} {params : Arguments} {body : List Stmt} {scope : Scope} {kws : List (Str × V)} {f : Addr} {fd : FuncData} {ps : List Str} {S T : ZSp}
theorem kbinds1 (F : FunD K x qual params body scope [] kws f fd) (n : Nat) (ks : List Str) (is : List (Nat × Nat))
    (h : ∀ (kV doc pm : Value) (an : Option Addr) (cdv ct : Value) (us ws : List Value), us.length = n → ws.length = ks.length →
      bindArgs (PySem.W.fnOf x qual params body scope .none kV doc pm an cdv ct) ⟨us, ks.zip ws⟩ = pure (ps.zip (gix is us [] ws))) : KBn K fd ps n ks (fun us ws => gix is us [] ws) (fun vs zs => gix is vs [] zs) := by
  obtain ⟨oc, od, dV, kV, doc, pm, an, cdv, ct, osl, rfl, lk, hcd, hD, hK⟩ := F.ex
  rcases hD with ⟨_, rfl⟩ | ⟨e, _⟩
  · exact ⟨fun s us ws X l1 l2 => .of_eq (h kV doc pm an cdv ct us ws l1 l2), fun r1 r2 => vals_gix r1 .nil r2 is⟩
  · exact absurd rfl e
theorem FnT.kwN {n : Nat} {ks : List Str} (is : List (Nat × Nat)) (F : FunD K x qual params body scope [] kws f fd) (h1 : mg x = some (.ref f)) (h3 : FnOk P w K mg base (L2.CX P w) k f fd ps (lowSp G S))
    (h : ∀ (kV doc pm : Value) (an : Option Addr) (cdv ct : Value) (us ws : List Value), us.length = n → ws.length = ks.length →
      bindArgs (PySem.W.fnOf x qual params body scope .none kV doc pm an cdv ct) ⟨us, ks.zip ws⟩ = pure (ps.zip (gix is us [] ws)))
    (l : ∀ us O Q E, T us O Q E → us.length = n + ks.length ∧ S (gix is (us.take n) [] (us.drop n)) O Q E) (hmk : mkd ks = false := by rfl) : FnT P w K mg base G k (x, ks) T :=
  .kw h1 F.kp h3 _ _ (fun us ws => gix is us [] ws) (kbinds1 F n ks is h) (fun B α O H vs us zs ws a b _ _ => atus_gix a .nil b is) l hmk
end
end Z

set_option Elab.async false
set_option linter.all false
set_option maxRecDepth 100000
set_option maxHeartbeats 0
namespace Z
open PySem PySem.Spec PyProof.Rows L2
def top (i : Nat) : Stmt := PySem.Challenge.pw_endlessnets_k01_words_judged.main.body.getD i (.Pass ⟨0, 0, 0, 0⟩)
def xc_InvalidNumber : XcD := ⟨"InvalidNumber", 1, [("value", .arg 0), ("code", .str "InvalidNumber")]⟩
def xp_InvalidNumber : List Str := ["self", "value"]
def xc_InvalidName : XcD := ⟨"InvalidName", 1, [("value", .arg 0), ("code", .str "InvalidName")]⟩
def xp_InvalidName : List Str := ["self", "value"]
def exs : List Str := ["InvalidNumber", "InvalidName"]
def xcs : List XcD := [xc_InvalidNumber, xc_InvalidName]
def gints : List (Str × Int) := [("LONGEST_NAME", 6), ("LONGEST_KIND", 2000)]
def gstrs : List (Str × Str) := [("LETTERS", "abcdefghijklmnopqrstuvwxyz"), ("KIND_SIGNS", "abcdefghijklmnopqrstuvwxyz()[],")]
def N_is_name : List Str := ["value"]
def ps_is_name : List Str := ["value"]
def gm_is_name : List Fk := []
def y_is_name : YS := (.seq (.ret (.and (.isi (.var 0) ["str"]) (.and (.chain .LtE .LtE (.int 1) (.blt .len (.cons (.var 0) .nil)) (.gint "LONGEST_NAME" 6)) (.one (.cmp .Eq (.sjn false (.var 0) (.gstr "LETTERS" "abcdefghijklmnopqrstuvwxyz")) (.str "")))))) .nil)
def N_is_kind : List Str := ["value"]
def ps_is_kind : List Str := ["value"]
def gm_is_kind : List Fk := []
def y_is_kind : YS := (.seq (.ret (.and (.isi (.var 0) ["str"]) (.and (.chain .LtE .LtE (.int 1) (.blt .len (.cons (.var 0) .nil)) (.gint "LONGEST_KIND" 2000)) (.one (.cmp .Eq (.sjn false (.var 0) (.gstr "KIND_SIGNS" "abcdefghijklmnopqrstuvwxyz()[],")) (.str "")))))) .nil)
def N_is_plain : List Str := ["value"]
def ps_is_plain : List Str := ["value"]
def gm_is_plain : List Fk := [("is_kind", [])]
def y_is_plain : YS := (.seq (.ret (.and (.call 0 (.cons (.var 0) .nil)) (.one (.cmp .Eq (.sjn false (.var 0) (.gstr "LETTERS" "abcdefghijklmnopqrstuvwxyz")) (.str ""))))) .nil)
def N_is_any_number : List Str := ["value"]
def ps_is_any_number : List Str := ["value"]
def gm_is_any_number : List Fk := []
def y_is_any_number : YS := (.seq (.ret (.and (.isi (.var 0) ["int"]) (.one (.not (.isi (.var 0) ["bool"]))))) .nil)
def N_is_number : List Str := ["value", "least", "most"]
def ps_is_number : List Str := ["value", "least", "most"]
def gm_is_number : List Fk := [("is_any_number", [])]
def y_is_number : YS := (.seq (.ret (.and (.call 0 (.cons (.var 0) .nil)) (.one (.chain .LtE .LtE (.var 1) (.var 0) (.var 2))))) .nil)
def N_list_name : List Str := ["at"]
def ps_list_name : List Str := ["at"]
def gm_list_name : List Fk := [("is_number", [])]
def y_list_name : YS := (.seq (.ite (.not (.call 0 (.cons (.var 0) (.cons (.int 0) (.cons (.int 675) .nil))))) (.seq (.rse xc_InvalidNumber (.cons (.var 0) .nil)) .nil) .nil) (.seq (.ret (.bin .Add (.ix (.gstr "LETTERS" "abcdefghijklmnopqrstuvwxyz") (.bin .FloorDiv (.var 0) (.int 26))) (.ix (.gstr "LETTERS" "abcdefghijklmnopqrstuvwxyz") (.bin .Mod (.var 0) (.int 26))))) .nil))
def N__law_bag : List Str := ["_law_script", "_law_cells"]
def ps__law_bag : List Str := ["_law_script"]
def gm__law_bag : List Fk := []
def y__law_bag : YS := (.seq (.set 1 (.blt .list (.cons (.sl (.var 0) .nop (.sm (.int 63))) .nil))) (.seq (.ret (.lst true (.cons (.var 1) (.cons (.int 0) (.cons (.int 0) (.cons (.bin .Add (.int 12035) (.bin .Mult (.int 37) (.blt .len (.cons (.var 1) .nil)))) (.cons (.int 0) .nil))))))) .nil))
def N__law_draw : List Str := ["_law_bag_here", "_law_size", "_law_seed", "_law_cell", "_law_digit"]
def ps__law_draw : List Str := ["_law_bag_here", "_law_size"]
def gm__law_draw : List Fk := []
def y__law_draw : YS := (.seq (.seti (.var 0) (.int 4) (.bin .Add (.ix (.var 0) (.int 4)) (.int 1))) (.seq (.ite (.and (.cmp .Eq (.ix (.var 0) (.int 2)) (.int 0)) (.one (.cmp .Lt (.ix (.var 0) (.int 1)) (.blt .len (.cons (.ix (.var 0) (.int 0)) .nil))))) (.seq (.set 3 (.blt .abs (.cons (.ix (.ix (.var 0) (.int 0)) (.ix (.var 0) (.int 1))) .nil))) (.seq (.seti (.var 0) (.int 1) (.bin .Add (.ix (.var 0) (.int 1)) (.int 1))) (.seq (.ite (.cmp .GtE (.var 3) (.bin .Pow (.int 10) (.int 18))) (.seq (.seti (.var 0) (.int 2) (.var 3)) .nil) (.seq (.seti (.var 0) (.int 3) (.bin .Mod (.blt .int (.cons (.bin .Add (.bin .Add (.bin .Mult (.ix (.var 0) (.int 3)) (.int 48731)) (.bin .Mult (.bin .Mod (.blt .int (.cons (.var 3) .nil)) (.int 2147483029)) (.int 613))) (.int 29)) .nil)) (.int 2147483249))) .nil)) .nil))) .nil) (.seq (.ite (.cmp .Gt (.ix (.var 0) (.int 2)) (.int 0)) (.seq (.set 4 (.bin .Mod (.blt .int (.cons (.ix (.var 0) (.int 2)) .nil)) (.var 1))) (.seq (.seti (.var 0) (.int 2) (.bin .FloorDiv (.ix (.var 0) (.int 2)) (.var 1))) (.seq (.ret (.var 4)) .nil))) .nil) (.seq (.set 2 (.ix (.var 0) (.int 3))) (.seq (.seti (.var 0) (.int 3) (.bin .Mod (.blt .int (.cons (.bin .Add (.bin .Add (.bin .Add (.bin .Pow (.var 2) (.int 3)) (.bin .Mult (.var 2) (.int 31181))) (.bin .Mult (.ix (.var 0) (.int 4)) (.int 1299721))) (.int 60637)) .nil)) (.int 2147483249))) (.seq (.ret (.bin .Mod (.blt .int (.cons (.bin .Add (.bin .FloorDiv (.ix (.var 0) (.int 3)) (.int 71)) (.bin .Mult (.bin .Mod (.blt .int (.cons (.ix (.var 0) (.int 3)) .nil)) (.int 8111)) (.int 59))) .nil)) (.var 1))) .nil))))))
def N__law_pick : List Str := ["_law_bag_here", "_law_some"]
def ps__law_pick : List Str := ["_law_bag_here", "_law_some"]
def gm__law_pick : List Fk := [("_law_draw", [])]
def y__law_pick : YS := (.seq (.ret (.ix (.var 1) (.call 0 (.cons (.var 0) (.cons (.blt .len (.cons (.var 1) .nil)) .nil))))) .nil)
def N__law_huge : List Str := ["_law_bag_here", "_law_found"]
def ps__law_huge : List Str := ["_law_bag_here"]
def gm__law_huge : List Fk := [("_law_pick", []), ("_law_draw", [])]
def y__law_huge : YS := (.seq (.set 1 (.bin .Add (.bin .Add (.bin .Mult (.call 1 (.cons (.var 0) (.cons (.bin .Pow (.int 10) (.int 7)) .nil))) (.bin .Pow (.int 10) (.int 27))) (.bin .Mult (.call 1 (.cons (.var 0) (.cons (.bin .Pow (.int 10) (.int 7)) .nil))) (.bin .Pow (.int 10) (.int 13)))) (.call 1 (.cons (.var 0) (.cons (.bin .Pow (.int 10) (.int 7)) .nil))))) (.seq (.ret (.bin .FloorDiv (.var 1) (.call 0 (.cons (.var 0) (.cons (.lst false (.cons (.int 1) (.cons (.bin .Pow (.int 10) (.int 10)) (.cons (.bin .Pow (.int 10) (.int 20)) .nil)))) .nil))))) .nil))
def N__law_number : List Str := ["_law_bag_here", "_law_near"]
def ps__law_number : List Str := ["_law_bag_here", "_law_near"]
def gm__law_number : List Fk := [("_law_draw", []), ("_law_huge", []), ("_law_pick", [])]
def y__law_number : YS := (.seq (.ite (.cmp .Eq (.call 0 (.cons (.var 0) (.cons (.int 13) .nil))) (.int 12)) (.seq (.ret (.bin .Mult (.call 1 (.cons (.var 0) .nil)) (.call 2 (.cons (.var 0) (.cons (.lst false (.cons (.int 1) (.cons (.neg (.int 1)) .nil))) .nil))))) .nil) .nil) (.seq (.ret (.bin .Sub (.call 0 (.cons (.var 0) (.cons (.bin .Add (.bin .Mult (.int 2) (.var 1)) (.int 1)) .nil))) (.var 1))) .nil))
def N__law_word : List Str := ["_law_bag_here", "_law_longest", "_law_letters", "_law_k"]
def ps__law_word : List Str := ["_law_bag_here", "_law_longest"]
def gm__law_word : List Fk := [("_law_draw", []), ("_law_pick", [])]
def y__law_word : YS := (.seq (.set 2 (.str "abcdefghijklmnopqrstuvwxyz")) (.seq (.ret (.sjn true (.str "") (.comp false [3] (.nm 3) (.rng (.bin .Add (.int 1) (.call 0 (.cons (.var 0) (.cons (.var 1) .nil))))) .yes (.call 1 (.cons (.var 0) (.cons (.var 2) .nil)))))) .nil))
def N__law_int : List Str := ["_law_x"]
def ps__law_int : List Str := ["_law_x"]
def gm__law_int : List Fk := []
def y__law_int : YS := (.seq (.ret (.and (.isi (.var 0) ["int"]) (.one (.not (.isi (.var 0) ["bool"]))))) .nil)
def N__law_is_name : List Str := ["_law_x", "_law_c"]
def ps__law_is_name : List Str := ["_law_x"]
def gm__law_is_name : List Fk := []
def y__law_is_name : YS := (.seq (.ret (.and (.isi (.var 0) ["str"]) (.and (.chain .LtE .LtE (.int 1) (.blt .len (.cons (.var 0) .nil)) (.int 6)) (.one (.blt .all (.cons (.comp false [1] (.nm 1) (.seq (.var 0)) .yes (.cmp .In (.var 1) (.str "abcdefghijklmnopqrstuvwxyz"))) .nil)))))) .nil)
def N__law_is_kind : List Str := ["_law_x", "_law_c"]
def ps__law_is_kind : List Str := ["_law_x"]
def gm__law_is_kind : List Fk := []
def y__law_is_kind : YS := (.seq (.ret (.and (.isi (.var 0) ["str"]) (.and (.chain .LtE .LtE (.int 1) (.blt .len (.cons (.var 0) .nil)) (.int 2000)) (.one (.blt .all (.cons (.comp false [1] (.nm 1) (.seq (.var 0)) .yes (.cmp .In (.var 1) (.str "abcdefghijklmnopqrstuvwxyz()[],"))) .nil)))))) .nil)
def N__law_same : List Str := ["_law_found", "_law_due", "_law_x", "_law_y"]
def ps__law_same : List Str := ["_law_found", "_law_due"]
def gm__law_same : List Fk := [("_law_same", [])]
def y__law_same : YS := (.seq (.ite (.isi (.var 1) ["list", "tuple"]) (.seq (.ite (.or (.cmp .NotEq (.isi (.var 0) ["list"]) (.isi (.var 1) ["list"])) (.one (.cmp .NotEq (.isi (.var 0) ["tuple"]) (.isi (.var 1) ["tuple"])))) (.seq (.ret (.bl false)) .nil) .nil) (.seq (.ret (.and (.cmp .Eq (.blt .len (.cons (.var 0) .nil)) (.blt .len (.cons (.var 1) .nil))) (.one (.blt .all (.cons (.comp false [2, 3] (.tp (.cons (.nm 2) (.cons (.nm 3) .nil))) (.zip (.var 0) (.var 1)) .yes (.call 0 (.cons (.var 2) (.cons (.var 3) .nil)))) .nil))))) .nil)) .nil) (.seq (.ite (.or (.cmp .Is (.var 1) .non) (.one (.cmp .Is (.var 0) .non))) (.seq (.ret (.and (.cmp .Is (.var 1) .non) (.one (.cmp .Is (.var 0) .non)))) .nil) .nil) (.seq (.ite (.isi (.var 1) ["dict"]) (.seq (.ret (.and (.isi (.var 0) ["dict"]) (.one (.call 0 (.cons (.comp false [2] (.nm 2) (.seq (.var 0)) .yes (.lst false (.cons (.var 2) (.cons (.ix (.var 0) (.var 2)) .nil)))) (.cons (.comp false [2] (.nm 2) (.seq (.var 1)) .yes (.lst false (.cons (.var 2) (.cons (.ix (.var 1) (.var 2)) .nil)))) .nil)))))) .nil) .nil) (.seq (.ite (.or (.isi (.var 1) ["bool"]) (.one (.isi (.var 0) ["bool"]))) (.seq (.ret (.and (.isi (.var 1) ["bool"]) (.and (.isi (.var 0) ["bool"]) (.one (.cmp .Eq (.var 0) (.var 1)))))) .nil) .nil) (.seq (.ite (.isi (.var 1) ["int"]) (.seq (.ret (.and (.isi (.var 0) ["int"]) (.one (.cmp .Eq (.var 0) (.var 1))))) .nil) .nil) (.seq (.ret (.and (.isi (.var 1) ["str"]) (.and (.isi (.var 0) ["str"]) (.one (.cmp .Eq (.var 0) (.var 1)))))) .nil))))))
def N__law_odd : List Str := ["_law_bag_here", "_law_near", "_law_menu"]
def ps__law_odd : List Str := ["_law_bag_here"]
def gm__law_odd : List Fk := [("_law_pick", []), ("_law_draw", [])]
def y__law_odd : YS := (.seq (.set 1 (.bin .Sub (.call 1 (.cons (.var 0) (.cons (.int 5) .nil))) (.int 1))) (.seq (.set 2 (.lst false (.cons .non (.cons (.bl true) (.cons (.bl false) (.cons (.str "") (.cons (.str "a") (.cons (.str "A") (.cons (.int 2) (.cons (.var 1) (.cons (.tup .nil) (.cons (.lst false .nil) (.cons .dic0 (.cons (.tup (.cons (.var 1) .nil)) (.cons (.lst false (.cons (.var 1) (.cons (.var 1) .nil))) (.cons (.tup (.cons (.var 1) (.cons (.bl true) .nil))) (.cons (.tup (.cons (.str "a") (.cons (.tup (.cons (.var 1) .nil)) .nil))) (.cons (.dic1 "a" (.lst false (.cons (.int 1) (.cons (.tup (.cons (.bl true) (.cons .non .nil))) .nil)))) (.cons (.lst false (.cons (.lst false (.cons (.str "a") (.cons (.str "b") (.cons (.tup (.cons (.int 0) .nil)) .nil)))) .nil)) (.cons (.str "3") (.cons (.tup (.cons (.tup (.cons (.int 1) (.cons (.int 0) .nil))) (.cons (.tup (.cons (.int 0) (.cons (.int 1) .nil))) .nil))) (.cons (.bin .Pow (.int 10) (.int 39)) .nil)))))))))))))))))))))) (.seq (.ret (.call 0 (.cons (.var 0) (.cons (.var 2) .nil)))) .nil)))
def N__law_thing : List Str := ["_law_bag_here", "_law_spot", "_law_way", "_law_word_here", "_law_c", "_law_size", "_law_long", "_law_k"]
def ps__law_thing : List Str := ["_law_bag_here"]
def gm__law_thing : List Fk := [("_law_odd", []), ("_law_pick", []), ("_law_draw", []), ("_law_word", [])]
def y__law_thing : YS := (.seq (.par 2 3 (.cons (.call 2 (.cons (.var 0) (.cons (.int 9) .nil))) (.cons (.call 3 (.cons (.var 0) (.cons (.int 8) .nil))) .nil))) (.seq (.set 1 (.call 2 (.cons (.var 0) (.cons (.bin .Add (.blt .len (.cons (.var 3) .nil)) (.int 1)) .nil)))) (.seq (.ite (.cmp .Lt (.var 2) (.int 3)) (.seq (.ret (.ite (.cmp .Eq (.var 2) (.int 0)) (.sl (.var 3) .nop (.sm (.call 2 (.cons (.var 0) (.cons (.bin .Add (.blt .len (.cons (.var 3) .nil)) (.int 1)) .nil))))) (.var 3))) .nil) .nil) (.seq (.ite (.cmp .Lt (.var 2) (.int 5)) (.seq (.set 4 (.call 1 (.cons (.var 0) (.cons (.str "A Z_-09.{}()[],~!@
/:") .nil)))) (.seq (.ret (.bin .Add (.bin .Add (.sl (.var 3) .nop (.sm (.var 1))) (.var 4)) (.sl (.var 3) (.sm (.bin .Add (.var 1) (.call 2 (.cons (.var 0) (.cons (.int 2) .nil))))) .nop))) .nil)) .nil) (.seq (.ite (.cmp .Eq (.var 2) (.int 5)) (.seq (.ret (.sjn true (.str "") (.comp false [7] (.nm 7) (.rng (.call 2 (.cons (.var 0) (.cons (.int 9) .nil)))) .yes (.call 1 (.cons (.var 0) (.cons (.str "abz()[],") .nil)))))) .nil) .nil) (.seq (.ite (.cmp .Eq (.var 2) (.int 6)) (.seq (.set 5 (.call 1 (.cons (.var 0) (.cons (.lst false (.cons (.int 1999) (.cons (.int 2000) (.cons (.int 2001) .nil)))) .nil)))) (.seq (.set 6 (.sl (.bin .Mult (.var 3) (.int 2001)) .nop (.sm (.var 5)))) (.seq (.set 1 (.call 1 (.cons (.var 0) (.cons (.lst false (.cons (.int 0) (.cons (.bin .Sub (.var 5) (.int 1)) (.cons (.call 2 (.cons (.var 0) (.cons (.var 5) .nil))) .nil)))) .nil)))) (.seq (.ret (.bin .Add (.bin .Add (.sl (.var 6) .nop (.sm (.var 1))) (.call 1 (.cons (.var 0) (.cons (.lst false (.cons (.str "a") (.cons (.str "(") (.cons (.str ",") (.cons (.str "]") (.cons (.str "A") (.cons (.str "_") (.cons (.str " ") .nil)))))))) .nil)))) (.sl (.var 6) (.sm (.bin .Add (.var 1) (.int 1))) .nop))) .nil)))) .nil) (.seq (.ite (.cmp .Eq (.var 2) (.int 7)) (.seq (.ret (.call 1 (.cons (.var 0) (.cons (.lst false (.cons (.xv xc_InvalidName (.cons (.var 3) .nil)) (.cons (.tup (.cons (.var 3) .nil)) (.cons (.lst false (.cons (.var 3) .nil)) (.cons (.op2 .dck (.var 3) (.var 3)) (.cons (.lst false (.cons (.lst false (.cons (.var 3) .nil)) .nil)) (.cons (.blt .list (.cons (.var 3) .nil)) (.cons (.blt .tuple (.cons (.var 3) .nil)) .nil)))))))) .nil)))) .nil) .nil) (.seq (.ret (.call 0 (.cons (.var 0) .nil))) .nil))))))))
def N__law_words_so : List Str := ["_law_bag_here", "_law_x", "_law_plain", "_law_c"]
def ps__law_words_so : List Str := ["_law_bag_here"]
def gm__law_words_so : List Fk := [("_law_same", []), ("_law_is_kind", []), ("_law_is_name", []), ("is_plain", []), ("is_kind", []), ("is_name", []), ("_law_thing", [])]
def y__law_words_so : YS := (.seq (.set 1 (.call 6 (.cons (.var 0) .nil))) (.seq (.set 2 (.and (.call 1 (.cons (.var 1) .nil)) (.one (.blt .all (.cons (.comp false [3] (.nm 3) (.seq (.var 1)) .yes (.cmp .In (.var 3) (.str "abcdefghijklmnopqrstuvwxyz"))) .nil))))) (.seq (.ret (.call 0 (.cons (.lst false (.cons (.call 5 (.cons (.var 1) .nil)) (.cons (.call 4 (.cons (.var 1) .nil)) (.cons (.call 3 (.cons (.var 1) .nil)) .nil)))) (.cons (.lst false (.cons (.call 2 (.cons (.var 1) .nil)) (.cons (.call 1 (.cons (.var 1) .nil)) (.cons (.var 2) .nil)))) .nil)))) .nil)))
def N__law_numbers_so : List Str := ["_law_bag_here", "_law_low", "_law_high", "_law_odd_here", "_law_menu", "_law_due", "_law_told", "_law_x"]
def ps__law_numbers_so : List Str := ["_law_bag_here"]
def gm__law_numbers_so : List Fk := [("_law_same", []), ("is_number", ["least", "most"]), ("is_number", []), ("_law_int", []), ("_law_pick", []), ("_law_draw", []), ("_law_number", [])]
def y__law_numbers_so : YS := (.seq (.set 1 (.call 4 (.cons (.var 0) (.cons (.lst false (.cons (.int 0) (.cons (.int 1) (.cons (.neg (.int 1)) (.cons (.call 6 (.cons (.var 0) (.cons (.int 30) .nil))) .nil))))) .nil)))) (.seq (.set 2 (.bin .Add (.var 1) (.call 4 (.cons (.var 0) (.cons (.lst false (.cons (.int 0) (.cons (.int 1) (.cons (.int 2) (.cons (.neg (.int 1)) (.cons (.call 5 (.cons (.var 0) (.cons (.int 100) .nil))) .nil)))))) .nil))))) (.seq (.set 3 (.call 4 (.cons (.var 0) (.cons (.lst false (.cons (.bl true) (.cons (.bl false) (.cons .non (.cons (.sl (.blt .str (.cons (.var 1) .nil)) .nop (.sm (.int 3))) (.cons (.tup (.cons (.var 1) .nil)) (.cons (.lst false (.cons (.var 1) .nil)) (.cons .dic0 (.cons (.xv xc_InvalidName (.cons (.str "a") .nil)) .nil))))))))) .nil)))) (.seq (.set 4 (.lst false (.cons (.bin .Sub (.var 1) (.int 1)) (.cons (.var 1) (.cons (.bin .Add (.var 1) (.int 1)) (.cons (.bin .FloorDiv (.bin .Add (.var 1) (.var 2)) (.int 2)) (.cons (.bin .Sub (.var 2) (.int 1)) (.cons (.var 2) (.cons (.bin .Add (.var 2) (.int 1)) (.cons (.neg (.var 1)) (.cons (.var 3) .nil))))))))))) (.seq (.set 5 (.comp false [7] (.nm 7) (.seq (.var 4)) .yes (.and (.call 3 (.cons (.var 7) .nil)) (.one (.chain .LtE .LtE (.var 1) (.var 7) (.var 2)))))) (.seq (.set 6 (.comp false [7] (.nm 7) (.seq (.var 4)) .yes (.call 2 (.cons (.var 7) (.cons (.var 1) (.cons (.var 2) .nil)))))) (.seq (.ret (.and (.call 0 (.cons (.var 6) (.cons (.var 5) .nil))) (.one (.call 0 (.cons (.callk 1 (.cons (.var 2) .nil) (.cons (.var 1) (.cons (.var 2) .nil))) (.cons (.cmp .GtE (.var 2) (.var 1)) .nil)))))) .nil)))))))
def N_law : List Str := ["_law_script", "_law_bag_here", "_law_letters", "_law_turn", "_law_k", "_law_odd_here"]
def ps_law : List Str := ["_law_script"]
def gm_law : List Fk := [("_law_same", []), ("list_name", []), ("_law_pick", []), ("_law_draw", []), ("_law_numbers_so", []), ("_law_words_so", []), ("_law_bag", [])]
def y_law : YS := (.seq (.set 1 (.call 6 (.cons (.var 0) .nil))) (.seq (.set 2 (.str "abcdefghijklmnopqrstuvwxyz")) (.seq (.for_ (.nm 3) (.rng (.int 6)) (.seq (.ite (.or (.not (.call 5 (.cons (.var 1) .nil))) (.one (.not (.call 4 (.cons (.var 1) .nil))))) (.seq (.ret (.bl false)) .nil) .nil) (.seq (.set 4 (.call 2 (.cons (.var 1) (.cons (.lst false (.cons (.int 0) (.cons (.int 25) (.cons (.int 26) (.cons (.int 675) (.cons (.call 3 (.cons (.var 1) (.cons (.int 676) .nil))) (.cons (.call 3 (.cons (.var 1) (.cons (.int 676) .nil))) .nil))))))) .nil)))) (.seq (.ite (.not (.ask 0 exs (.call 1 (.cons (.var 4) .nil)) (.tup (.cons (.str "") (.cons (.bin .Add (.ix (.var 2) (.bin .FloorDiv (.var 4) (.int 26))) (.ix (.var 2) (.bin .Mod (.blt .int (.cons (.var 4) .nil)) (.int 26)))) .nil))))) (.seq (.ret (.bl false)) .nil) .nil) (.seq (.set 5 (.call 2 (.cons (.var 1) (.cons (.lst false (.cons (.neg (.int 1)) (.cons (.int 676) (.cons (.int 677) (.cons (.neg (.int 676)) (.cons (.bl true) (.cons (.bl false) (.cons .non (.cons (.str "0") (.cons (.tup (.cons (.var 4) .nil)) (.cons (.lst false (.cons (.var 4) .nil)) (.cons .dic0 (.cons (.bin .Pow (.int 10) (.int 39)) (.cons (.bin .Sub (.neg (.var 4)) (.int 1)) .nil)))))))))))))) .nil)))) (.seq (.ite (.not (.ask 0 exs (.call 1 (.cons (.var 5) .nil)) (.tup (.cons (.str "InvalidNumber") (.cons (.var 5) .nil))))) (.seq (.ret (.bl false)) .nil) .nil) .nil)))))) (.seq (.ret (.bl true)) .nil))))
theorem ck_is_name : (ckS gm_is_name y_is_name ⟨N_is_name, defScope (top 10), defScope (top 10), false, exs, gints, gstrs, xcs, true, true⟩).B (defBody (top 10)) = true := by decide +kernel
theorem ck_is_kind : (ckS gm_is_kind y_is_kind ⟨N_is_kind, defScope (top 11), defScope (top 11), false, exs, gints, gstrs, xcs, true, true⟩).B (defBody (top 11)) = true := by decide +kernel
theorem ck_is_plain : (ckS gm_is_plain y_is_plain ⟨N_is_plain, defScope (top 12), defScope (top 12), false, exs, gints, gstrs, xcs, true, true⟩).B (defBody (top 12)) = true := by decide +kernel
theorem ck_is_any_number : (ckS gm_is_any_number y_is_any_number ⟨N_is_any_number, defScope (top 13), defScope (top 13), false, exs, gints, gstrs, xcs, true, true⟩).B (defBody (top 13)) = true := by decide +kernel
theorem ck_is_number : (ckS gm_is_number y_is_number ⟨N_is_number, defScope (top 14), defScope (top 14), false, exs, gints, gstrs, xcs, true, true⟩).B (defBody (top 14)) = true := by decide +kernel
theorem ck_list_name : (ckS gm_list_name y_list_name ⟨N_list_name, defScope (top 15), defScope (top 15), false, exs, gints, gstrs, xcs, true, true⟩).B (defBody (top 15)) = true := by decide +kernel
theorem ck__law_bag : (ckS gm__law_bag y__law_bag ⟨N__law_bag, defScope (top 17), defScope (top 17), false, exs, gints, gstrs, xcs, true, true⟩).B (defBody (top 17)) = true := by decide +kernel
theorem ck__law_draw : (ckS gm__law_draw y__law_draw ⟨N__law_draw, defScope (top 18), defScope (top 18), false, exs, gints, gstrs, xcs, true, true⟩).B (defBody (top 18)) = true := by decide +kernel
theorem ck__law_pick : (ckS gm__law_pick y__law_pick ⟨N__law_pick, defScope (top 19), defScope (top 19), false, exs, gints, gstrs, xcs, true, true⟩).B (defBody (top 19)) = true := by decide +kernel
theorem ck__law_huge : (ckS gm__law_huge y__law_huge ⟨N__law_huge, defScope (top 20), defScope (top 20), false, exs, gints, gstrs, xcs, true, true⟩).B (defBody (top 20)) = true := by decide +kernel
theorem ck__law_number : (ckS gm__law_number y__law_number ⟨N__law_number, defScope (top 21), defScope (top 21), false, exs, gints, gstrs, xcs, true, true⟩).B (defBody (top 21)) = true := by decide +kernel
theorem ck__law_word : (ckS gm__law_word y__law_word ⟨N__law_word, defScope (top 22), defScope (top 22), false, exs, gints, gstrs, xcs, true, true⟩).B (defBody (top 22)) = true := by decide +kernel
theorem ck__law_int : (ckS gm__law_int y__law_int ⟨N__law_int, defScope (top 23), defScope (top 23), false, exs, gints, gstrs, xcs, true, true⟩).B (defBody (top 23)) = true := by decide +kernel
theorem ck__law_is_name : (ckS gm__law_is_name y__law_is_name ⟨N__law_is_name, defScope (top 24), defScope (top 24), false, exs, gints, gstrs, xcs, true, true⟩).B (defBody (top 24)) = true := by decide +kernel
theorem ck__law_is_kind : (ckS gm__law_is_kind y__law_is_kind ⟨N__law_is_kind, defScope (top 25), defScope (top 25), false, exs, gints, gstrs, xcs, true, true⟩).B (defBody (top 25)) = true := by decide +kernel
theorem ck__law_same : (ckS gm__law_same y__law_same ⟨N__law_same, defScope (top 26), defScope (top 26), false, exs, gints, gstrs, xcs, true, true⟩).B (defBody (top 26)) = true := by decide +kernel
theorem ck__law_odd : (ckS gm__law_odd y__law_odd ⟨N__law_odd, defScope (top 30), defScope (top 30), false, exs, gints, gstrs, xcs, true, true⟩).B (defBody (top 30)) = true := by decide +kernel
theorem ck__law_thing : (ckS gm__law_thing y__law_thing ⟨N__law_thing, defScope (top 31), defScope (top 31), false, exs, gints, gstrs, xcs, true, true⟩).B (defBody (top 31)) = true := by decide +kernel
theorem ck__law_words_so : (ckS gm__law_words_so y__law_words_so ⟨N__law_words_so, defScope (top 32), defScope (top 32), false, exs, gints, gstrs, xcs, true, true⟩).B (defBody (top 32)) = true := by decide +kernel
theorem ck__law_numbers_so : (ckS gm__law_numbers_so y__law_numbers_so ⟨N__law_numbers_so, defScope (top 33), defScope (top 33), false, exs, gints, gstrs, xcs, true, true⟩).B (defBody (top 33)) = true := by decide +kernel
theorem ck_law : (ckS gm_law y_law ⟨N_law, defScope (top 34), defScope (top 34), true, exs, gints, gstrs, xcs, true, true⟩).B (defBody (top 34)) = true := by decide +kernel
theorem sc_is_name : C8.scC N_is_name ps_is_name (defScope (top 10)) = true := by decide +kernel
theorem sc_is_kind : C8.scC N_is_kind ps_is_kind (defScope (top 11)) = true := by decide +kernel
theorem sc_is_plain : C8.scC N_is_plain ps_is_plain (defScope (top 12)) = true := by decide +kernel
theorem sc_is_any_number : C8.scC N_is_any_number ps_is_any_number (defScope (top 13)) = true := by decide +kernel
theorem sc_is_number : C8.scC N_is_number ps_is_number (defScope (top 14)) = true := by decide +kernel
theorem sc_list_name : C8.scC N_list_name ps_list_name (defScope (top 15)) = true := by decide +kernel
theorem sc__law_bag : C8.scC N__law_bag ps__law_bag (defScope (top 17)) = true := by decide +kernel
theorem sc__law_draw : C8.scC N__law_draw ps__law_draw (defScope (top 18)) = true := by decide +kernel
theorem sc__law_pick : C8.scC N__law_pick ps__law_pick (defScope (top 19)) = true := by decide +kernel
theorem sc__law_huge : C8.scC N__law_huge ps__law_huge (defScope (top 20)) = true := by decide +kernel
theorem sc__law_number : C8.scC N__law_number ps__law_number (defScope (top 21)) = true := by decide +kernel
theorem sc__law_word : C8.scC N__law_word ps__law_word (defScope (top 22)) = true := by decide +kernel
theorem sc__law_int : C8.scC N__law_int ps__law_int (defScope (top 23)) = true := by decide +kernel
theorem sc__law_is_name : C8.scC N__law_is_name ps__law_is_name (defScope (top 24)) = true := by decide +kernel
theorem sc__law_is_kind : C8.scC N__law_is_kind ps__law_is_kind (defScope (top 25)) = true := by decide +kernel
theorem sc__law_same : C8.scC N__law_same ps__law_same (defScope (top 26)) = true := by decide +kernel
theorem sc__law_odd : C8.scC N__law_odd ps__law_odd (defScope (top 30)) = true := by decide +kernel
theorem sc__law_thing : C8.scC N__law_thing ps__law_thing (defScope (top 31)) = true := by decide +kernel
theorem sc__law_words_so : C8.scC N__law_words_so ps__law_words_so (defScope (top 32)) = true := by decide +kernel
theorem sc__law_numbers_so : C8.scC N__law_numbers_so ps__law_numbers_so (defScope (top 33)) = true := by decide +kernel
theorem sc_law : C8.scC N_law ps_law (defScope (top 34)) = true := by decide +kernel
theorem xi_InvalidNumber : initC (defScope (inClass (top 3) 0)) xp_InvalidNumber xc_InvalidNumber.fl (defBody (inClass (top 3) 0)) = true := by decide +kernel
theorem xs_InvalidNumber : C8.scC xp_InvalidNumber xp_InvalidNumber (defScope (inClass (top 3) 0)) = true := by decide +kernel
theorem xl_InvalidNumber : (defScope (inClass (top 3) 0)).names.lookup ("self" : Str) = some .local := by decide +kernel
theorem xi_InvalidName : initC (defScope (inClass (top 4) 0)) xp_InvalidName xc_InvalidName.fl (defBody (inClass (top 4) 0)) = true := by decide +kernel
theorem xs_InvalidName : C8.scC xp_InvalidName xp_InvalidName (defScope (inClass (top 4) 0)) = true := by decide +kernel
theorem xl_InvalidName : (defScope (inClass (top 4) 0)).names.lookup ("self" : Str) = some .local := by decide +kernel
theorem ak_fields : fldC "_law_e" fldT (defBody (top 27)) = true := by decide +kernel
theorem al_fields : locI (defScope (top 27)) "_law_e" = true := by decide +kernel
theorem as_fields : C8.scC ["_law_e"] ["_law_e"] (defScope (top 27)) = true := by decide +kernel
theorem ak_got : gotC (defScope (top 28)) (defBody (top 28)) = true := by decide +kernel
theorem as_got : C8.scC ["_law_ask", "_law_e"] ["_law_ask"] (defScope (top 28)) = true := by decide +kernel
theorem ak_is : isC (defScope (top 29)) (defBody (top 29)) = true := by decide +kernel
theorem as_is : C8.scC ["_law_ask", "_law_due"] ["_law_ask", "_law_due"] (defScope (top 29)) = true := by decide +kernel
end Z

set_option Elab.async false
set_option linter.all false
set_option maxRecDepth 100000
set_option maxHeartbeats 4000000
namespace Z
open PySem PySem.Spec PyProof.Rows L2
/-! ### what every law of this house calls -/
theorem k_law_bag : Keeps [] y__law_bag N__law_bag.length bagZ := by
  rintro us O Q E ⟨ns, rfl, rfl, h⟩
  show vcS [] y__law_bag E _ [some (.d (.scr ns)), none] []
  simp only [y__law_bag, vcS, vc, gt, st, oneK_1, nrsK_1, partK, nrK_d, slD, list_l, len_l, mul_i, add_i, tosK_5, newL]
  have hl := cutL_len ns 63
  refine ⟨mulOk_l (by decide) (by decide), (by decide : 5 ≤ sizeLine), h _ ⟨_, 0, 0, _, 0, rfl, by decide, by decide, ?_, ?_⟩⟩
  · omega
  · rw [List.length_map]
    have : (cutL ns none (some 63)).length ≤ 63 := hl
    omega
theorem k_law_draw : Keeps [] y__law_draw N__law_draw.length drawZ := by
  rintro us O Q E ⟨ds, n, rfl, rfl, ⟨cs, pos, left, seed, cnt, rfl, hp, hl, hs0, hs1⟩, hn, hn2, h⟩
  show vcS [] y__law_draw E _ [some (.o 0), some (.d (.int n)), none, none, none] _
  simp only [y__law_draw, vcS, vc, gt, st, go, so, oneK_1, nrK_d, nrK_lst0, ix_l, at_0, at_1, at_2, at_3, at_4, ex_some, add_i, toK_d, eq_i, boolK_1, ix5_0, ix5_1, ix5_2, ix5_3, ix5_4, List.set_cons_zero, List.set_cons_succ, nrsK_1, len_l, lt_i, gt_i, int_i, mod_i, mul_i, div_i, pow_i]
  have cnt' : ∀ c : Int, MulOk c 1299721 := fun c => mulOk_r (by decide) (by decide)
  have seedOk : ∀ x : Int, 0 ≤ x.fmod 2147483249 ∧ x.fmod 2147483249 < 2147483249 := fun x => ⟨Int.fmod_nonneg_of_pos _ (by decide), Int.fmod_lt_of_pos _ (by decide)⟩
  have digit : ∀ (x pos left seed cnt : Int), 0 ≤ pos → 0 ≤ left → 0 ≤ seed → seed < 2147483249 → Q (.d (.int (x.fmod n))) [.lst [.lst (cs.map .int), .int pos, .int left, .int seed, .int cnt]] := fun x pos left seed cnt h1 h2 h3 h4 =>
    h _ _ (Int.fmod_nonneg_of_pos _ (by omega)) (Int.fmod_lt_of_pos _ (by omega)) ⟨cs, pos, left, seed, cnt, rfl, h1, h2, h3, h4⟩
  have pow3 : ∀ s : Int, 0 ≤ s → s < 2147483249 → CPow s 3 := fun s h1 h2 => ⟨by decide, by decide, by omega⟩
  have dn : DivOk n := divOk_pos hn hn2
  have dn0 : n ≠ 0 := by omega
  have d71 : DivOk 71 := divOk_pos (by decide) (by decide)
  have fd : ∀ x : Int, 0 ≤ x → 0 ≤ x.fdiv n := fun x hx => Int.fdiv_nonneg hx (by omega)
  have gen : ∀ (x pos seed cnt : Int), 0 ≤ pos → 0 ≤ seed → seed < 2147483249 → 0 ≤ x → (CPow seed 3 ∧ MulOk seed 31181 ∧ MulOk cnt 1299721 ∧ (2147483249 : Int) ≠ 0 ∧ DivOk 71 ∧ (8111 : Int) ≠ 0 ∧ MulOk ((((seed ^ Int.toNat 3 + seed * 31181 + cnt * 1299721 + 60637).fmod 2147483249)).fmod 8111) 59 ∧ n ≠ 0 ∧
      Q (.d (.int ((((seed ^ Int.toNat 3 + seed * 31181 + cnt * 1299721 + 60637).fmod 2147483249).fdiv 71 + ((seed ^ Int.toNat 3 + seed * 31181 + cnt * 1299721 + 60637).fmod 2147483249).fmod 8111 * 59).fmod n)))
        [.lst [.lst (cs.map .int), .int pos, .int x, .int ((seed ^ Int.toNat 3 + seed * 31181 + cnt * 1299721 + 60637).fmod 2147483249), .int cnt]]) := fun x pos seed cnt h1 h2 h3 hx =>
    ⟨pow3 seed h2 h3, mulOk_r (by decide) (by decide), cnt' _, by decide, d71, by decide, mulOk_r (by decide) (by decide), dn0, digit _ _ _ _ _ h1 hx (seedOk _).1 (seedOk _).2⟩
  refine way (fun h0 => way (fun h1 => ?_) fun h1 => ?_) fun h0 => ?_
  · rw [List.length_map] at h1
    obtain ⟨j, rfl⟩ := Int.eq_ofNat_of_zero_le hp
    have hj : j < cs.length := by omega
    refine ⟨.int cs[j], atI_nat (by simp [hj]), ?_⟩
    simp only [abs_i, ge_i, boolK_1, gt_i, int_i, mod_i, mul_i, add_i, div_i, pow_i]
    refine ⟨⟨by decide, by decide, by decide⟩, way (fun h2 => way (fun h3 => ⟨dn0, dn, digit _ _ _ _ _ (by omega) (fd _ (by omega)) hs0 hs1⟩) fun h3 => gen _ _ _ _ (by omega) hs0 hs1 (by omega)) fun h2 => ?_⟩
    refine ⟨mulOk_r (by decide) (by decide), by decide, mulOk_r (by decide) (by decide), by decide, way (fun h3 => ⟨dn0, dn, digit _ _ _ _ _ (by omega) (fd _ hl) (seedOk _).1 (seedOk _).2⟩) fun h3 => gen _ _ _ _ (by omega) (seedOk _).1 (seedOk _).2 hl⟩
  · exact way (fun h3 => ⟨dn0, dn, digit _ _ _ _ _ hp (fd _ hl) hs0 hs1⟩) fun h3 => gen _ _ _ _ hp hs0 hs1 hl
  · exact ⟨(fun z => by cases z), fun _ => way (fun h3 => ⟨dn0, dn, digit _ _ _ _ _ hp (fd _ hl) hs0 hs1⟩) fun h3 => gen _ _ _ _ hp hs0 hs1 hl⟩
theorem k_law_pick : Keeps [("_law_draw", drawZ)] y__law_pick N__law_pick.length pickZ := by
  rintro us O Q E ⟨ds, xs, ho, hb, h1, h2, h⟩
  rcases ho with ⟨rfl, rfl⟩ | ⟨rfl, rfl⟩
  · show vcS _ y__law_pick E _ [some (.o 0), some (.d (.lst xs))] _
    simp only [y__law_pick, vcS, vc, gt, st, oneK_1, nrsK_1, len_l, List.getElem?_cons_zero]
    refine callO [.int xs.length] rfl fun F X hF => ⟨ds, xs.length, rfl, rfl, hb, by omega, by omega, fun r ds' h3 h4 h5 => hF _ _ ?_⟩
    simp only [oneK_1, nrK_d, ix_l]
    obtain ⟨j, rfl⟩ := Int.eq_ofNat_of_zero_le h3
    have hj : j < xs.length := by omega
    exact ⟨xs[j], at_nat hj, h _ _ (List.getElem_mem hj) h5⟩
  · show vcS _ y__law_pick E _ [some (.o 0), some (.o 1)] _
    simp only [y__law_pick, vcS, vc, gt, st, oneK_1, List.getElem?_cons_zero]
    rw [nrsK_o rfl, len_l]
    refine callO [.int xs.length] rfl fun F X hF => ⟨ds, xs.length, rfl, rfl, hb, by omega, by omega, fun r ds' h3 h4 h5 => hF _ _ ?_⟩
    simp only [oneK_1, nrK_d]
    show nrK (.lst ds' :: .brw xs :: []) (.o 1) _
    rw [nrK_brw1, ix_l]
    obtain ⟨j, rfl⟩ := Int.eq_ofNat_of_zero_le h3
    have hj : j < xs.length := by omega
    exact ⟨xs[j], at_nat hj, h _ _ (List.getElem_mem hj) h5⟩
theorem k_law_huge : Keeps [("_law_pick", pickZ), ("_law_draw", drawZ)] y__law_huge N__law_huge.length hugeZ := by
  rintro us O Q E ⟨ds, rfl, rfl, hb, h⟩
  show vcS _ y__law_huge E _ [some (.o 0), none] _
  have e7 : (10 : Int) ^ Int.toNat 7 = 10000000 := by decide
  have e27 : (10 : Int) ^ Int.toNat 27 = 10 ^ 27 := by decide
  have e13 : (10 : Int) ^ Int.toNat 13 = 10 ^ 13 := by decide
  have e10 : (10 : Int) ^ Int.toNat 10 = 10 ^ 10 := by decide
  have e20 : (10 : Int) ^ Int.toNat 20 = 10 ^ 20 := by decide
  have cp : ∀ n : Int, 0 ≤ n → n ≤ 1000 → CPow 10 n := fun n h1 h2 => ⟨h1, by omega, by decide⟩
  simp only [y__law_huge, vcS, vc, gt, st, oneK_1, nrK_d, pow_i, e7, e27, e13, e10, e20, List.getElem?_cons_zero, List.getElem?_cons_succ]
  refine ⟨cp 7 (by decide) (by decide), ?_⟩
  refine callO [.int 10000000] rfl fun F X hF => ⟨ds, _, rfl, rfl, hb, by decide, by decide, fun r1 ds1 a1 b1 c1 => hF _ _ ?_⟩
  simp only [oneK_1, nrK_d, mul_i, so]
  refine ⟨cp 27 (by decide) (by decide), mulOk_l (by omega) (by omega), cp 7 (by decide) (by decide), ?_⟩
  refine callO [.int 10000000] rfl fun F X hF => ⟨ds1, _, rfl, rfl, c1, by decide, by decide, fun r2 ds2 a2 b2 c2 => hF _ _ ?_⟩
  simp only [oneK_1, nrK_d, mul_i, so]
  refine ⟨cp 13 (by decide) (by decide), mulOk_l (by omega) (by omega), ?_⟩
  simp only [oneK_1, nrK_d, add_i]
  refine ⟨cp 7 (by decide) (by decide), ?_⟩
  refine callO [.int 10000000] rfl fun F X hF => ⟨ds2, _, rfl, rfl, c2, by decide, by decide, fun r3 ds3 a3 b3 c3 => hF _ _ ?_⟩
  simp only [oneK_1, nrK_d, add_i, so, gt, st, tosK_3, newL]
  refine ⟨cp 10 (by decide) (by decide), cp 20 (by decide) (by decide), (by decide : 3 ≤ sizeLine), ?_⟩
  refine callO [.lst [.int 1, .int (10 ^ 10), .int (10 ^ 20)]] rfl fun F X hF => ⟨ds3, [.int 1, .int (10 ^ 10), .int (10 ^ 20)], .inl ⟨rfl, rfl⟩, c3, by decide, by decide, fun x ds4 hx c4 => hF _ _ ?_⟩
  have hx' : ∃ v : Int, x = .int v ∧ 1 ≤ v ∧ v < 2 ^ 200 := by
    simp only [List.mem_cons, List.not_mem_nil, or_false] at hx
    rcases hx with rfl | rfl | rfl
    · exact ⟨1, rfl, by decide, by decide⟩
    · exact ⟨10 ^ 10, rfl, by decide, by decide⟩
    · exact ⟨10 ^ 20, rfl, by decide, by decide⟩
  obtain ⟨v, rfl, hv1, hv2⟩ := hx'
  simp only [oneK_1, nrK_d, div_i, so]
  have hs : 0 ≤ r1 * 10 ^ 27 + r2 * 10 ^ 13 + r3 ∧ r1 * 10 ^ 27 + r2 * 10 ^ 13 + r3 < 10 ^ 35 := by omega
  refine ⟨divOk_pos hv1 hv2, h _ _ (Int.fdiv_nonneg hs.1 (by omega)) ?_ c4⟩
  rw [Int.fdiv_eq_ediv_of_nonneg _ (by omega)]
  exact Int.lt_of_le_of_lt (Int.ediv_le_self _ hs.1) hs.2
theorem k_law_int : Keeps [] y__law_int N__law_int.length intZ := by
  rintro us O Q E ⟨d, rfl, rfl, hk, h⟩
  show vcS _ y__law_int E _ [some (.d d)] []
  obtain ⟨a1, a2, a3, a4, a5, a6, a7⟩ := isi_int
  obtain ⟨b1, b2, b3, b4, b5, b6, b7⟩ := isi_bool
  cases d <;> first | (cases hk; done) | (simp only [y__law_int, vcS, vc, gt, st, oneK_1, boolK_1, tyU, tyD, a1, a2, a3, a4, a5, a6, a7, b1, b2, b3, b4, b5, b6, b7, ex_some, true_and', false_and']; first | exact h | exact ⟨rfl, rfl, by decide, (fun z => by cases z), fun _ => h⟩ | exact ⟨fun _ => h, fun z => (by cases z)⟩ | exact ⟨fun z => (by cases z), fun _ => h⟩)
theorem k_is_any_number : Keeps [] y_is_any_number N_is_any_number.length intZ := by
  rintro us O Q E ⟨d, rfl, rfl, hk, h⟩
  show vcS _ y_is_any_number E _ [some (.d d)] []
  obtain ⟨a1, a2, a3, a4, a5, a6, a7⟩ := isi_int
  obtain ⟨b1, b2, b3, b4, b5, b6, b7⟩ := isi_bool
  cases d <;> first | (cases hk; done) | (simp only [y_is_any_number, vcS, vc, gt, st, oneK_1, boolK_1, tyU, tyD, a1, a2, a3, a4, a5, a6, a7, b1, b2, b3, b4, b5, b6, b7, ex_some, true_and', false_and']; first | exact h | exact ⟨rfl, rfl, by decide, (fun z => by cases z), fun _ => h⟩ | exact ⟨fun _ => h, fun z => (by cases z)⟩ | exact ⟨fun z => (by cases z), fun _ => h⟩)
theorem k_law_same (n : Nat) (S : ZSp) (hS : ∀ m, n = m + 1 → S = sameZ m) : Keeps [("_law_same", S)] y__law_same N__law_same.length (sameZ n) := by
  rintro us O Q E ⟨x, rfl, rfl, hx, h⟩
  show vcS _ y__law_same E _ [some (.d x), some (.d x), none, none] _
  obtain ⟨t1, t2, t3, t4, t5, t6, t7, t8, t9, t10, t11, t12, t13, t14⟩ := isi_tab
  have seq : ∀ (m : Nat) (ds : List D), n = m + 1 → ds.length ≤ 1000 → (∀ d ∈ ds, Pl m d) → ∀ F : List D → List DO → Prop, F (ds.map fun _ => .bl true) [] →
      compR (.tp (.cons (.nm 2) (.cons (.nm 3) .nil))) yesV (fun ρ O Q => vc [("_law_same", S)] (.call 0 (.cons (.var 2) (.cons (.var 3) .nil))) (fun _ _ => False) ρ O Q) [some (.d x), some (.d x), none, none] 0 (ds.map fun d => D.tup [d, d]) [] [] F := fun m ds hm hl hd F hF => by
    refine compR_map (fun _ => D.bl true) (Nat.le_refl 0) (ds.map fun d => D.tup [d, d]) (fun d hd' G hG => ?_) (by
      rw [List.map_map]
      exact hF)
    obtain ⟨e, he, rfl⟩ := List.mem_map.mp hd'
    simp only [bindT, bindTs, vc, gt, st, oneK_1, List.getElem?_cons_zero]
    refine callD0 [e, e] fun F X hF => ?_
    rw [hS m hm]
    exact ⟨e, rfl, rfl, hd e he, hF _ hG⟩
  have e2 : ∀ ds : List D, (ds.map fun _ => D.bl true) = (ds.map fun _ => true).map .bl := fun ds => by
    rw [List.map_map]
    rfl
  have e3 : ∀ ds : List D, (ds.map fun _ => true).all id = true := fun ds => by simp
  cases hx with
  | @lst m ds hl hd =>
    simp only [y__law_same, vcS, vc, gt, st, oneK_1, boolK_1, tyU, tyD, t1, t6, t7, ex_some, nrK_d, nrsK_1, brK_d, len_l, eq_i, wipeR, wipeR.rm, zip_self, Bool.false_eq_true, Bool.true_eq_false, false_implies, true_implies, true_and, and_true]
    refine ne_b ⟨(fun z => by cases z), fun _ => ne_b ⟨(fun z => by cases z), fun _ => ?_⟩⟩
    rw [decide_eq_true trivial]
    refine ⟨fun _ => ⟨_, rfl, by rw [List.length_map]; exact Nat.le_trans hl (by decide), seq m ds rfl hl hd _ ?_⟩, fun z => by cases z⟩
    simp only [newL, unb_0, oneK_1, nrsK_1]
    rw [e2]
    refine all_l ?_
    rw [e3]
    exact h
  | @tup m ds hl hd =>
    simp only [y__law_same, vcS, vc, gt, st, oneK_1, boolK_1, tyU, tyD, t2, t8, t9, ex_some, nrK_d, nrsK_1, brK_d, len_t, eq_i, wipeR, wipeR.rm, zip_self, Bool.false_eq_true, Bool.true_eq_false, false_implies, true_implies, true_and, and_true]
    refine ne_b ⟨(fun z => by cases z), fun _ => ne_b ⟨(fun z => by cases z), fun _ => ?_⟩⟩
    rw [decide_eq_true trivial]
    refine ⟨fun _ => ⟨_, rfl, by rw [List.length_map]; exact Nat.le_trans hl (by decide), seq m ds rfl hl hd _ ?_⟩, fun z => by cases z⟩
    simp only [newL, unb_0, oneK_1, nrsK_1]
    rw [e2]
    refine all_l ?_
    rw [e3]
    exact h
  | non =>
    simp only [y__law_same, vcS, vc, gt, st, oneK_1, boolK_1, tyU, tyD, t5, ex_some, nrK_d, is_nn]
    refine ⟨fun z => (by cases z), fun _ => ?_⟩
    refine ⟨fun _ => ⟨fun _ => ⟨fun _ => h, fun z => (by cases z)⟩, fun z => (by cases z)⟩, fun z => (by cases z)⟩
  | int i =>
    simp only [y__law_same, vcS, vc, gt, st, oneK_1, boolK_1, tyU, tyD, t3, t10, t12, t14, ex_some, nrK_d, is_in, eq_i, Bool.false_eq_true, Bool.true_eq_false, false_implies, true_implies, true_and, and_true]
    rw [decide_eq_true trivial]
    exact h
  | str i hi =>
    obtain ⟨u1, u2, u3, u4, u5⟩ := isi_str
    simp only [y__law_same, vcS, vc, gt, st, oneK_1, boolK_1, tyU, tyD, u1, u2, u3, u4, u5, ex_some, nrK_d, is_sn, eq_s, Bool.false_eq_true, Bool.true_eq_false, false_implies, true_implies, true_and, and_true]
    rw [decide_eq_true trivial]
    exact h
  | bl b =>
    simp only [y__law_same, vcS, vc, gt, st, oneK_1, boolK_1, tyU, tyD, t4, t11, t13, ex_some, nrK_d, is_bn, Bool.false_eq_true, Bool.true_eq_false, false_implies, true_implies, true_and, and_true]
    refine eq_b ?_
    rw [beq_self_eq_true]
    exact h
end Z

set_option Elab.async false
set_option linter.all false
set_option maxRecDepth 100000
set_option maxHeartbeats 4000000
namespace Z
open PySem PySem.Spec PyProof.Rows L2
theorem len_s {z : Str} {Q : D → Prop} : BF.op .len [.str z] Q = (z.length ≤ sizeLine ∧ Q (.int z.length)) := rfl
theorem sjn_ff {x y : Str} {Q : Str → Prop} : sjnD false x (.d (.str y)) Q = (x.length ≤ sizeLine ∧ Q (Txt.stripChars x y)) := rfl
def isStr : D → Bool
  | .str _ => true
  | _ => false
theorem isi_s : isiB "int" ["str"] = some false ∧ isiB "bool" ["str"] = some false ∧ isiB "NoneType" ["str"] = some false ∧ isiB "str" ["str"] = some true ∧ isiB "tuple" ["str"] = some false ∧ isiB "list" ["str"] = some false ∧ isiB "dict" ["str"] = some false := by decide +kernel
theorem str_walk {Γ : List (Fk × ZSp)} {E : ZX} {ρ : List (Option U)} {d : D} {O : List DO} {i : Nat} (hg : gt ρ i = some (.d d)) (hk : Knd d = true) {F : ZQ} (h : F [.d (.bl (isStr d))] O) : vc Γ (.isi (.var i) ["str"]) E ρ O F := by
  obtain ⟨a1, a2, a3, a4, a5, a6, a7⟩ := isi_s
  simp -implicitDefEqProofs only [vc, hg, oneK_1]
  cases d <;> first | (cases hk; done) | (simp -implicitDefEqProofs only [tyU, tyD, a1, a2, a3, a4, a5, a6, a7, ex_some]; first | exact h | exact ⟨_, rfl, h⟩ | exact ⟨rfl, rfl, by decide, h⟩)
theorem in_s {c : Nat} {z : Str} {Q : Bool → Prop} (h : Q (decide (c ∈ z.cps.toList))) : cmpD .In (.str ⟨#[c]⟩) (.str z) Q := ⟨c, rfl, h⟩
theorem allin_walk {Γ : List (Fk × ZSp)} {E : ZX} {ρ : List (Option U)} {O : List DO} {x y : Str} {i j : Nat} {F : ZQ} (hi : gt ρ i = some (.d (.str x))) (hj : ∀ u, gt (st (wipeR ρ [j]) j u) j = some u) (hl : x.length ≤ 40000) (hu : unb O O = O)
    (h : F [.d (.bl (allIn y x))] O) : vc Γ (.blt .all (.cons (.comp false [j] (.nm j) (.seq (.var i)) .yes (.cmp .In (.var j) (.str y))) .nil)) E ρ O F := by
  simp -implicitDefEqProofs only [vc, hi, oneK_1, brK_d]
  refine ⟨_, rfl, by rw [chD, List.length_map, sizeLine_eq]; exact Nat.le_trans hl (by decide), ?_⟩
  refine compR_map (fun d => match d with
    | .str z => .bl (decide (z.cps.toList.headD 0 ∈ y.cps.toList))
    | _ => .non) (Nat.le_refl _) _ (fun d hd G hG => ?_) ?_
  · obtain ⟨c, hc, rfl⟩ := List.mem_map.mp hd
    simp -implicitDefEqProofs only [bindT, vc, hj, oneK_1, nrK_d]
    exact in_s hG
  · simp -implicitDefEqProofs only [newL, oneK_1, nrsK_1, hu]
    have e : (chD x).map (fun d => match d with
      | .str z => D.bl (decide (z.cps.toList.headD 0 ∈ y.cps.toList))
      | _ => .non) = (x.cps.toList.map fun c => decide (c ∈ y.cps.toList)).map .bl := by
      unfold chD
      rw [List.map_map, List.map_map]
      exact List.map_congr_left fun _ _ => rfl
    rw [e]
    refine all_l ?_
    have e2 : ((x.cps.toList.map fun c => decide (c ∈ y.cps.toList)).all id) = allIn y x := by
      unfold allIn
      rw [List.all_map]
      rfl
    rw [e2]
    exact h
def oneZ (f : D → Bool) : ZSp := fun us O Q _ => ∃ d, us = [.d d] ∧ O = [] ∧ KdS d ∧ Q (.d (.bl (f d))) []
theorem sl5 {x : Str} (h : x.length ≤ 40000) : x.length ≤ sizeLine := Nat.le_trans h (by decide)
theorem dec2 {p q : Prop} [Decidable p] [Decidable q] (h : p) (k : q) (b : Bool) : (decide p && decide q && b) = b := by rw [decide_eq_true h, decide_eq_true k]; rfl
theorem dec1 {p q : Prop} [Decidable p] [Decidable q] (h : p) (k : ¬ q) (b : Bool) : (decide p && decide q && b) = false := by rw [decide_eq_true h, decide_eq_false k]; rfl
theorem dec0 {p q : Prop} [Decidable p] [Decidable q] (h : ¬ p) (b : Bool) : (decide p && decide q && b) = false := by rw [decide_eq_false h]; rfl
theorem vc_and {Γ : List (Fk × ZSp)} {a b : Y} {E : ZX} {ρ : List (Option U)} {O : List DO} {Q : ZQ} : vc Γ (.and a b) E ρ O Q = vc Γ a E ρ O fun us O1 => boolK us fun t => (t = true → vc Γ b E ρ O1 Q) ∧ (t = false → Q [.d (.bl false)] O1) := rfl
theorem vc_one {Γ : List (Fk × ZSp)} {a : Y} {E : ZX} {ρ : List (Option U)} {O : List DO} {Q : ZQ} : vc Γ (.one a) E ρ O Q = vc Γ a E ρ O Q := rfl
theorem gs_self {ρ : List (Option U)} {j : Nat} {u : U} (h : j < ρ.length) : gt (st ρ j u) j = some u := by
  induction ρ generalizing j with
  | nil => cases h
  | cons a r ih =>
    cases j with
    | zero => rfl
    | succ j => exact ih (Nat.lt_of_succ_lt_succ h)
theorem len_walk {Γ : List (Fk × ZSp)} {E : ZX} {ρ : List (Option U)} {O : List DO} {x : Str} {i : Nat} {n : Int} {F : ZQ} (hi : gt ρ i = some (.d (.str x))) (hl : x.length ≤ 40000) (c : Y) (hc : ∀ Q : ZQ, vc Γ c E ρ O Q = Q [.d (.int n)] O)
    (h : F [.d (.bl (decide (1 ≤ x.length) && decide ((x.length : Int) ≤ n)))] O) : vc Γ (.chain .LtE .LtE (.int 1) (.blt .len (.cons (.var i) .nil)) c) E ρ O F := by
  simp -implicitDefEqProofs only [vc, hi, hc, oneK_1, nrsK_1, nrK_d, len_s, le_i, boolK_1]
  refine ⟨sl5 hl, way (fun h1 => ?_) fun h1 => ?_⟩
  · rw [decide_eq_true (by omega)] at h
    exact h
  · rw [decide_eq_false (by omega)] at h
    exact h
theorem strip_walk {Γ : List (Fk × ZSp)} {E : ZX} {ρ : List (Option U)} {O : List DO} {x y : Str} {i : Nat} {F : ZQ} (hi : gt ρ i = some (.d (.str x))) (hl : x.length ≤ 40000) (c : Y) (hc : ∀ Q : ZQ, vc Γ c E ρ O Q = Q [.d (.str y)] O)
    (h : F [.d (.bl (allIn y x))] O) : vc Γ (.cmp .Eq (.sjn false (.var i) c) (.str "")) E ρ O F := by
  simp -implicitDefEqProofs only [vc, hi, hc, oneK_1, nrK_d]
  refine ⟨x, rfl, sl5 hl, ?_⟩
  dsimp only
  rw [eq_s, strip_nil]
  exact h
theorem three (a : Bool) (b : Bool) {Q : D → Prop} (h : Q (.bl (a && b))) : (a = true → Q (.bl b)) ∧ (a = false → Q (.bl false)) := by
  cases a with
  | true => exact ⟨fun _ => h, (fun z => by cases z)⟩
  | false => exact ⟨(fun z => by cases z), fun _ => h⟩
theorem three' (a : Bool) (b : Bool) {Q : D → Prop} {R : Prop} (h : Q (.bl (a && b))) (r : a = true → Q (.bl b) → R) : (a = true → R) ∧ (a = false → Q (.bl false)) := by
  cases a with
  | true => exact ⟨fun _ => r rfl h, (fun z => by cases z)⟩
  | false => exact ⟨(fun z => by cases z), fun _ => h⟩
theorem k_is_name : Keeps [] y_is_name N_is_name.length (oneZ nmB) := by
  rintro us O Q E ⟨d, rfl, rfl, ⟨hk, hl⟩, h⟩
  show vcS _ y_is_name E _ [some (.d d)] []
  unfold y_is_name
  rw [vs_seq, vs_ret, vc_and]
  refine str_walk (i := 0) (d := d) rfl hk ?_
  rw [boolK_1]
  cases d with
  | str x =>
    have hl := hl x rfl
    refine ⟨fun _ => ?_, (fun z => by cases z)⟩
    have h : Q (.d (.bl (decide (1 ≤ x.length) && decide (x.length ≤ 6) && allIn ltS x))) [] := h
    have e : decide ((x.length : Int) ≤ 6) = decide (x.length ≤ 6) := by
      congr 1
      apply propext
      omega
    rw [vc_and]
    refine len_walk (i := 0) (x := x) (n := 6) rfl hl _ (fun _ => rfl) ?_
    rw [boolK_1, e]
    refine three' _ (allIn ltS x) (Q := fun d => Q (.d d) []) h fun _ h => ?_
    rw [vc_one]
    refine strip_walk (i := 0) (x := x) (y := ltS) rfl hl _ (fun _ => rfl) ?_
    exact h
  | _ => exact ⟨(fun z => by cases z), fun _ => h⟩
theorem k_is_kind : Keeps [] y_is_kind N_is_kind.length (oneZ kdB) := by
  rintro us O Q E ⟨d, rfl, rfl, ⟨hk, hl⟩, h⟩
  show vcS _ y_is_kind E _ [some (.d d)] []
  unfold y_is_kind
  rw [vs_seq, vs_ret, vc_and]
  refine str_walk (i := 0) (d := d) rfl hk ?_
  rw [boolK_1]
  cases d with
  | str x =>
    have hl := hl x rfl
    refine ⟨fun _ => ?_, (fun z => by cases z)⟩
    have h : Q (.d (.bl (decide (1 ≤ x.length) && decide (x.length ≤ 2000) && allIn sgS x))) [] := h
    have e : decide ((x.length : Int) ≤ 2000) = decide (x.length ≤ 2000) := by
      congr 1
      apply propext
      omega
    rw [vc_and]
    refine len_walk (i := 0) (x := x) (n := 2000) rfl hl _ (fun _ => rfl) ?_
    rw [boolK_1, e]
    refine three' _ (allIn sgS x) (Q := fun d => Q (.d d) []) h fun _ h => ?_
    rw [vc_one]
    refine strip_walk (i := 0) (x := x) (y := sgS) rfl hl _ (fun _ => rfl) ?_
    exact h
  | _ => exact ⟨(fun z => by cases z), fun _ => h⟩
theorem k__law_is_name : Keeps [] y__law_is_name N__law_is_name.length (oneZ nmB) := by
  rintro us O Q E ⟨d, rfl, rfl, ⟨hk, hl⟩, h⟩
  show vcS _ y__law_is_name E _ [some (.d d), none] []
  unfold y__law_is_name
  rw [vs_seq, vs_ret, vc_and]
  refine str_walk (i := 0) (d := d) rfl hk ?_
  rw [boolK_1]
  cases d with
  | str x =>
    have hl := hl x rfl
    refine ⟨fun _ => ?_, (fun z => by cases z)⟩
    have h : Q (.d (.bl (decide (1 ≤ x.length) && decide (x.length ≤ 6) && allIn ltS x))) [] := h
    have e : decide ((x.length : Int) ≤ 6) = decide (x.length ≤ 6) := by
      congr 1
      apply propext
      omega
    rw [vc_and]
    refine len_walk (i := 0) (x := x) (n := 6) rfl hl _ (fun _ => rfl) ?_
    rw [boolK_1, e]
    refine three' _ (allIn ltS x) (Q := fun d => Q (.d d) []) h fun _ h => ?_
    rw [vc_one]
    refine allin_walk (i := 0) (j := 1) (x := x) rfl (fun u => rfl) hl rfl ?_
    exact h
  | _ => exact ⟨(fun z => by cases z), fun _ => h⟩
theorem k__law_is_kind : Keeps [] y__law_is_kind N__law_is_kind.length (oneZ kdB) := by
  rintro us O Q E ⟨d, rfl, rfl, ⟨hk, hl⟩, h⟩
  show vcS _ y__law_is_kind E _ [some (.d d), none] []
  unfold y__law_is_kind
  rw [vs_seq, vs_ret, vc_and]
  refine str_walk (i := 0) (d := d) rfl hk ?_
  rw [boolK_1]
  cases d with
  | str x =>
    have hl := hl x rfl
    refine ⟨fun _ => ?_, (fun z => by cases z)⟩
    have h : Q (.d (.bl (decide (1 ≤ x.length) && decide (x.length ≤ 2000) && allIn sgS x))) [] := h
    have e : decide ((x.length : Int) ≤ 2000) = decide (x.length ≤ 2000) := by
      congr 1
      apply propext
      omega
    rw [vc_and]
    refine len_walk (i := 0) (x := x) (n := 2000) rfl hl _ (fun _ => rfl) ?_
    rw [boolK_1, e]
    refine three' _ (allIn sgS x) (Q := fun d => Q (.d d) []) h fun _ h => ?_
    rw [vc_one]
    refine allin_walk (i := 0) (j := 1) (x := x) rfl (fun u => rfl) hl rfl ?_
    exact h
  | _ => exact ⟨(fun z => by cases z), fun _ => h⟩
theorem k_is_plain : Keeps [("is_kind", oneZ kdB)] y_is_plain N_is_plain.length (oneZ plB) := by
  rintro us O Q E ⟨d, rfl, rfl, hk, h⟩
  show vcS _ y_is_plain E _ [some (.d d)] []
  simp -implicitDefEqProofs only [y_is_plain, vs_seq, vs_ret, vc, gt, oneK_1, List.getElem?_cons_zero]
  refine callD0 [d] fun F X hF => ⟨d, rfl, rfl, hk, hF _ ?_⟩
  rw [boolK_1]
  cases d with
  | str x =>
    have hl := hk.2 x rfl
    refine three' _ (allIn ltS x) (Q := fun d => Q (.d d) []) h fun _ h => ?_
    simp -implicitDefEqProofs only [nrK_d]
    refine ⟨x, rfl, sl5 hl, ?_⟩
    dsimp only
    rw [eq_s, strip_nil]
    exact h
  | _ => exact ⟨(fun z => by cases z), fun _ => h⟩
/-- a whole number between two -/
def inB (d : D) (a b : Int) : Bool := match d with
  | .int i => decide (a ≤ i) && decide (i ≤ b)
  | _ => false
def numZ : ZSp := fun us O Q _ => ∃ (d : D) (a b : Int), us = [.d d, .d (.int a), .d (.int b)] ∧ O = [] ∧ Knd d = true ∧ Q (.d (.bl (inB d a b))) []
theorem k_is_number : Keeps [("is_any_number", intZ)] y_is_number N_is_number.length numZ := by
  rintro us O Q E ⟨d, a, b, rfl, rfl, hk, h⟩
  show vcS _ y_is_number E _ [some (.d d), some (.d (.int a)), some (.d (.int b))] []
  simp -implicitDefEqProofs only [y_is_number, vs_seq, vs_ret, vc, gt, oneK_1, List.getElem?_cons_zero]
  refine callD0 [d] fun F X hF => ⟨d, rfl, rfl, hk, hF _ ?_⟩
  rw [boolK_1]
  cases d with
  | int i =>
    refine ⟨fun _ => ?_, (fun z => by cases z)⟩
    simp -implicitDefEqProofs only [nrK_d, le_i, boolK_1]
    refine three' _ (decide (i ≤ b)) (Q := fun d => Q (.d d) []) h fun _ h => ?_
    exact h
  | _ => exact ⟨(fun z => by cases z), fun _ => h⟩
end Z

set_option Elab.async false
set_option linter.all false
set_option maxRecDepth 100000
set_option maxHeartbeats 4000000
namespace Z
open PySem PySem.Spec PyProof.Rows L2
/-! ### one of some, also a text's signs -/
def pickSZ : ZSp := fun us O Q _ => ∃ (ds : List D) (z : Str), us = [.o 0, .d (.str z)] ∧ O = [.lst ds] ∧ BagOk ds ∧ 1 ≤ z.length ∧ z.length ≤ 1000 ∧ ∀ c ds', c ∈ z.cps.toList → BagOk ds' → Q (.d (.str ⟨#[c]⟩)) [.lst ds']
def pickJ : ZSp := fun us O Q E => pickZ us O Q E ∨ pickSZ us O Q E
theorem ix_s {z : Str} {i : Int} {Q : D → Prop} : ixD (.str z) (.int i) Q = ∃ c, z.length ≤ sizeLine ∧ atI z.cps.toList i = some c ∧ Q (.str ⟨#[c]⟩) := rfl
theorem k_law_pickJ : Keeps [("_law_draw", drawZ)] y__law_pick N__law_pick.length pickJ := by
  rintro us O Q E (h | ⟨ds, z, rfl, rfl, hb, h1, h2, h⟩)
  · exact k_law_pick us O Q E h
  · show vcS _ y__law_pick E _ [some (.o 0), some (.d (.str z))] _
    simp -implicitDefEqProofs only [y__law_pick, vcS, vc, gt, st, oneK_1, nrsK_1, len_s, List.getElem?_cons_zero]
    refine ⟨sl5 (by omega), ?_⟩
    refine callO [.int z.length] rfl fun F X hF => ⟨ds, z.length, rfl, rfl, hb, by omega, by omega, fun r ds' h3 h4 h5 => hF _ _ ?_⟩
    simp -implicitDefEqProofs only [oneK_1, nrK_d, ix_s]
    obtain ⟨j, rfl⟩ := Int.eq_ofNat_of_zero_le h3
    have hz : z.length = z.cps.toList.length := by simp [Str.length]
    have hj : j < z.cps.toList.length := by omega
    exact ⟨z.cps.toList[j], sl5 (by omega), at_nat hj, h _ _ (List.getElem_mem hj) h5⟩
/-- the texts of the signs, glued -/
theorem join_1 (cs : List Nat) : (Txt.join ("" : Str) (cs.map fun c => (⟨#[c]⟩ : Str))).cps.toList = cs := by
  show (Builtin.Str.glued _ _).cps.toList = cs
  unfold Builtin.Str.glued
  cases cs with
  | nil => rfl
  | cons a r =>
    have key : ∀ (l : List Nat) (b : Array Nat), ((l.map fun c => (⟨#[c]⟩ : Str)).foldl (fun acc p => acc ++ ("" : Str).cps ++ p.cps) b).toList = b.toList ++ l := by
      intro l
      induction l with
      | nil => intro b; simp
      | cons x l ih =>
        intro b
        rw [List.map_cons, List.foldl_cons, ih]
        have e : ("" : Str).cps = #[] := rfl
        rw [e]
        simp
    exact key r #[a]
theorem len_list (x : Str) : x.length = x.cps.toList.length := by simp [Str.length]
/-- a word of plain letters -/
def Wd (n : Nat) (x : Str) : Prop := 1 ≤ x.length ∧ x.length ≤ n ∧ allIn ltS x = true
def wordZ : ZSp := fun us O Q _ => ∃ (ds : List D) (n : Nat), us = [.o 0, .d (.int n)] ∧ O = [.lst ds] ∧ BagOk ds ∧ 1 ≤ n ∧ n ≤ 100 ∧ ∀ x ds', Wd n x → BagOk ds' → Q (.d (.str x)) [.lst ds']
theorem sum_ones : ∀ cs : List Nat, ((cs.map fun c => (⟨#[c]⟩ : Str)).map (·.length)).sum = cs.length
  | [] => rfl
  | c :: cs => by
    rw [List.map_cons, List.map_cons, List.sum_cons, sum_ones cs, List.length_cons]
    show 1 + _ = _
    omega
theorem k_law_word : Keeps [("_law_draw", drawZ), ("_law_pick", pickJ)] y__law_word N__law_word.length wordZ := by
  rintro us O Q E ⟨ds, n, rfl, rfl, hb, h1, h2, h⟩
  show vcS _ y__law_word E _ [some (.o 0), some (.d (.int n)), none, none] _
  simp -implicitDefEqProofs only [y__law_word, vcS, vc, gt, st, oneK_1, nrK_d, List.getElem?_cons_zero, List.getElem?_cons_succ]
  refine ⟨_, rfl, ?_⟩
  refine callO [.int n] rfl fun F X hF => ⟨ds, n, rfl, rfl, hb, by omega, by omega, fun r ds1 a1 b1 c1 => hF _ _ ?_⟩
  simp -implicitDefEqProofs only [oneK_1, nrK_d, add_i, so]
  refine ⟨⟨by omega, by omega⟩, _, rfl, by rw [List.length_map, List.length_range, sizeLine_eq]; omega, ?_⟩
  simp -implicitDefEqProofs only [wipeR, wipeR.rm]
  refine compR_inv (fun i acc O => ∃ (cs : List Nat) (ds' : List D), acc = cs.map (fun c => D.str ⟨#[c]⟩) ∧ cs.length = i ∧ (∀ c ∈ cs, c ∈ ltS.cps.toList) ∧ O = [.lst ds'] ∧ BagOk ds') _ [] _ 0 ⟨[], ds1, rfl, rfl, (fun c hc => by cases hc), rfl, c1⟩ ?_ ?_
  · rintro j d acc O e ⟨cs, ds', rfl, hl, hc, rfl, hb'⟩ F hF
    simp -implicitDefEqProofs only [bindT, gt, st, oneK_1]
    refine callO [.str ltS] rfl fun F' X hF' => .inr ⟨ds', ltS, rfl, rfl, hb', by decide, by decide, fun c ds2 hm hb2 => hF' _ _ (hF _ _ ⟨cs ++ [c], ds2, ?_, ?_, ?_, rfl, hb2⟩)⟩
    · rw [List.map_append]
      rfl
    · rw [List.length_append, hl]
      rfl
    · intro a ha
      rcases List.mem_append.mp ha with m | m
      · exact hc a m
      · rw [List.mem_singleton.mp m]; exact hm
  · rintro acc O ⟨cs, ds', rfl, hl, hc, rfl, hb'⟩
    rw [List.length_map, List.length_range, Nat.zero_add] at hl
    have eu : unb [.lst ds] [.lst ds'] = [.lst ds'] := rfl
    simp -implicitDefEqProofs only [newL, oneK_1, eu]
    show ∃ ys : List Str, _ ∧ _ ∧ _
    refine ⟨cs.map fun c => ⟨#[c]⟩, by rw [List.map_map]; rfl, ?_, ?_⟩
    · rw [sum_ones, List.length_map]
      show cs.length + cs.length * 0 ≤ _
      omega
    · dsimp only
      refine h _ _ ⟨?_, ?_, ?_⟩ hb'
      · rw [len_list, join_1]
        omega
      · rw [len_list, join_1]
        omega
      · unfold allIn
        rw [join_1, List.all_eq_true]
        exact fun c hc' => decide_eq_true (hc c hc')
end Z

set_option Elab.async false
set_option linter.all false
set_option maxRecDepth 100000
set_option maxHeartbeats 4000000
namespace Z
open PySem PySem.Spec PyProof.Rows L2
def numberZ : ZSp := fun us O Q _ => ∃ (ds : List D) (w : Int), us = [.o 0, .d (.int w)] ∧ O = [.lst ds] ∧ BagOk ds ∧ 0 ≤ w ∧ w < 1000 ∧ ∀ v ds', Bd 117 v → BagOk ds' → Q (.d (.int v)) [.lst ds']
theorem k_law_number : Keeps [("_law_draw", drawZ), ("_law_huge", hugeZ), ("_law_pick", pickJ)] y__law_number N__law_number.length numberZ := by
  rintro us O Q E ⟨ds, w, rfl, rfl, hb, h0, h1, h⟩
  show vcS _ y__law_number E _ [some (.o 0), some (.d (.int w))] _
  simp -implicitDefEqProofs only [y__law_number, vcS, vc, gt, st, oneK_1, nrK_d, tosK_2, newL, mul_i, add_i, List.getElem?_cons_zero, List.getElem?_cons_succ]
  refine callO [.int 13] rfl fun F X hF => ⟨ds, _, rfl, rfl, hb, by decide, by decide, fun r ds1 a1 b1 c1 => hF _ _ ?_⟩
  simp -implicitDefEqProofs only [oneK_1, nrK_d, eq_i, boolK_1, so]
  refine way (fun _ => ?_) fun _ => ?_
  · refine callO [] rfl fun F X hF => ⟨ds1, rfl, rfl, c1, fun v ds2 a2 b2 c2 => hF _ _ ?_⟩
    simp -implicitDefEqProofs only [oneK_1, so]
    refine ⟨(by decide : 2 ≤ sizeLine), ?_⟩
    refine callO [.lst [.int 1, .int (-1)]] rfl fun F X hF => .inl ⟨ds2, [.int 1, .int (-1)], .inl ⟨rfl, rfl⟩, c2, by decide, by decide, fun x ds3 hx c3 => hF _ _ ?_⟩
    have hv : Bd 117 v := by
      unfold Bd
      have : (2 : Nat) ^ 117 = 166153499473114484112975882535043072 := by decide
      omega
    have hx' : ∃ s : Int, x = .int s ∧ (s = 1 ∨ s = -1) := by
      simp only [List.mem_cons, List.not_mem_nil, or_false] at hx
      rcases hx with rfl | rfl
      · exact ⟨1, rfl, .inl rfl⟩
      · exact ⟨-1, rfl, .inr rfl⟩
    obtain ⟨s, rfl, hs⟩ := hx'
    simp -implicitDefEqProofs only [oneK_1, nrK_d, mul_i, so]
    refine ⟨hv.ok (b := 2) (by unfold Bd; omega) (by decide), h _ _ ?_ c3⟩
    rcases hs with rfl | rfl
    · rw [Int.mul_one]; exact hv
    · rw [Int.mul_neg, Int.mul_one]; exact hv.neg
  · refine ⟨mulOk_l (by decide) (by decide), ?_⟩
    refine callO [.int (2 * w + 1)] rfl fun F X hF => ⟨ds1, _, rfl, rfl, c1, by omega, by omega, fun r2 ds2 a2 b2 c2 => hF _ _ ?_⟩
    simp -implicitDefEqProofs only [oneK_1, nrK_d, sub_i, so]
    exact h _ _ (Bd.mono (a := 10) (by unfold Bd; omega) (by decide)) c2
theorem sz {n : Nat} (h : n ≤ 60) : n ≤ sizeLine := Nat.le_trans h (by decide)
def kdsB (d : D) : Bool := Knd d && match d with
  | .str x => x.length.ble 40000
  | _ => true
theorem kds_of {d : D} (h : kdsB d = true) : KdS d := by
  unfold kdsB at h
  rw [Bool.and_eq_true] at h
  refine ⟨h.1, fun x e => ?_⟩
  subst e
  exact Nat.le_of_ble_eq_true h.2
theorem kdsAll {xs : List D} (h : xs.all kdsB = true) {x : D} (m : x ∈ xs) : KdS x := kds_of (List.all_eq_true.mp h x m)
theorem kds_str {x : Str} (h : x.length ≤ 40000) : KdS (.str x) := ⟨rfl, fun y e => by cases e; exact h⟩
/-- anything -/
def anyZ : ZSp := fun us O Q _ => ∃ ds, us = [.o 0] ∧ O = [.lst ds] ∧ BagOk ds ∧ ∀ x ds', KdS x → BagOk ds' → Q (.d x) [.lst ds']
theorem k_law_odd : Keeps [("_law_pick", pickJ), ("_law_draw", drawZ)] y__law_odd N__law_odd.length anyZ := by
  rintro us O Q E ⟨ds, rfl, rfl, hb, h⟩
  show vcS _ y__law_odd E _ [some (.o 0), none, none] _
  simp -implicitDefEqProofs only [y__law_odd, vcS, vc, gt, st, oneK_1, nrK_d, List.getElem?_cons_zero, List.getElem?_cons_succ]
  refine callO [.int 5] rfl fun F X hF => ⟨ds, _, rfl, rfl, hb, by decide, by decide, fun r ds1 a1 b1 c1 => hF _ _ ?_⟩
  simp -implicitDefEqProofs only [oneK_1, nrK_d, sub_i, so, tosK_0, tosK_1, tosK_2, newL, toK_d, pow_i, tosK, toDs_d, toDs_nil, Option.map_some]
  iterate 15 refine ⟨sz (Nat.le_of_ble_eq_true rfl), ?_⟩
  refine ⟨⟨by decide, by decide, by decide⟩, sz (Nat.le_of_ble_eq_true rfl), ?_⟩
  refine callO [.lst _] rfl fun F X hF => .inl ⟨ds1, _, .inl ⟨rfl, rfl⟩, c1, Nat.le_of_ble_eq_true rfl, Nat.lt_of_le_of_lt (Nat.le_of_ble_eq_true rfl : _ ≤ 60) (by decide), fun x ds2 hx c2 => hF _ _ ?_⟩
  simp -implicitDefEqProofs only [oneK_1, so]
  exact h _ _ (kdsAll (by rfl) hx) c2
end Z

set_option Elab.async false
set_option linter.all false
set_option maxRecDepth 100000
set_option maxHeartbeats 4000000
namespace Z
open PySem PySem.Spec PyProof.Rows L2
theorem sl6 {n : Nat} (h : n ≤ 40000) : n ≤ sizeLine := Nat.le_trans h (by decide)
theorem sl_s {z : Str} {lo hi : Option Int} {Q : D → Prop} : slD (.str z) lo hi Q = (z.length ≤ sizeLine ∧ Q (.str (cutS z lo hi))) := rfl
theorem add_s {a b : Str} {Q : D → Prop} : binD .Add (.str a) (.str b) Q = (a.length + b.length ≤ sizeLine ∧ Q (.str (a ++ b))) := rfl
theorem mul_s {x : Str} {k : Int} {Q : D → Prop} : binD .Mult (.str x) (.int k) Q = ((2 ≤ k ∧ k ≤ 4000 ∧ 0 < x.length ∧ x.length ≤ 100) ∧ Q (.str ⟨(List.replicate k.toNat x.cps).foldl (· ++ ·) #[]⟩)) := rfl
theorem rep_len (x : Str) (m : Nat) : (⟨(List.replicate m x.cps).foldl (· ++ ·) #[]⟩ : Str).length = m * x.length := by
  have key : ∀ (m : Nat) (b : Array Nat), ((List.replicate m x.cps).foldl (· ++ ·) b).size = b.size + m * x.cps.size := fun m => by
    induction m with
    | zero => intro b; simp
    | succ m ih =>
      intro b
      rw [List.replicate_succ, List.foldl_cons, ih, Array.size_append, Nat.succ_mul]
      omega
  have := key m #[]
  show ((List.replicate m x.cps).foldl (· ++ ·) #[]).size = _
  rw [this]
  show 0 + _ = m * x.cps.size
  omega
theorem list_s {z : Str} {Q : D → Prop} : BF.op .list [.str z] Q = (z.length ≤ 1000 ∧ Q (.lst (chD z))) := rfl
theorem tuple_s {z : Str} {Q : D → Prop} : BF.op .tuple [.str z] Q = (z.length ≤ 1000 ∧ Q (.tup (chD z))) := rfl
theorem partK0 {k : Option Int → Prop} : partK [] k = k none := rfl
theorem partK1 {i : Int} {k : Option Int → Prop} : partK [.d (.int i)] k = k (some i) := rfl
theorem rd_dck_eq {Γ : List (Fk × ZSp)} {x : Str} {d : D} {O : List DO} {E : ZX} {Q : ZQ} : Op2.rd Γ .dck (.d (.str x)) (.d d) O E Q = Q [.d (.dct [.inr x] [d])] O := by
  have e : Op2.rd Γ .dck (.d (.str x)) (.d d) O E Q = toK O (.d d) fun d => Q [.d (.dct [.inr x] [d])] O := rfl
  rw [e, toK_d]
theorem k_law_thing : Keeps [("_law_odd", anyZ), ("_law_pick", pickJ), ("_law_draw", drawZ), ("_law_word", wordZ)] y__law_thing N__law_thing.length anyZ := by
  rintro us O Q E ⟨ds, rfl, rfl, hb, h⟩
  show vcS _ y__law_thing E _ [some (.o 0), none, none, none, none, none, none, none] _
  unfold y__law_thing
  rw [vs_seq, vs_par]
  simp -implicitDefEqProofs only [vc, gt, oneK_1, List.getElem?_cons_zero, List.getElem?_cons_succ]
  refine callO [.int 9] rfl fun F X hF => ⟨ds, 9, rfl, rfl, hb, by decide, by decide, fun wy ds1 w0 w1 c1 => hF _ _ ?_⟩
  simp -implicitDefEqProofs only [oneK_1, so]
  refine callO [.int 8] rfl fun F X hF => ⟨ds1, 8, rfl, rfl, c1, by decide, by decide, fun x ds2 hx c2 => hF _ _ ?_⟩
  simp -implicitDefEqProofs only [oneK_1, so, st]
  have hx1 := hx.1
  have hx2 := hx.2.1
  have sx : x.length ≤ sizeLine := sl5 (by omega)
  rw [vs_seq, vs_set]
  simp -implicitDefEqProofs only [vc, gt, oneK_1, nrsK_1, nrK_d, len_s, add_i, List.getElem?_cons_zero, List.getElem?_cons_succ]
  refine ⟨sx, ?_⟩
  refine callO [.int (x.length + 1)] rfl fun F X hF => ⟨ds2, _, rfl, rfl, c2, by omega, by omega, fun spot ds3 s0 s1 c3 => hF _ _ ?_⟩
  simp -implicitDefEqProofs only [oneK_1, so, st]
  have cl : ∀ (z : Str) (lo hi : Option Int), (cutS z lo hi).length ≤ z.length := cutS_length
  rw [vs_seq, vs_ite]
  simp -implicitDefEqProofs only [vc, gt, oneK_1, nrK_d, lt_i, boolK_1]
  refine way (fun _ => ?_) fun _ => ?_
  · rw [vs_seq, vs_ret]
    simp -implicitDefEqProofs only [vc, gt, oneK_1, nrK_d, nrsK_1, eq_i, boolK_1, len_s, add_i, partK0, List.getElem?_cons_zero, List.getElem?_cons_succ]
    refine way (fun _ => ⟨sx, ?_⟩) fun _ => h _ _ (kds_str (by omega)) c3
    refine callO [.int (x.length + 1)] rfl fun F X hF => ⟨ds3, _, rfl, rfl, c3, by omega, by omega, fun e ds4 e0 e1 c4 => hF _ _ ?_⟩
    simp -implicitDefEqProofs only [oneK_1, so, partK1, nrK_d, sl_s]
    have := cl x none (some e)
    exact ⟨sx, h _ _ (kds_str (by omega)) c4⟩
  rw [vs_nil]
  dsimp only
  rw [vs_seq, vs_ite]
  simp -implicitDefEqProofs only [vc, gt, oneK_1, nrK_d, lt_i, boolK_1]
  refine way (fun _ => ?_) fun _ => ?_
  · rw [vs_seq, vs_set]
    simp -implicitDefEqProofs only [vc, gt, oneK_1, List.getElem?_cons_zero, List.getElem?_cons_succ]
    refine callO [.str _] rfl fun F X hF => .inr ⟨ds3, _, rfl, rfl, c3, by decide, by decide, fun c ds4 hm c4 => hF _ _ ?_⟩
    simp -implicitDefEqProofs only [oneK_1, so, st]
    rw [vs_seq, vs_ret]
    simp -implicitDefEqProofs only [vc, gt, oneK_1, nrK_d, partK0, partK1, sl_s, add_s, List.getElem?_cons_zero, List.getElem?_cons_succ]
    have h1 := cl x none (some spot)
    have l1 : ((⟨#[c]⟩ : Str)).length = 1 := rfl
    refine ⟨sx, sl6 (by rw [l1]; omega), ?_⟩
    refine callO [.int 2] rfl fun F X hF => ⟨ds4, 2, rfl, rfl, c4, by decide, by decide, fun e ds5 e0 e1 c5 => hF _ _ ?_⟩
    simp -implicitDefEqProofs only [oneK_1, so, nrK_d, add_i, partK0, partK1, sl_s, add_s, str_app_len]
    have h2 := cl x (some (spot + e)) none
    refine ⟨sx, sl6 (by rw [l1]; omega), h _ _ (kds_str (by rw [str_app_len, str_app_len, l1]; omega)) c5⟩
  rw [vs_nil]
  dsimp only
  rw [vs_seq, vs_ite]
  simp -implicitDefEqProofs only [vc, gt, oneK_1, nrK_d, eq_i, boolK_1]
  refine way (fun _ => ?_) fun _ => ?_
  · rw [vs_seq, vs_ret]
    simp -implicitDefEqProofs only [vc, gt, oneK_1, nrK_d, List.getElem?_cons_zero, List.getElem?_cons_succ]
    refine ⟨_, rfl, ?_⟩
    refine callO [.int 9] rfl fun F X hF => ⟨ds3, 9, rfl, rfl, c3, by decide, by decide, fun n ds4 n0 n1 c4 => hF _ _ ?_⟩
    simp -implicitDefEqProofs only [oneK_1, nrK_d, so]
    refine ⟨⟨by omega, by omega⟩, _, rfl, by rw [List.length_map, List.length_range, sizeLine_eq]; omega, ?_⟩
    simp -implicitDefEqProofs only [wipeR, wipeR.rm]
    refine compR_inv (fun i acc O => ∃ (cs : List Nat) (ds' : List D), acc = cs.map (fun c => D.str ⟨#[c]⟩) ∧ cs.length = i ∧ O = [.lst ds'] ∧ BagOk ds') _ [] _ 0 ⟨[], ds4, rfl, rfl, rfl, c4⟩ ?_ ?_
    · rintro j d acc O e ⟨cs, ds', rfl, hl, rfl, hb'⟩ F hF
      simp -implicitDefEqProofs only [bindT, gt, st, oneK_1]
      refine callO [.str _] rfl fun F' X hF' => .inr ⟨ds', _, rfl, rfl, hb', by decide, by decide, fun c ds2 hm hb2 => hF' _ _ (hF _ _ ⟨cs ++ [c], ds2, ?_, ?_, rfl, hb2⟩)⟩
      · rw [List.map_append]
        rfl
      · rw [List.length_append, hl]
        rfl
    · rintro acc O ⟨cs, ds', rfl, hl, rfl, hb'⟩
      rw [List.length_map, List.length_range, Nat.zero_add] at hl
      have eu : unb [.lst ds3] [.lst ds'] = [.lst ds'] := rfl
      simp -implicitDefEqProofs only [newL, oneK_1, eu]
      show ∃ ys : List Str, _ ∧ _ ∧ _
      refine ⟨cs.map fun c => ⟨#[c]⟩, by rw [List.map_map]; rfl, ?_, ?_⟩
      · rw [sum_ones, List.length_map]
        show cs.length + cs.length * 0 ≤ _
        omega
      · dsimp only
        exact h _ _ (kds_str (by rw [len_list, join_1]; omega)) hb'
  rw [vs_nil]
  dsimp only
  rw [vs_seq, vs_ite]
  simp -implicitDefEqProofs only [vc, gt, oneK_1, nrK_d, eq_i, boolK_1]
  refine way (fun _ => ?_) fun _ => ?_
  · rw [vs_seq, vs_set]
    simp -implicitDefEqProofs only [vc, gt, oneK_1, tosK_3, newL, List.getElem?_cons_zero, List.getElem?_cons_succ]
    refine ⟨sz (Nat.le_of_ble_eq_true rfl), ?_⟩
    refine callO [.lst [.int 1999, .int 2000, .int 2001]] rfl fun F X hF => .inl ⟨ds3, _, .inl ⟨rfl, rfl⟩, c3, by decide, by decide, fun y ds4 hy c4 => hF _ _ ?_⟩
    have hy' : ∃ n : Int, y = .int n ∧ 1999 ≤ n ∧ n ≤ 2001 := by
      simp only [List.mem_cons, List.not_mem_nil, or_false] at hy
      rcases hy with rfl | rfl | rfl
      · exact ⟨1999, rfl, by decide, by decide⟩
      · exact ⟨2000, rfl, by decide, by decide⟩
      · exact ⟨2001, rfl, by decide, by decide⟩
    obtain ⟨n, rfl, n0, n1⟩ := hy'
    simp -implicitDefEqProofs only [oneK_1, so, st]
    rw [vs_seq, vs_set]
    simp -implicitDefEqProofs only [vc, gt, oneK_1, nrK_d, mul_s, partK0, partK1, sl_s]
    refine ⟨⟨by decide, by decide, by omega, by omega⟩, ?_⟩
    have rl := rep_len x (2001 : Int).toNat
    generalize (⟨(List.replicate (2001 : Int).toNat x.cps).foldl (· ++ ·) #[]⟩ : Str) = lg at rl ⊢
    have rl : lg.length ≤ 2001 * 8 := by rw [rl]; exact Nat.mul_le_mul_left _ hx2
    refine ⟨sl5 (by omega), ?_⟩
    have h1 := cl lg none (some n)
    generalize cutS lg none (some n) = lh at h1 ⊢
    have sh : lh.length ≤ sizeLine := sl5 (by omega)
    simp -implicitDefEqProofs only [st]
    rw [vs_seq, vs_set]
    simp -implicitDefEqProofs only [vc, gt, oneK_1, nrK_d, sub_i, List.getElem?_cons_zero, List.getElem?_cons_succ]
    refine callO [.int n] rfl fun F X hF => ⟨ds4, n, rfl, rfl, c4, by omega, by omega, fun e ds5 e0 e1 c5 => hF _ _ ?_⟩
    simp -implicitDefEqProofs only [oneK_1, so, tosK_3, newL]
    refine ⟨sz (Nat.le_of_ble_eq_true rfl), ?_⟩
    refine callO [.lst [.int 0, .int (n - 1), .int e]] rfl fun F X hF => .inl ⟨ds5, _, .inl ⟨rfl, rfl⟩, c5, Nat.le_of_ble_eq_true rfl, Nat.lt_of_le_of_lt (Nat.le_of_ble_eq_true rfl : _ ≤ 60) (by decide), fun y ds6 hy c6 => hF _ _ ?_⟩
    have hy' : ∃ n : Int, y = .int n := by
      simp only [List.mem_cons, List.not_mem_nil, or_false] at hy
      rcases hy with rfl | rfl | rfl <;> exact ⟨_, rfl⟩
    obtain ⟨m, rfl⟩ := hy'
    simp -implicitDefEqProofs only [oneK_1, so, st]
    rw [vs_seq, vs_ret]
    simp -implicitDefEqProofs only [vc, gt, oneK_1, nrK_d, partK0, partK1, sl_s, List.getElem?_cons_zero, List.getElem?_cons_succ]
    refine ⟨sh, ?_⟩
    rw [tosK_some (ds := [.str "a", .str "(", .str ",", .str "]", .str "A", .str "_", .str " "]) (by simp [toDs_d, toDs_nil])]
    simp -implicitDefEqProofs only [newL, oneK_1]
    refine ⟨sz (Nat.le_of_ble_eq_true rfl), ?_⟩
    refine callO [.lst [.str "a", .str "(", .str ",", .str "]", .str "A", .str "_", .str " "]] rfl fun F X hF => .inl ⟨ds6, _, .inl ⟨rfl, rfl⟩, c6, Nat.le_of_ble_eq_true rfl, Nat.lt_of_le_of_lt (Nat.le_of_ble_eq_true rfl : _ ≤ 60) (by decide), fun y ds7 hy c7 => hF _ _ ?_⟩
    have hy' : ∃ n : Str, y = .str n ∧ n.length = 1 := by
      simp only [List.mem_cons, List.not_mem_nil, or_false] at hy
      rcases hy with rfl | rfl | rfl | rfl | rfl | rfl | rfl <;> exact ⟨_, rfl, rfl⟩
    obtain ⟨cc, rfl, l1⟩ := hy'
    have h2 := cl lh none (some m)
    have h3 := cl lh (some (m + 1)) none
    simp -implicitDefEqProofs only [oneK_1, so, nrK_d, add_s, add_i, partK0, partK1, sl_s]
    refine ⟨sl6 (by omega), sh, ?_⟩
    rw [str_app_len]
    exact ⟨sl6 (by omega), h _ _ (kds_str (by rw [str_app_len, str_app_len]; omega)) c7⟩
  rw [vs_nil]
  dsimp only
  rw [vs_seq, vs_ite]
  simp -implicitDefEqProofs only [vc, gt, oneK_1, nrK_d, eq_i, boolK_1]
  refine way (fun _ => ?_) fun _ => ?_
  · rw [vs_seq, vs_ret]
    simp -implicitDefEqProofs only [vc, gt, oneK_1, nrsK_1, nrK_d, toK_d, tosK_1, newL, list_s, tuple_s, List.getElem?_cons_zero, List.getElem?_cons_succ]
    refine ⟨rfl, _, rfl, sz (Nat.le_of_ble_eq_true rfl), sz (Nat.le_of_ble_eq_true rfl), ?_⟩
    rw [rd_dck_eq]
    simp -implicitDefEqProofs only [oneK_1]
    refine ⟨sz (Nat.le_of_ble_eq_true rfl), sz (Nat.le_of_ble_eq_true rfl), by omega, by omega, ?_⟩
    simp -implicitDefEqProofs only [tosK, toDs_d, toDs_nil, Option.map_some]
    refine ⟨sz (Nat.le_of_ble_eq_true rfl), ?_⟩
    refine callO [.lst _] rfl fun F X hF => .inl ⟨ds3, _, .inl ⟨rfl, rfl⟩, c3, Nat.le_of_ble_eq_true rfl, Nat.lt_of_le_of_lt (Nat.le_of_ble_eq_true rfl : _ ≤ 60) (by decide), fun y ds7 hy c7 => hF _ _ ?_⟩
    simp -implicitDefEqProofs only [oneK_1, so]
    exact h _ _ (kdsAll (by rfl) hy) c7
  rw [vs_nil]
  dsimp only
  rw [vs_seq, vs_ret]
  simp -implicitDefEqProofs only [vc, gt, oneK_1, List.getElem?_cons_zero]
  refine callO [] rfl fun F X hF => ⟨ds3, rfl, rfl, c3, fun y ds4 hy c4 => hF _ _ ?_⟩
  simp -implicitDefEqProofs only [oneK_1, so]
  exact h _ _ hy c4
end Z

set_option Elab.async false
set_option linter.all false
set_option maxRecDepth 100000
set_option maxHeartbeats 4000000
namespace Z
open PySem PySem.Spec PyProof.Rows L2
/-- plain data, the empty dict too -/
inductive Pe : Nat → D → Prop
  | non {n : Nat} : Pe n .non
  | bl {n : Nat} (b : Bool) : Pe n (.bl b)
  | int {n : Nat} (i : Int) : Pe n (.int i)
  | str {n : Nat} (x : Str) (h : PyData.strOk x = true) : Pe n (.str x)
  | lst {n : Nat} {ds : List D} : ds.length ≤ 1000 → (∀ d ∈ ds, Pe n d) → Pe (n + 1) (.lst ds)
  | tup {n : Nat} {ds : List D} : ds.length ≤ 1000 → (∀ d ∈ ds, Pe n d) → Pe (n + 1) (.tup ds)
  | emp {n : Nat} : Pe (n + 2) (.dct [] [])
theorem Pl.pe {n : Nat} {x : D} (h : Pl n x) : Pe n x := by
  induction h with
  | non => exact .non
  | bl b => exact .bl b
  | int i => exact .int i
  | str x h => exact .str x h
  | lst h _ ih => exact .lst h ih
  | tup h _ ih => exact .tup h ih
theorem Pe.mono {n m : Nat} {x : D} (h : Pe n x) : n ≤ m → Pe m x := by
  induction h generalizing m with
  | non => exact fun _ => .non
  | bl b => exact fun _ => .bl b
  | int i => exact fun _ => .int i
  | str x h => exact fun _ => .str x h
  | lst h _ ih => intro l; obtain ⟨k, rfl⟩ : ∃ k, m = k + 1 := ⟨m - 1, by omega⟩; exact .lst h fun d hd => ih d hd (by omega)
  | tup h _ ih => intro l; obtain ⟨k, rfl⟩ : ∃ k, m = k + 1 := ⟨m - 1, by omega⟩; exact .tup h fun d hd => ih d hd (by omega)
  | emp => intro l; obtain ⟨k, rfl⟩ : ∃ k, m = k + 2 := ⟨m - 2, by omega⟩; exact .emp
theorem is_dn {ks : List Key} {ds : List D} {Q : Bool → Prop} : cmpD .Is (.dct ks ds) .non Q = Q false := rfl
theorem isi_dct : isiB "dict" ["list", "tuple"] = some false ∧ isiB "dict" ["dict"] = some true := by decide +kernel
def sameE (n : Nat) : ZSp := fun us O Q _ => ∃ x : D, us = [.d x, .d x] ∧ O = [] ∧ Pe n x ∧ Q (.d (.bl true)) []
/-- .. an owned list ahead -/
def sameEO (n : Nat) : ZSp := fun us O Q _ => (∃ x : D, us = [.d x, .d x] ∧ O = [] ∧ Pe n x ∧ Q (.d (.bl true)) []) ∨ ∃ ds : List D, us = [.o 0, .d (.lst ds)] ∧ O = [.lst ds] ∧ Pe n (.lst ds) ∧ Q (.d (.bl true)) O
theorem k_law_sameE (n : Nat) (S : ZSp) (hS : ∀ m, n = m + 1 → S = sameE m) : Keeps [("_law_same", S)] y__law_same N__law_same.length (sameE n) := by
  rintro us O Q E ⟨x, rfl, rfl, hx, h⟩
  show vcS _ y__law_same E _ [some (.d x), some (.d x), none, none] _
  obtain ⟨t1, t2, t3, t4, t5, t6, t7, t8, t9, t10, t11, t12, t13, t14⟩ := isi_tab
  have seq : ∀ (m : Nat) (ds : List D), n = m + 1 → ds.length ≤ 1000 → (∀ d ∈ ds, Pe m d) → ∀ F : List D → List DO → Prop, F (ds.map fun _ => .bl true) [] →
      compR (.tp (.cons (.nm 2) (.cons (.nm 3) .nil))) yesV (fun ρ O Q => vc [("_law_same", S)] (.call 0 (.cons (.var 2) (.cons (.var 3) .nil))) (fun _ _ => False) ρ O Q) [some (.d x), some (.d x), none, none] 0 (ds.map fun d => D.tup [d, d]) [] [] F := fun m ds hm hl hd F hF => by
    refine compR_map (fun _ => D.bl true) (Nat.le_refl 0) (ds.map fun d => D.tup [d, d]) (fun d hd' G hG => ?_) (by
      rw [List.map_map]
      exact hF)
    obtain ⟨e, he, rfl⟩ := List.mem_map.mp hd'
    simp only [bindT, bindTs, vc, gt, st, oneK_1, List.getElem?_cons_zero]
    refine callD0 [e, e] fun F X hF => ?_
    rw [hS m hm]
    exact ⟨e, rfl, rfl, hd e he, hF _ hG⟩
  have e2 : ∀ ds : List D, (ds.map fun _ => D.bl true) = (ds.map fun _ => true).map .bl := fun ds => by
    rw [List.map_map]
    rfl
  have e3 : ∀ ds : List D, (ds.map fun _ => true).all id = true := fun ds => by simp
  obtain ⟨d1, d2⟩ := isi_dct
  cases hx with
  | @lst m ds hl hd =>
    simp only [y__law_same, vcS, vc, gt, st, oneK_1, boolK_1, tyU, tyD, t1, t6, t7, ex_some, nrK_d, nrsK_1, brK_d, len_l, eq_i, wipeR, wipeR.rm, zip_self, Bool.false_eq_true, Bool.true_eq_false, false_implies, true_implies, true_and, and_true]
    refine ne_b ⟨(fun z => by cases z), fun _ => ne_b ⟨(fun z => by cases z), fun _ => ?_⟩⟩
    rw [decide_eq_true trivial]
    refine ⟨fun _ => ⟨_, rfl, by rw [List.length_map]; exact Nat.le_trans hl (by decide), seq m ds rfl hl hd _ ?_⟩, fun z => by cases z⟩
    simp only [newL, unb_0, oneK_1, nrsK_1]
    rw [e2]
    refine all_l ?_
    rw [e3]
    exact h
  | @tup m ds hl hd =>
    simp only [y__law_same, vcS, vc, gt, st, oneK_1, boolK_1, tyU, tyD, t2, t8, t9, ex_some, nrK_d, nrsK_1, brK_d, len_t, eq_i, wipeR, wipeR.rm, zip_self, Bool.false_eq_true, Bool.true_eq_false, false_implies, true_implies, true_and, and_true]
    refine ne_b ⟨(fun z => by cases z), fun _ => ne_b ⟨(fun z => by cases z), fun _ => ?_⟩⟩
    rw [decide_eq_true trivial]
    refine ⟨fun _ => ⟨_, rfl, by rw [List.length_map]; exact Nat.le_trans hl (by decide), seq m ds rfl hl hd _ ?_⟩, fun z => by cases z⟩
    simp only [newL, unb_0, oneK_1, nrsK_1]
    rw [e2]
    refine all_l ?_
    rw [e3]
    exact h
  | non =>
    simp only [y__law_same, vcS, vc, gt, st, oneK_1, boolK_1, tyU, tyD, t5, ex_some, nrK_d, is_nn]
    refine ⟨fun z => (by cases z), fun _ => ?_⟩
    refine ⟨fun _ => ⟨fun _ => ⟨fun _ => h, fun z => (by cases z)⟩, fun z => (by cases z)⟩, fun z => (by cases z)⟩
  | int i =>
    simp only [y__law_same, vcS, vc, gt, st, oneK_1, boolK_1, tyU, tyD, t3, t10, t12, t14, ex_some, nrK_d, is_in, eq_i, Bool.false_eq_true, Bool.true_eq_false, false_implies, true_implies, true_and, and_true]
    rw [decide_eq_true trivial]
    exact h
  | str i hi =>
    obtain ⟨u1, u2, u3, u4, u5⟩ := isi_str
    simp only [y__law_same, vcS, vc, gt, st, oneK_1, boolK_1, tyU, tyD, u1, u2, u3, u4, u5, ex_some, nrK_d, is_sn, eq_s, Bool.false_eq_true, Bool.true_eq_false, false_implies, true_implies, true_and, and_true]
    rw [decide_eq_true trivial]
    exact h
  | bl b =>
    simp only [y__law_same, vcS, vc, gt, st, oneK_1, boolK_1, tyU, tyD, t4, t11, t13, ex_some, nrK_d, is_bn, Bool.false_eq_true, Bool.true_eq_false, false_implies, true_implies, true_and, and_true]
    refine eq_b ?_
    rw [beq_self_eq_true]
    exact h
  | @emp m =>
    simp only [y__law_same, vcS, vc, gt, st, oneK_1, boolK_1, tyU, tyD, d1, d2, ex_some, nrK_d, is_dn, brK_d, wipeR, wipeR.rm, Bool.false_eq_true, Bool.true_eq_false, false_implies, true_implies, true_and, and_true, List.map_nil]
    refine ⟨[], rfl, Nat.zero_le _, ?_⟩
    rw [compR_nil]
    simp only [newL, unb_0, oneK_1, toK_d]
    refine ⟨[], rfl, Nat.zero_le _, ?_⟩
    rw [compR_nil]
    simp only [newL, unb_0, oneK_1, List.getElem?_cons_zero]
    refine callD0 [.lst [], .lst []] fun F X hF => ?_
    rw [hS _ rfl]
    exact ⟨.lst [], rfl, rfl, .lst (Nat.zero_le _) (fun d hd => by cases hd), hF _ h⟩

theorem k_law_sameEO (n : Nat) (S : ZSp) (hS : ∀ m, n = m + 1 → S = sameE m) : Keeps [("_law_same", S)] y__law_same N__law_same.length (sameEO n) := by
  rintro us O Q E (⟨x, rfl, rfl, hx, h⟩ | ⟨ds, rfl, rfl, hx, h⟩)
  · exact k_law_sameE n S hS _ _ _ _ ⟨x, rfl, rfl, hx, h⟩
  show vcS _ y__law_same E _ [some (.o 0), some (.d (.lst ds)), none, none] _
  obtain ⟨t1, t2, t3, t4, t5, t6, t7, t8, t9, t10, t11, t12, t13, t14⟩ := isi_tab
  have e3 : (ds.map fun _ => true).all id = true := by simp
  have e2 : (ds.map fun _ => D.bl true) = (ds.map fun _ => true).map .bl := by
    rw [List.map_map]
    rfl
  have ty0 : tyU [.lst ds] (.o 0) = some "list" := rfl
  have ty1 : tyU [.lst ds] (.d (.lst ds)) = some "list" := rfl
  have n0 : nrm [.lst ds] (.o 0) = some (.lst ds) := rfl
  have n1 : nrm [.lst ds] (.d (.lst ds)) = some (.lst ds) := rfl
  have b0 : ∀ k, brK [.lst ds] (.o 0) k = k (.lst ds) [.brw ds] := fun _ => rfl
  have b1 : ∀ k, brK [.brw ds] (.d (.lst ds)) k = k (.lst ds) [.brw ds] := fun _ => brK_d
  have ub : unb [.lst ds] [.brw ds] = [.lst ds] := rfl
  have seq : ∀ (m : Nat), n = m + 1 → ds.length ≤ 1000 → (∀ d ∈ ds, Pe m d) → ∀ F : List D → List DO → Prop, F (ds.map fun _ => .bl true) [.brw ds] →
      compR (.tp (.cons (.nm 2) (.cons (.nm 3) .nil))) yesV (fun ρ O Q => vc [("_law_same", S)] (.call 0 (.cons (.var 2) (.cons (.var 3) .nil))) (fun _ _ => False) ρ O Q) [some (.o 0), some (.d (.lst ds)), none, none] 1 (ds.map fun d => D.tup [d, d]) [] [.brw ds] F := fun m hm hl hd F hF => by
    refine compR_map (fun _ => D.bl true) (Nat.le_refl 1) (ds.map fun d => D.tup [d, d]) (fun d hd' G hG => ?_) (by
      rw [List.map_map]
      exact hF)
    obtain ⟨e, he, rfl⟩ := List.mem_map.mp hd'
    simp only [bindT, bindTs, vc, gt, st, oneK_1, List.getElem?_cons_zero]
    refine callD0 [e, e] fun F X hF => ?_
    rw [hS m hm]
    exact ⟨e, rfl, rfl, hd e he, hF _ hG⟩
  cases hx with
  | @lst m ds hl hd =>
    simp -implicitDefEqProofs only [y__law_same]
    rw [vs_seq, vs_ite]
    simp -implicitDefEqProofs only [vc, gt, st, oneK_1, boolK_1, ty1, t1, ex_some]
    refine ⟨fun _ => ?_, fun z => by cases z⟩
    rw [vs_seq, vs_ite]
    simp -implicitDefEqProofs only [vc, gt, st, oneK_1, boolK_1, ty0, ty1, t6, t7, ex_some, nrK_d]
    refine ne_b ⟨(fun z => by cases z), fun _ => ne_b ⟨(fun z => by cases z), fun _ => ?_⟩⟩
    rw [vs_nil]
    dsimp only
    rw [vs_seq, vs_ret]
    simp -implicitDefEqProofs only [vc, gt, st, oneK_1, boolK_1, nrsK_o n0, nrsK_1, len_l, nrK_d, eq_i, b0, b1, zip_self, wipeR, wipeR.rm]
    rw [decide_eq_true trivial]
    refine ⟨fun _ => ⟨_, rfl, by rw [List.length_map]; exact Nat.le_trans hl (by decide), seq m rfl hl hd _ ?_⟩, fun z => by cases z⟩
    simp -implicitDefEqProofs only [newL, ub, oneK_1, nrsK_1]
    rw [e2]
    refine all_l ?_
    rw [e3]
    exact h
end Z

set_option Elab.async false
set_option linter.all false
set_option maxRecDepth 100000
set_option maxHeartbeats 4000000
namespace Z
open PySem PySem.Spec PyProof.Rows L2
def dropS : Nat → YS → YS
  | 0, y => y
  | n + 1, .seq _ r => dropS n r
  | _ + 1, y => y
theorem vc_call1 {Γ : List (Fk × ZSp)} {g i : Nat} {E : ZX} {ρ : List (Option U)} {O : List DO} {Q : ZQ} : vc Γ (.call g (.cons (.var i) .nil)) E ρ O Q = match gt ρ i with
  | some u => (match Γ[g]? with
    | some (_, P) => callZ P [u] O (fun u O2 => Q [u] O2) E
    | none => False)
  | none => False := by
  cases h : gt ρ i with
  | none => simp -implicitDefEqProofs only [vc, h]
  | some u =>
    (simp -implicitDefEqProofs only [vc, h, oneK_1]) <;> rfl
def soZ : ZSp := fun us O Q _ => ∃ ds, us = [.o 0] ∧ O = [.lst ds] ∧ BagOk ds ∧ ∀ ds', BagOk ds' → Q (.d (.bl true)) [.lst ds']
theorem pl_bls (bs : List Bool) (h : bs.length ≤ 1000) : Pl 1 (.lst (bs.map .bl)) := .lst (by rw [List.length_map]; exact h) fun d hd => by
  obtain ⟨b, _, rfl⟩ := List.mem_map.mp hd
  exact .bl b
theorem pe_bls (bs : List Bool) (h : bs.length ≤ 1000) : Pe 3 (.lst (bs.map .bl)) := (Pl.mono (pl_bls bs h) (by decide : 1 ≤ 3)).pe
theorem k_law_words_so : Keeps [("_law_same", sameE 3), ("_law_is_kind", oneZ kdB), ("_law_is_name", oneZ nmB), ("is_plain", oneZ plB), ("is_kind", oneZ kdB), ("is_name", oneZ nmB), ("_law_thing", anyZ)] y__law_words_so N__law_words_so.length soZ := by
  rintro us O Q E ⟨ds, rfl, rfl, hb, h⟩
  show vcS _ y__law_words_so E _ [some (.o 0), none, none, none] _
  unfold y__law_words_so
  rw [vs_seq, vs_set]
  simp -implicitDefEqProofs only [vc, gt, oneK_1, List.getElem?_cons_zero, List.getElem?_cons_succ]
  refine callO [] rfl fun F X hF => ⟨ds, rfl, rfl, hb, fun d ds1 hd c1 => hF _ _ ?_⟩
  simp -implicitDefEqProofs only [oneK_1, so, st]
  have fin : ∀ p, p = plB d → Q (.d (.bl true)) [.lst ds1] → callZ (sameE 3) [.d (.lst [.bl (nmB d), .bl (kdB d), .bl (plB d)]), .d (.lst [.bl (nmB d), .bl (kdB d), .bl p])] [.lst ds1] (fun u O' => Q u O') E := by
    intro p hp hq
    subst hp
    exact callD0 [_, _] fun F X hF => ⟨_, rfl, rfl, pe_bls [nmB d, kdB d, plB d] (Nat.le_of_ble_eq_true rfl), hF _ hq⟩
  have rest : ∀ p, p = plB d → vcS [("_law_same", sameE 3), ("_law_is_kind", oneZ kdB), ("_law_is_name", oneZ nmB), ("is_plain", oneZ plB), ("is_kind", oneZ kdB), ("is_name", oneZ nmB), ("_law_thing", anyZ)] (dropS 2 y__law_words_so) E ⟨fun _ O' => Q (.d .non) O', Q, fun _ _ => False, fun _ _ => False⟩ [some (.o 0), some (.d d), some (.d (.bl p)), none] [.lst ds1] := by
    intro p hp
    unfold y__law_words_so
    rw [dropS, dropS, dropS, vs_seq, vs_ret]
    simp -implicitDefEqProofs only [vc, gt, oneK_1, List.getElem?_cons_zero, List.getElem?_cons_succ]
    refine callD0 [d] fun F X hF => ⟨d, rfl, rfl, hd, hF _ ?_⟩
    refine callD0 [d] fun F X hF => ⟨d, rfl, rfl, hd, hF _ ?_⟩
    refine callD0 [d] fun F X hF => ⟨d, rfl, rfl, hd, hF _ ?_⟩
    simp -implicitDefEqProofs only [tosK_3, newL, oneK_1]
    refine ⟨sz (Nat.le_of_ble_eq_true rfl), ?_⟩
    refine callD0 [d] fun F X hF => ⟨d, rfl, rfl, hd, hF _ ?_⟩
    refine callD0 [d] fun F X hF => ⟨d, rfl, rfl, hd, hF _ ?_⟩
    simp -implicitDefEqProofs only [tosK_3, newL, oneK_1]
    refine ⟨sz (Nat.le_of_ble_eq_true rfl), ?_⟩
    exact fin p hp (h _ c1)
  rw [vs_seq, vs_set, vc_and]
  simp -implicitDefEqProofs only [vc_call1, gt, List.getElem?_cons_zero, List.getElem?_cons_succ]
  refine callD0 [d] fun F X hF => ⟨d, rfl, rfl, hd, hF _ ?_⟩
  rw [boolK_1]
  have done : ∀ p, p = plB d → (fun us O1 => oneK us fun u => vcS [("_law_same", sameE 3), ("_law_is_kind", oneZ kdB), ("_law_is_name", oneZ nmB), ("is_plain", oneZ plB), ("is_kind", oneZ kdB), ("is_name", oneZ nmB), ("_law_thing", anyZ)] (dropS 2 y__law_words_so) E ⟨fun _ O' => Q (.d .non) O', Q, fun _ _ => False, fun _ _ => False⟩ (st [some (.o 0), some (.d d), none, none] 2 u) O1) [.d (.bl p)] [.lst ds1] := fun p hp => rest p hp
  cases d with
  | str x =>
    have hl := hd.2 x rfl
    cases q : kdB (.str x) with
    | false => exact ⟨(fun z => by cases z), fun _ => done _ (by show false = plB _; have e : plB (.str x) = (kdB (.str x) && allIn ltS x) := rfl; rw [e, q]; rfl)⟩
    | true =>
      refine ⟨fun _ => ?_, (fun z => by cases z)⟩
      rw [vc_one]
      refine allin_walk (i := 1) (j := 3) (x := x) rfl (fun u => rfl) hl rfl ?_
      exact done _ (by have e : plB (.str x) = (kdB (.str x) && allIn ltS x) := rfl; rw [e, q]; rfl)
  | _ => exact ⟨(fun z => by cases z), fun _ => done _ rfl⟩
end Z

set_option Elab.async false
set_option linter.all false
set_option maxRecDepth 100000
set_option maxHeartbeats 4000000
namespace Z
open PySem PySem.Spec PyProof.Rows L2
/-! ### fractions, errors (no law's text in sight) -/
theorem callDE {P : ZSp} {O : List DO} {Q : U → List DO → Prop} {E : ZX} (ds : List D) (h : ∀ F X, (∀ d, Q (.d d) O → F (.d d) []) → (∀ x, E x O → X x []) → P (ds.map .d) [] F X) : callZ P (ds.map .d) O Q E :=
  callD ds (h _ _ (fun d q => by
    rw [shU_d, List.append_nil]
    exact q) fun x e => by
    rw [List.append_nil, List.take_length]
    exact e)
/-- gcd of two numbers -/
def gcdZ : ZSp := fun us O Q _ => ∃ a b : Int, us = [.d (.int a), .d (.int b)] ∧ O = [] ∧ Q (.d (.int (Int.gcd a b : Nat))) []
/-- lowest terms -/
def lowZ : ZSp := fun us O Q _ => ∃ n m : Int, us = [.d (.int n), .d (.int m)] ∧ O = [] ∧ m ≠ 0 ∧ m.natAbs < 2 ^ 8999 ∧ ∀ p q, 0 < q → Int.gcd p q = 1 → p * m = n * q → Q (.d (fr p q)) []
def bad (c : Str) (v : D) : Exc := ⟨c, [("code", .str c), ("value", v)]⟩
def ratioZ : ZSp := fun us O Q E => ∃ n m : Int, us = [.d (.int n), .d (.int m)] ∧ O = [] ∧ m.natAbs < 2 ^ 8999 ∧ (m ≠ 0 → ∀ p q, 0 < q → Int.gcd p q = 1 → p * m = n * q → Q (.d (fr p q)) []) ∧ (m = 0 → E (bad "InvalidNumber" (.int 0)) [])
def opOk (a b c d : Int) : Prop := 0 < b ∧ 0 < d ∧ (∃ k, k ≤ 400000 ∧ Bd k a ∧ Bd k b ∧ Bd k c ∧ Bd k d) ∧ Bd 8999 (b * d)
def plusZ : ZSp := fun us O Q _ => ∃ a b c d : Int, us = [.d (fr a b), .d (fr c d)] ∧ O = [] ∧ opOk a b c d ∧ ∀ p q, 0 < q → Int.gcd p q = 1 → p * (b * d) = (a * d + c * b) * q → Q (.d (fr p q)) []
def minusZ : ZSp := fun us O Q _ => ∃ a b c d : Int, us = [.d (fr a b), .d (fr c d)] ∧ O = [] ∧ opOk a b c d ∧ ∀ p q, 0 < q → Int.gcd p q = 1 → p * (b * d) = (a * d - c * b) * q → Q (.d (fr p q)) []
def timesZ : ZSp := fun us O Q _ => ∃ a b c d : Int, us = [.d (fr a b), .d (fr c d)] ∧ O = [] ∧ opOk a b c d ∧ ∀ p q, 0 < q → Int.gcd p q = 1 → p * (b * d) = (a * c) * q → Q (.d (fr p q)) []
def floorZ : ZSp := fun us O Q _ => ∃ a b : Int, us = [.d (fr a b)] ∧ O = [] ∧ b ≠ 0 ∧ Bd 8999 b ∧ Q (.d (.int (a.fdiv b))) []
/-- is it a fraction in lowest terms? -/
def isFr : D → Bool
  | .tup [.int p, .int q] => decide (1 ≤ q) && decide (Int.gcd p q = 1)
  | _ => false
def Items : D → Prop
  | .tup ds => ds.length ≤ 1000 ∧ ∀ d ∈ ds, Knd d = true
  | _ => True
def isFrZ : ZSp := fun us O Q _ => ∃ d : D, us = [.d d] ∧ O = [] ∧ Knd d = true ∧ Items d ∧ Q (.d (.bl (isFr d))) []
def worthZ : ZSp := fun us O Q _ => ∃ p q n m : Int, us = [.d (fr p q), .d (.int n), .d (.int m)] ∧ O = [] ∧ 0 < q ∧ Int.gcd p q = 1 ∧ p * m = n * q ∧ (∃ k, k ≤ 400000 ∧ Bd k p ∧ Bd k q ∧ Bd k n ∧ Bd k m) ∧ Q (.d (.bl true)) []
theorem isFr_fr {p q : Int} (hq : 0 < q) (hc : Int.gcd p q = 1) : isFr (fr p q) = true := by
  show (decide (1 ≤ q) && decide (Int.gcd p q = 1)) = true
  rw [decide_eq_true (by omega : 1 ≤ q), decide_eq_true hc]
  rfl
theorem items_fr {p q : Int} : Items (fr p q) := ⟨by show 2 ≤ 1000; decide, fun d hd => by
  simp only [List.mem_cons, List.not_mem_nil, or_false] at hd
  rcases hd with rfl | rfl <;> rfl⟩
theorem isFr_len {ds : List D} (h : ds.length ≠ 2) : isFr (.tup ds) = false := by
  unfold isFr
  split
  · rename_i e
    cases e
    exact absurd rfl h
  · rfl
theorem isFr_two {a b : D} (h : ¬ (isInt a = true ∧ isInt b = true)) : isFr (.tup [a, b]) = false := by
  unfold isFr
  split
  · rename_i e
    cases e
    exact absurd ⟨rfl, rfl⟩ h
  · rfl
theorem isInt_ex {a : D} (h : isInt a = true) : ∃ i, a = .int i := by
  cases a <;> first | (cases h; done) | exact ⟨_, rfl⟩
theorem two {ds : List D} (h : ds.length = 2) : ∃ a b, ds = [a, b] := by
  match ds, h with
  | [a, b], _ => exact ⟨a, b, rfl⟩
end Z

set_option Elab.async false
set_option linter.all false
set_option maxRecDepth 100000
set_option maxHeartbeats 4000000
namespace Z
open PySem PySem.Spec PyProof.Rows L2
theorem pick_value : pickF fldT "InvalidNumber" = [("value" : Str)] := by decide +kernel
theorem lf_number {v : D} : lawFields (bad "InvalidNumber" v) = some (.tup [.str "InvalidNumber", v]) := by
  have e : (bad "InvalidNumber" v).fs.lookup ("code" : Str) = some (.str "InvalidNumber") := rfl
  unfold lawFields
  rw [e]
  simp only [pick_value]
  rfl
def lnmZ : ZSp := fun us O Q E => ∃ d : D, us = [.d d] ∧ O = [] ∧ Knd d = true ∧ (∀ (k : Int) (c1 c2 : Nat), d = .int k → 0 ≤ k → k ≤ 675 → atI ltS.cps.toList (k.fdiv 26) = some c1 → atI ltS.cps.toList (k.fmod 26) = some c2 → Q (.d (.str (⟨#[c1]⟩ ++ ⟨#[c2]⟩))) []) ∧
  (inB d 0 675 = false → E (bad "InvalidNumber" d) [])
theorem two_at {k : Int} (h0 : 0 ≤ k) (h1 : k ≤ 675) : (∃ c1, atI ltS.cps.toList (k.fdiv 26) = some c1) ∧ ∃ c2, atI ltS.cps.toList (k.fmod 26) = some c2 := by
  have hl : ltS.cps.toList.length = 26 := by decide
  have e1 : 0 ≤ k.fdiv 26 := Int.fdiv_nonneg h0 (by decide)
  have e2 : k.fdiv 26 < 26 := by
    rw [Int.fdiv_eq_ediv_of_nonneg _ (by decide)]
    omega
  have e3 : 0 ≤ k.fmod 26 := Int.fmod_nonneg_of_pos _ (by decide)
  have e4 : k.fmod 26 < 26 := Int.fmod_lt_of_pos _ (by decide)
  obtain ⟨a, ha⟩ := Int.eq_ofNat_of_zero_le e1
  obtain ⟨b, hb⟩ := Int.eq_ofNat_of_zero_le e3
  rw [ha] at e2 ⊢
  rw [hb] at e4 ⊢
  have la : a < ltS.cps.toList.length := by omega
  have lb : b < ltS.cps.toList.length := by omega
  exact ⟨⟨_, at_nat la⟩, _, at_nat lb⟩
theorem k_list_name : Keeps [("is_number", numZ)] y_list_name N_list_name.length lnmZ := by
  rintro us O Q E ⟨d, rfl, rfl, hk, h, hx⟩
  show vcS _ y_list_name E _ [some (.d d)] []
  unfold y_list_name
  rw [vs_seq, vs_ite]
  simp -implicitDefEqProofs only [vc, gt, oneK_1, List.getElem?_cons_zero]
  refine callD0 [d, .int 0, .int 675] fun F X hF => ⟨d, 0, 675, rfl, rfl, hk, hF _ ?_⟩
  rw [boolK_1, boolK_1]
  cases q : inB d 0 675 with
  | false =>
    refine ⟨fun _ => ?_, (fun z => by cases z)⟩
    rw [vs_seq]
    simp -implicitDefEqProofs only [vcS, vc, gt, oneK_1, tosK_1]
    exact ⟨rfl, _, rfl, hx q⟩
  | true =>
    refine ⟨(fun z => by cases z), fun _ => ?_⟩
    cases d with
    | int k =>
      have q : (decide (0 ≤ k) && decide (k ≤ 675)) = true := q
      rw [Bool.and_eq_true, decide_eq_true_iff, decide_eq_true_iff] at q
      obtain ⟨⟨c1, e1⟩, c2, e2⟩ := two_at q.1 q.2
      rw [vs_nil]
      dsimp only
      rw [vs_seq, vs_ret]
      simp -implicitDefEqProofs only [vc, gt, oneK_1, nrK_d, div_i, mod_i, ix_s, add_s]
      exact ⟨divOk_pos (by decide) (by decide), c1, by decide, e1, by decide, c2, by decide, e2, (by decide : 1 + 1 ≤ sizeLine), h k c1 c2 rfl q.1 q.2 e1 e2⟩
    | _ => cases q
end Z

set_option Elab.async false
set_option linter.all false
set_option maxRecDepth 100000
set_option maxHeartbeats 4000000
namespace Z
open PySem PySem.Spec PyProof.Rows L2
abbrev GN : List (Fk × ZSp) := [("_law_same", sameE 3), (("is_number", ["least", "most"]), numZ), ("is_number", numZ), ("_law_int", intZ), ("_law_pick", pickJ), ("_law_draw", drawZ), ("_law_number", numberZ)]
def menuD (l h : Int) (o : D) : List D := [.int (l - 1), .int l, .int (l + 1), .int ((l + h).fdiv 2), .int (h - 1), .int h, .int (h + 1), .int (-l), o]
theorem menu_map (l h : Int) (o : D) : (menuD l h o).map (fun d => D.bl (inB d l h)) = ((menuD l h o).map fun d => inB d l h).map .bl := by
  rw [List.map_map]
  rfl
theorem str_i {i : Int} {Q : D → Prop} : BF.op .str [.int i] Q = (i.natAbs.log2 < 1920 ∧ Q (.str (toString i))) := rfl
theorem num_len {i : Int} {k : Nat} (h0 : 0 < k) (h : i.natAbs < 10 ^ k) : (Str.ofString (toString i)).length ≤ k + 1 := by
  rw [Str.ofString_eq_toList]
  show ((toString i).toList.map Char.toNat).length ≤ k + 1
  rw [List.length_map, Int.toString_eq_repr, Int.repr_eq_if]
  split
  · have : i.toNat.repr.length ≤ k := (Nat.length_repr_le_iff h0).mpr (by omega)
    rw [String.length_toList]
    omega
  · have : (-i).toNat.repr.length ≤ k := (Nat.length_repr_le_iff h0).mpr (by omega)
    rw [String.toList_append, List.length_append, String.length_toList, String.length_toList]
    have : ("-" : String).length = 1 := rfl
    omega
theorem log_of {b : Int} (h : Bd 117 b) : b.natAbs.log2 < 1920 := by
  have := PySem.Flt.log2_lt_of (by decide) h
  omega
theorem str_len {b : Int} (h : Bd 117 b) : (Str.ofString (toString b)).length ≤ sizeLine := by
  have h2 : b.natAbs < 10 ^ 36 := by
    unfold Bd at h
    have e : (2 : Nat) ^ 117 < 10 ^ 36 := by decide
    omega
  have := num_len (by decide) h2
  exact sz (by omega)
theorem k_law_numbers_so : Keeps GN y__law_numbers_so N__law_numbers_so.length soZ := by
  rintro us O Q E ⟨ds, rfl, rfl, hb, h⟩
  show vcS _ y__law_numbers_so E _ [some (.o 0), none, none, none, none, none, none, none] _
  -- behind low
  have r1 : ∀ (l : Int) (ds1 : List D), Bd 117 l → BagOk ds1 → vcS GN (dropS 1 y__law_numbers_so) E ⟨fun _ O' => Q (.d .non) O', Q, fun _ _ => False, fun _ _ => False⟩ [some (.o 0), some (.d (.int l)), none, none, none, none, none, none] [.lst ds1] := by
    intro l ds1 hl c1
    have r2 : ∀ (hh : Int) (ds2 : List D), BagOk ds2 → vcS GN (dropS 2 y__law_numbers_so) E ⟨fun _ O' => Q (.d .non) O', Q, fun _ _ => False, fun _ _ => False⟩ [some (.o 0), some (.d (.int l)), some (.d (.int hh)), none, none, none, none, none] [.lst ds2] := by
      intro hh ds2 c2
      have r3 : ∀ (o : D) (ds3 : List D), Knd o = true → BagOk ds3 → vcS GN (dropS 3 y__law_numbers_so) E ⟨fun _ O' => Q (.d .non) O', Q, fun _ _ => False, fun _ _ => False⟩ [some (.o 0), some (.d (.int l)), some (.d (.int hh)), some (.d o), none, none, none, none] [.lst ds3] := by
        intro o ds3 ho c3
        unfold y__law_numbers_so
        rw [dropS, dropS, dropS, dropS, vs_seq, vs_set]
        simp -implicitDefEqProofs only [vc, gt, oneK_1, nrK_d, sub_i, add_i, div_i]
        refine ⟨divOk_pos (by decide) (by decide), ?_⟩
        rw [tosK_some (ds := menuD l hh o) (by simp [toDs_d, toDs_nil, menuD])]
        simp -implicitDefEqProofs only [newL, oneK_1, st]
        refine ⟨sz (Nat.le_of_ble_eq_true rfl), ?_⟩
        have hm : ∀ d ∈ menuD l hh o, Knd d = true := by
          intro d hd
          simp only [menuD, List.mem_cons, List.not_mem_nil, or_false] at hd
          rcases hd with rfl | rfl | rfl | rfl | rfl | rfl | rfl | rfl | rfl <;> first | rfl | exact ho
        have e9 : (menuD l hh o).length ≤ sizeLine := sz (Nat.le_of_ble_eq_true rfl)
        have e2 := menu_map l hh o
        have e3 : ((menuD l hh o).map fun d => inB d l hh).length ≤ 1000 := Nat.le_of_ble_eq_true rfl
        generalize menuD l hh o = ms at hm e9 e2 e3 ⊢
        rw [vs_seq, vs_set]
        simp -implicitDefEqProofs only [vc, gt, oneK_1, brK_d, wipeR, wipeR.rm]
        refine ⟨_, rfl, e9, ?_⟩
        refine compR_map (fun d => .bl (inB d l hh)) (Nat.le_refl _) _ (fun d hd F hF => ?_) ?_
        · simp -implicitDefEqProofs only [bindT, gt, st, oneK_1, List.getElem?_cons_zero, List.getElem?_cons_succ]
          refine callD0 [d] fun F' X hF' => ⟨d, rfl, rfl, hm d hd, hF' _ ?_⟩
          rw [boolK_1]
          cases d with
          | int i =>
            refine ⟨fun _ => ?_, (fun z => by cases z)⟩
            simp -implicitDefEqProofs only [nrK_d, le_i, boolK_1]
            refine three' _ (decide (i ≤ hh)) (Q := fun d => F [.d d] _) hF fun _ h => ?_
            exact h
          | _ => exact ⟨(fun z => by cases z), fun _ => hF⟩
        · simp -implicitDefEqProofs only [newL, oneK_1, st]
          have eu : unb [.lst ds3] [.lst ds3] = [.lst ds3] := rfl
          rw [eu, vs_seq, vs_set]
          simp -implicitDefEqProofs only [vc, gt, oneK_1, brK_d, wipeR, wipeR.rm]
          refine ⟨_, rfl, e9, ?_⟩
          refine compR_map (fun d => .bl (inB d l hh)) (Nat.le_refl _) _ (fun d hd F hF => ?_) ?_
          · simp -implicitDefEqProofs only [bindT, gt, st, oneK_1, List.getElem?_cons_zero, List.getElem?_cons_succ]
            exact callD0 [d, .int l, .int hh] fun F' X hF' => ⟨d, l, hh, rfl, rfl, hm d hd, hF' _ hF⟩
          · simp -implicitDefEqProofs only [newL, oneK_1, st]
            rw [eu, vs_seq, vs_ret]
            simp -implicitDefEqProofs only [vc, gt, oneK_1, List.getElem?_cons_zero, List.getElem?_cons_succ]
            rw [e2]
            refine callD0 [_, _] fun F' X hF' => ⟨_, rfl, rfl, pe_bls _ e3, hF' _ ?_⟩
            rw [boolK_1]
            refine ⟨fun _ => ?_, (fun z => by cases z)⟩
            refine ⟨rfl, ?_⟩
            refine callD0 [.int hh, .int l, .int hh] fun F' X hF' => ⟨.int hh, l, hh, rfl, rfl, rfl, hF' _ ?_⟩
            simp -implicitDefEqProofs only [oneK_1, nrK_d, ge_i]
            have e4 : inB (.int hh) l hh = decide (hh ≥ l) := by
              show (decide (l ≤ hh) && decide (hh ≤ hh)) = _
              rw [decide_eq_true (Int.le_refl hh), Bool.and_true]
            rw [e4]
            exact callD0 [_, _] fun F' X hF' => ⟨_, rfl, rfl, .bl _, hF' _ (h _ c3)⟩
      unfold y__law_numbers_so
      rw [dropS, dropS, dropS, vs_seq, vs_set]
      simp -implicitDefEqProofs only [vc, gt, oneK_1, nrsK_1, nrK_d, toK_d, str_i, partK0, partK1, sl_s, tosK_1, newL, List.getElem?_cons_zero, List.getElem?_cons_succ]
      refine ⟨log_of hl, str_len hl, sz (Nat.le_of_ble_eq_true rfl), sz (Nat.le_of_ble_eq_true rfl), rfl, _, rfl, ?_⟩
      simp -implicitDefEqProofs only [tosK, toDs_d, toDs_nil, Option.map_some]
      refine ⟨sz (Nat.le_of_ble_eq_true rfl), ?_⟩
      refine callO [.lst _] rfl fun F X hF => .inl ⟨ds2, _, .inl ⟨rfl, rfl⟩, c2, Nat.le_of_ble_eq_true rfl, Nat.lt_of_le_of_lt (Nat.le_of_ble_eq_true rfl : _ ≤ 60) (by decide), fun y ds7 hy c7 => hF _ _ ?_⟩
      simp -implicitDefEqProofs only [oneK_1, so, st]
      refine r3 y ds7 ?_ c7
      simp only [List.mem_cons, List.not_mem_nil, or_false] at hy
      rcases hy with rfl | rfl | rfl | rfl | rfl | rfl | rfl | rfl <;> rfl
    unfold y__law_numbers_so
    rw [dropS, dropS, vs_seq, vs_set]
    simp -implicitDefEqProofs only [vc, gt, oneK_1, nrK_d, List.getElem?_cons_zero, List.getElem?_cons_succ]
    refine callO [.int 100] rfl fun F X hF => ⟨ds1, 100, rfl, rfl, c1, by decide, by decide, fun n ds4 n0 n1 c4 => hF _ _ ?_⟩
    simp -implicitDefEqProofs only [oneK_1, so, tosK_5, newL]
    refine ⟨sz (Nat.le_of_ble_eq_true rfl), ?_⟩
    refine callO [.lst [.int 0, .int 1, .int 2, .int (-1), .int n]] rfl fun F X hF => .inl ⟨ds4, _, .inl ⟨rfl, rfl⟩, c4, Nat.le_of_ble_eq_true rfl, Nat.lt_of_le_of_lt (Nat.le_of_ble_eq_true rfl : _ ≤ 60) (by decide), fun y ds7 hy c7 => hF _ _ ?_⟩
    have hy' : ∃ n : Int, y = .int n := by
      simp only [List.mem_cons, List.not_mem_nil, or_false] at hy
      rcases hy with rfl | rfl | rfl | rfl | rfl <;> exact ⟨_, rfl⟩
    obtain ⟨m, rfl⟩ := hy'
    simp -implicitDefEqProofs only [oneK_1, so, nrK_d, add_i, st]
    exact r2 _ ds7 c7
  unfold y__law_numbers_so
  rw [vs_seq, vs_set]
  simp -implicitDefEqProofs only [vc, gt, oneK_1, nrK_d, List.getElem?_cons_zero, List.getElem?_cons_succ]
  refine callO [.int 30] rfl fun F X hF => ⟨ds, 30, rfl, rfl, hb, by decide, by decide, fun v ds4 hv c4 => hF _ _ ?_⟩
  simp -implicitDefEqProofs only [oneK_1, so, newL]
  rw [tosK_some (ds := [.int 0, .int 1, .int (-1), .int v]) (by simp [toDs_d, toDs_nil])]
  refine ⟨sz (Nat.le_of_ble_eq_true rfl), ?_⟩
  refine callO [.lst [.int 0, .int 1, .int (-1), .int v]] rfl fun F X hF => .inl ⟨ds4, _, .inl ⟨rfl, rfl⟩, c4, Nat.le_of_ble_eq_true rfl, Nat.lt_of_le_of_lt (Nat.le_of_ble_eq_true rfl : _ ≤ 60) (by decide), fun y ds7 hy c7 => hF _ _ ?_⟩
  have hy' : ∃ n : Int, y = .int n ∧ Bd 117 n := by
    simp only [List.mem_cons, List.not_mem_nil, or_false] at hy
    rcases hy with rfl | rfl | rfl | rfl
    · exact ⟨_, rfl, by unfold Bd; decide⟩
    · exact ⟨_, rfl, by unfold Bd; decide⟩
    · exact ⟨_, rfl, by unfold Bd; decide⟩
    · exact ⟨_, rfl, hv⟩
  obtain ⟨m, rfl, hm⟩ := hy'
  simp -implicitDefEqProofs only [oneK_1, so, st]
  exact r1 m ds7 hm c7
end Z

set_option Elab.async false
set_option linter.all false
set_option maxRecDepth 100000
set_option maxHeartbeats 4000000
namespace Z
open PySem PySem.Spec PyProof.Rows L2
abbrev GL : List (Fk × ZSp) := [("_law_same", sameE 3), ("list_name", lnmZ), ("_law_pick", pickJ), ("_law_draw", drawZ), ("_law_numbers_so", soZ), ("_law_words_so", soZ), ("_law_bag", bagZ)]
theorem two_ok {c1 c2 : Nat} (h1 : c1 ∈ ltS.cps.toList) (h2 : c2 ∈ ltS.cps.toList) : PyData.strOk ((⟨#[c1]⟩ : Str) ++ ⟨#[c2]⟩) = true := by
  have key : ∀ c ∈ ltS.cps.toList, c < 0x110000 := by decide
  have k1 := key c1 h1
  have k2 := key c2 h2
  show (#[c1] ++ #[c2]).all _ = true
  simp [k1, k2]
theorem atI_mem {l : List Nat} {i : Int} {c : Nat} (h : atI l i = some c) : c ∈ l := by
  unfold atI at h
  cases q : ixN l.length i with
  | none => rw [q] at h; cases h
  | some j =>
    rw [q] at h
    exact List.mem_of_getElem? h
theorem pe_pair {n : Nat} {a b : D} (ha : Pe n a) (hb : Pe n b) : Pe (n + 1) (.tup [a, b]) := .tup (by show 2 ≤ 1000; decide) fun d hd => by
  rcases List.mem_cons.mp hd with rfl | hd
  · exact ha
  · rw [List.mem_singleton.mp hd]
    exact hb
/-- wrong numbers -/
def oddL (k : Int) : List D := [.int (-1), .int 676, .int 677, .int (-676), .bl true, .bl false, .non, .str "0", .tup [.int k], .lst [.int k], .dct [] [], .int (10 ^ 39), .int (-k - 1)]
theorem odd_ok {k : Int} (h0 : 0 ≤ k) {d : D} (h : d ∈ oddL k) : Knd d = true ∧ inB d 0 675 = false ∧ Pe 2 d := by
  simp only [oddL, List.mem_cons, List.not_mem_nil, or_false] at h
  rcases h with rfl | rfl | rfl | rfl | rfl | rfl | rfl | rfl | rfl | rfl | rfl | rfl | rfl
  · exact ⟨rfl, rfl, .int _⟩
  · exact ⟨rfl, rfl, .int _⟩
  · exact ⟨rfl, rfl, .int _⟩
  · exact ⟨rfl, rfl, .int _⟩
  · exact ⟨rfl, rfl, .bl _⟩
  · exact ⟨rfl, rfl, .bl _⟩
  · exact ⟨rfl, rfl, .non⟩
  · exact ⟨rfl, rfl, .str _ (by decide +kernel)⟩
  · exact ⟨rfl, rfl, .tup (by show 1 ≤ 1000; decide) fun d hd => by rw [List.mem_singleton.mp hd]; exact .int _⟩
  · exact ⟨rfl, rfl, .lst (by show 1 ≤ 1000; decide) fun d hd => by rw [List.mem_singleton.mp hd]; exact .int _⟩
  · exact ⟨rfl, rfl, .emp⟩
  · exact ⟨rfl, by show (decide ((0 : Int) ≤ 10 ^ 39) && decide ((10 : Int) ^ 39 ≤ 675)) = false; decide, .int _⟩
  · refine ⟨rfl, ?_, .int _⟩
    show (decide ((0 : Int) ≤ -k - 1) && _) = false
    rw [decide_eq_false (by omega)]
    rfl
theorem k_law : Keeps GL y_law N_law.length (lawZ 63) := by
  rintro us O Q E ⟨ns, rfl, rfl, hl, h⟩
  show vcS GL y_law E _ [some (.d (.scr ns)), none, none, none, none, none] []
  unfold y_law
  rw [vs_seq, vs_set]
  simp -implicitDefEqProofs only [vc, gt, oneK_1, List.getElem?_cons_zero, List.getElem?_cons_succ]
  refine callD [.scr ns] ⟨ns, rfl, rfl, fun ds0 hb0 => ?_⟩
  simp -implicitDefEqProofs only [shU_o, ren, List.length_nil, Nat.zero_add, List.nil_append, oneK_1, st]
  rw [vs_seq, vs_set]
  simp -implicitDefEqProofs only [vc, gt, oneK_1, st]
  rw [vs_seq, vs_for]
  simp -implicitDefEqProofs only [vc, gt, oneK_1, nrK_d]
  refine ⟨⟨by decide, by decide⟩, _, rfl, ?_⟩
  refine forR_inv (fun i ρ O => ∃ (ds : List D) (x3 x4 x5 : Option U), O = [.lst ds] ∧ BagOk ds ∧ ρ = [some (.d (.scr ns)), some (.o 0), some (.d (.str ltS)), x3, x4, x5]) _ _ _ 0 ⟨ds0, _, _, _, rfl, hb0, rfl⟩ ?_ ?_
  · rintro j d ρ O he ⟨ds, x3, x4, x5, rfl, hb, rfl⟩ N hN
    simp -implicitDefEqProofs only [bindT, st]
    rw [vs_seq, vs_ite]
    simp -implicitDefEqProofs only [vc, gt, oneK_1, List.getElem?_cons_zero, List.getElem?_cons_succ]
    refine callO [] rfl fun F X hF => ⟨ds, rfl, rfl, hb, fun ds1 c1 => hF _ _ ?_⟩
    rw [boolK_1, Bool.not_true, boolK_1]
    refine ⟨(fun z => by cases z), fun _ => ?_⟩
    simp -implicitDefEqProofs only [so]
    refine callO [] rfl fun F X hF => ⟨ds1, rfl, rfl, c1, fun ds2 c2 => hF _ _ ?_⟩
    rw [boolK_1, Bool.not_true, boolK_1]
    refine ⟨(fun z => by cases z), fun _ => ?_⟩
    simp -implicitDefEqProofs only [so]
    rw [vs_nil]
    dsimp only
    rw [vs_seq, vs_set]
    simp -implicitDefEqProofs only [vc, gt, oneK_1, List.getElem?_cons_zero, List.getElem?_cons_succ]
    refine callO [.int 676] rfl fun F X hF => ⟨ds2, 676, rfl, rfl, c2, by decide, by decide, fun r1 ds3 a1 b1 c3 => hF _ _ ?_⟩
    simp -implicitDefEqProofs only [so, oneK_1]
    refine callO [.int 676] rfl fun F X hF => ⟨ds3, 676, rfl, rfl, c3, by decide, by decide, fun r2 ds4 a2 b2 c4 => hF _ _ ?_⟩
    simp -implicitDefEqProofs only [so, oneK_1, newL]
    rw [tosK_some (ds := [.int 0, .int 25, .int 26, .int 675, .int r1, .int r2]) (by simp [toDs_d, toDs_nil])]
    refine ⟨sz (Nat.le_of_ble_eq_true rfl), ?_⟩
    refine callO [.lst [.int 0, .int 25, .int 26, .int 675, .int r1, .int r2]] rfl fun F X hF => .inl ⟨ds4, _, .inl ⟨rfl, rfl⟩, c4, Nat.le_of_ble_eq_true rfl, Nat.lt_of_le_of_lt (Nat.le_of_ble_eq_true rfl : _ ≤ 60) (by decide), fun y ds5 hy c5 => hF _ _ ?_⟩
    have hy' : ∃ n : Int, y = .int n ∧ 0 ≤ n ∧ n ≤ 675 := by
      simp only [List.mem_cons, List.not_mem_nil, or_false] at hy
      rcases hy with rfl | rfl | rfl | rfl | rfl | rfl
      · exact ⟨_, rfl, by decide, by decide⟩
      · exact ⟨_, rfl, by decide, by decide⟩
      · exact ⟨_, rfl, by decide, by decide⟩
      · exact ⟨_, rfl, by decide, by decide⟩
      · exact ⟨_, rfl, a1, by omega⟩
      · exact ⟨_, rfl, a2, by omega⟩
    obtain ⟨k, rfl, k0, k1⟩ := hy'
    obtain ⟨⟨e1, he1⟩, e2, he2⟩ := two_at k0 k1
    simp -implicitDefEqProofs only [so, oneK_1, st]
    rw [vs_seq, vs_ite]
    simp -implicitDefEqProofs only [vc, gt, oneK_1, nrK_d, nrsK_1, int_i, div_i, mod_i, ix_s, add_s, List.getElem?_cons_zero, List.getElem?_cons_succ]
    refine ⟨divOk_pos (by decide) (by decide), e1, by decide, he1, by decide, e2, by decide, he2, (by decide : 1 + 1 ≤ sizeLine), ?_⟩
    simp -implicitDefEqProofs only [tosK_2, oneK_1, toK_d]
    refine ⟨sz (Nat.le_of_ble_eq_true rfl), ?_⟩
    refine callDE [.int k] fun F X hF hX => ⟨.int k, rfl, rfl, rfl, fun k' c1' c2' e k0' k1' h1 h2 => hF _ ?_, fun z => ?_⟩
    · cases e
      rw [he1] at h1
      rw [he2] at h2
      cases h1
      cases h2
      simp -implicitDefEqProofs only [oneK_1, toK_d]
      refine callD0 [_, _] fun F' X hF' => ⟨_, rfl, rfl, pe_pair (.str _ (by decide +kernel)) (.str _ (two_ok (atI_mem he1) (atI_mem he2))), hF' _ ?_⟩
      rw [boolK_1, Bool.not_true, boolK_1]
      refine ⟨(fun z => by cases z), fun _ => ?_⟩
      rw [vs_nil]
      dsimp only
      rw [vs_seq, vs_set]
      simp -implicitDefEqProofs only [vc, gt, oneK_1, nrK_d, pow_i, sub_i, tosK_1, newL, List.getElem?_cons_zero, List.getElem?_cons_succ]
      refine ⟨sz (Nat.le_of_ble_eq_true rfl), sz (Nat.le_of_ble_eq_true rfl), ⟨by decide, by decide, by decide⟩, ?_⟩
      rw [tosK_some (ds := oddL k) (by simp [toDs_d, toDs_nil, oddL])]
      refine ⟨sz (Nat.le_of_ble_eq_true rfl), ?_⟩
      refine callO [.lst (oddL k)] rfl fun F X hF => .inl ⟨ds5, _, .inl ⟨rfl, rfl⟩, c5, Nat.le_of_ble_eq_true rfl, Nat.lt_of_le_of_lt (Nat.le_of_ble_eq_true rfl : _ ≤ 60) (by decide), fun o ds6 ho c6 => hF _ _ ?_⟩
      obtain ⟨o1, o2, o3⟩ := odd_ok k0 ho
      simp -implicitDefEqProofs only [so, oneK_1, st]
      rw [vs_seq, vs_ite]
      simp -implicitDefEqProofs only [vc, gt, oneK_1, tosK_2, toK_d, List.getElem?_cons_zero, List.getElem?_cons_succ]
      refine ⟨sz (Nat.le_of_ble_eq_true rfl), ?_⟩
      refine callDE [o] fun F X hF hX => ⟨o, rfl, rfl, o1, fun k' c1' c2' e k0' k1' h1 h2 => ?_, fun _ => hX _ ⟨(by decide +kernel : ("InvalidNumber" : Str) ∈ exs), _, lf_number, ?_⟩⟩
      · exfalso
        subst e
        have : (decide (0 ≤ k') && decide (k' ≤ 675)) = false := o2
        rw [decide_eq_true k0', decide_eq_true k1'] at this
        cases this
      · refine callD0 [_, _] fun F' X hF' => ⟨_, rfl, rfl, pe_pair (.str _ (by decide +kernel)) o3, hF' _ ?_⟩
        rw [boolK_1, Bool.not_true, boolK_1]
        refine ⟨(fun z => by cases z), fun _ => ?_⟩
        rw [vs_nil]
        dsimp only
        rw [vs_nil]
        exact hN _ _ ⟨ds6, _, _, _, rfl, c6, rfl⟩
    · exfalso
      have : (decide (0 ≤ k) && decide (k ≤ 675)) = false := z
      rw [decide_eq_true k0, decide_eq_true k1] at this
      cases this
  · rintro ρ O ⟨ds, x3, x4, x5, rfl, hb, rfl⟩
    dsimp only
    rw [vs_seq, vs_ret]
    simp -implicitDefEqProofs only [vc, oneK_1]
    exact h _
theorem kw_num : ∀ us O Q E, numZ us O Q E → us.length = 1 + [("least" : Str), "most"].length ∧ numZ (gix [(0, 0), (2, 0), (2, 1)] (us.take 1) [] (us.drop 1)) O Q E := by
  rintro us O Q E ⟨d, a, b, rfl, rfl, h⟩
  exact ⟨rfl, d, a, b, rfl, rfl, h⟩
theorem pick_w : ∀ us O Q E, pickZ us O Q E → pickJ us O Q E := fun _ _ _ _ h => .inl h
end Z

set_option Elab.async false
set_option linter.all false
set_option maxRecDepth 100000
set_option maxHeartbeats 0
namespace Z
open PySem PySem.Spec PyProof.Rows L2
def hd10 : He.DefD := ⟨("is_name", none), "is_name", "is_name", defArgs (top 10), defBody (top 10), defScope (top 10), [], []⟩
def hd11 : He.DefD := ⟨("is_kind", none), "is_kind", "is_kind", defArgs (top 11), defBody (top 11), defScope (top 11), [], []⟩
def hd12 : He.DefD := ⟨("is_plain", none), "is_plain", "is_plain", defArgs (top 12), defBody (top 12), defScope (top 12), [], []⟩
def hd13 : He.DefD := ⟨("is_any_number", none), "is_any_number", "is_any_number", defArgs (top 13), defBody (top 13), defScope (top 13), [], []⟩
def hd14 : He.DefD := ⟨("is_number", none), "is_number", "is_number", defArgs (top 14), defBody (top 14), defScope (top 14), [], []⟩
def hd15 : He.DefD := ⟨("list_name", none), "list_name", "list_name", defArgs (top 15), defBody (top 15), defScope (top 15), [], []⟩
def hd17 : He.DefD := ⟨("_law_bag", none), "_law_bag", "_law_bag", defArgs (top 17), defBody (top 17), defScope (top 17), [], []⟩
def hd18 : He.DefD := ⟨("_law_draw", none), "_law_draw", "_law_draw", defArgs (top 18), defBody (top 18), defScope (top 18), [], []⟩
def hd19 : He.DefD := ⟨("_law_pick", none), "_law_pick", "_law_pick", defArgs (top 19), defBody (top 19), defScope (top 19), [], []⟩
def hd20 : He.DefD := ⟨("_law_huge", none), "_law_huge", "_law_huge", defArgs (top 20), defBody (top 20), defScope (top 20), [], []⟩
def hd21 : He.DefD := ⟨("_law_number", none), "_law_number", "_law_number", defArgs (top 21), defBody (top 21), defScope (top 21), [], []⟩
def hd22 : He.DefD := ⟨("_law_word", none), "_law_word", "_law_word", defArgs (top 22), defBody (top 22), defScope (top 22), [], []⟩
def hd23 : He.DefD := ⟨("_law_int", none), "_law_int", "_law_int", defArgs (top 23), defBody (top 23), defScope (top 23), [], []⟩
def hd24 : He.DefD := ⟨("_law_is_name", none), "_law_is_name", "_law_is_name", defArgs (top 24), defBody (top 24), defScope (top 24), [], []⟩
def hd25 : He.DefD := ⟨("_law_is_kind", none), "_law_is_kind", "_law_is_kind", defArgs (top 25), defBody (top 25), defScope (top 25), [], []⟩
def hd26 : He.DefD := ⟨("_law_same", none), "_law_same", "_law_same", defArgs (top 26), defBody (top 26), defScope (top 26), [], []⟩
def hd27 : He.DefD := ⟨("_law_fields", none), "_law_fields", "_law_fields", defArgs (top 27), defBody (top 27), defScope (top 27), [], []⟩
def hd28 : He.DefD := ⟨("_law_got", none), "_law_got", "_law_got", defArgs (top 28), defBody (top 28), defScope (top 28), [], []⟩
def hd29 : He.DefD := ⟨("_law_is", none), "_law_is", "_law_is", defArgs (top 29), defBody (top 29), defScope (top 29), [], []⟩
def hd30 : He.DefD := ⟨("_law_odd", none), "_law_odd", "_law_odd", defArgs (top 30), defBody (top 30), defScope (top 30), [], []⟩
def hd31 : He.DefD := ⟨("_law_thing", none), "_law_thing", "_law_thing", defArgs (top 31), defBody (top 31), defScope (top 31), [], []⟩
def hd32 : He.DefD := ⟨("_law_words_so", none), "_law_words_so", "_law_words_so", defArgs (top 32), defBody (top 32), defScope (top 32), [], []⟩
def hd33 : He.DefD := ⟨("_law_numbers_so", none), "_law_numbers_so", "_law_numbers_so", defArgs (top 33), defBody (top 33), defScope (top 33), [], []⟩
def hd34 : He.DefD := ⟨("law", none), "law", "law", defArgs (top 34), defBody (top 34), defScope (top 34), [], []⟩
def hdx3 : He.DefD := ⟨("InvalidNumber", some "__init__"), "__init__", "InvalidNumber.__init__", defArgs (inClass (top 3) 0), defBody (inClass (top 3) 0), defScope (inClass (top 3) 0), [], []⟩
def hdx4 : He.DefD := ⟨("InvalidName", some "__init__"), "__init__", "InvalidName.__init__", defArgs (inClass (top 4) 0), defBody (inClass (top 4) 0), defScope (inClass (top 4) 0), [], []⟩
def lfn : List He.DefD := [hd10, hd11, hd12, hd13, hd14, hd15, hd17, hd18, hd19, hd20, hd21, hd22, hd23, hd24, hd25, hd26, hd27, hd28, hd29, hd30, hd31, hd32, hd33, hd34, hdx3, hdx4]
def lfa : List He.Fa := [.glo "is_name", .glo "is_kind", .glo "is_plain", .glo "is_any_number", .glo "is_number", .glo "list_name", .glo "_law_bag", .glo "_law_draw", .glo "_law_pick", .glo "_law_huge", .glo "_law_number", .glo "_law_word", .glo "_law_int", .glo "_law_is_name", .glo "_law_is_kind", .glo "_law_same", .glo "_law_fields", .glo "_law_got", .glo "_law_is", .glo "_law_odd", .glo "_law_thing", .glo "_law_words_so", .glo "_law_numbers_so", .glo "law", .glo "InvalidNumber", .glo "InvalidName", .glo "NetError", .glo "Missing", .free "len", .free "abs", .free "int", .free "list", .free "tuple", .free "sum", .free "all", .free "any", .free "min", .free "max", .free "isinstance", .free "range", .free "enumerate", .free "zip", .free "reversed", .free "bool", .free "str", .free "dict", .free "sorted", .free "repr", .int "LONGEST_NAME" 6, .int "LONGEST_KIND" 2000, .str "LETTERS" "abcdefghijklmnopqrstuvwxyz", .str "KIND_SIGNS" "abcdefghijklmnopqrstuvwxyz()[],"]
/-- the defs with lambdas -/
def ltf : List Str := ["law"]
def ltd : List He.Defn := ltf.map fun x => (x, none)
def hex (K : PySem.W.Frag) : Bool := xcs.all (xcB K) && exs.all (excFB K) && tfU K ltf
def hnames : List PySem.Str := (["NetError", "Missing", "InvalidNumber", "InvalidName", "LETTERS", "KIND_SIGNS", "LONGEST_NAME", "LONGEST_KIND", "is_name", "is_kind", "is_plain", "is_any_number", "is_number", "list_name", "_law_bag", "_law_draw", "_law_pick", "_law_huge", "_law_number", "_law_word", "_law_int", "_law_is_name", "_law_is_kind", "_law_same", "_law_fields", "_law_got", "_law_is", "_law_odd", "_law_thing", "_law_words_so"] : List PySem.Str) ++ (["_law_numbers_so"] : List PySem.Str)
abbrev HR : PySem.W.OpenRow := PySem.W.OpenLaw.row PySem.Challenge.rw_endlessnets_k01_words_judged
abbrev hhk : PySem.W.Hook := He.hookX 5 lfa lfn [] ltd hex
def hob (s : PySem.W.SharedT) : He.AlX := He.obsX 5 lfa lfn [] ltd hex (HandSHeadRun.getT s)
theorem hob_eq (s : PySem.W.SharedT) : hob s = hhk.obs s.abs := He.obsX_eq (HandSHeadRun.getT_eq s)
theorem hrun (w : World) : HandSHeadRun.RunEq HR (PySem.W.view HR.prog [34]) hhk hob 8000 hnames w := by
  intro os
  kernel_rfl
theorem law_at (P : Program) (hP : P = (PySem.Challenge.rw_endlessnets_k01_words_judged).prog) {w : World} {K : PySem.W.Frag} {h : Heap} {mg : Str → Option Value} {fa : Addr} (X : K.In h) (G : h.Ns mainGlobals mg) (hfa : mg ("law" : Str) = some (.ref fa)) (c : He.SaysD lfa lfn K) (hm : hex K = true) :
    ∃ fd : FuncData, (∀ (s : Shared) (v : Value), BindsTo s fd ⟨[v], []⟩ [("_law_script", v)]) ∧ ∀ base : Heap, K.In base → base.Ns mainGlobals mg → (∀ p ∈ ltf.map fun x => He.cT K (x, none), LamX.TabB base mg p.1 p.2) → FnOk P w K mg base (L2.CX P w) 24 fa fd ["_law_script"] (lowSp ⟨K, tfT K ltf⟩ (lawZ 63)) := by
  obtain ⟨hm, hu⟩ := ba hm
  obtain ⟨hxc, hxe⟩ := ba hm
  obtain ⟨fd10, F100⟩ := c.def_ 0 (d := hd10) rfl
  have F10 : FunD K "is_name" "is_name" (defArgs (top 10)) (defBody (top 10)) (defScope (top 10)) [] [] (He.ga K "is_name") fd10 := F100
  have m10 : mg "is_name" = some (.ref (He.ga K "is_name")) := He.glo_ok X G (c.fact 0 (f := .glo "is_name") rfl)
  obtain ⟨fd11, F110⟩ := c.def_ 1 (d := hd11) rfl
  have F11 : FunD K "is_kind" "is_kind" (defArgs (top 11)) (defBody (top 11)) (defScope (top 11)) [] [] (He.ga K "is_kind") fd11 := F110
  have m11 : mg "is_kind" = some (.ref (He.ga K "is_kind")) := He.glo_ok X G (c.fact 1 (f := .glo "is_kind") rfl)
  obtain ⟨fd12, F120⟩ := c.def_ 2 (d := hd12) rfl
  have F12 : FunD K "is_plain" "is_plain" (defArgs (top 12)) (defBody (top 12)) (defScope (top 12)) [] [] (He.ga K "is_plain") fd12 := F120
  have m12 : mg "is_plain" = some (.ref (He.ga K "is_plain")) := He.glo_ok X G (c.fact 2 (f := .glo "is_plain") rfl)
  obtain ⟨fd13, F130⟩ := c.def_ 3 (d := hd13) rfl
  have F13 : FunD K "is_any_number" "is_any_number" (defArgs (top 13)) (defBody (top 13)) (defScope (top 13)) [] [] (He.ga K "is_any_number") fd13 := F130
  have m13 : mg "is_any_number" = some (.ref (He.ga K "is_any_number")) := He.glo_ok X G (c.fact 3 (f := .glo "is_any_number") rfl)
  obtain ⟨fd14, F140⟩ := c.def_ 4 (d := hd14) rfl
  have F14 : FunD K "is_number" "is_number" (defArgs (top 14)) (defBody (top 14)) (defScope (top 14)) [] [] (He.ga K "is_number") fd14 := F140
  have m14 : mg "is_number" = some (.ref (He.ga K "is_number")) := He.glo_ok X G (c.fact 4 (f := .glo "is_number") rfl)
  obtain ⟨fd15, F150⟩ := c.def_ 5 (d := hd15) rfl
  have F15 : FunD K "list_name" "list_name" (defArgs (top 15)) (defBody (top 15)) (defScope (top 15)) [] [] (He.ga K "list_name") fd15 := F150
  have m15 : mg "list_name" = some (.ref (He.ga K "list_name")) := He.glo_ok X G (c.fact 5 (f := .glo "list_name") rfl)
  obtain ⟨fd17, F170⟩ := c.def_ 6 (d := hd17) rfl
  have F17 : FunD K "_law_bag" "_law_bag" (defArgs (top 17)) (defBody (top 17)) (defScope (top 17)) [] [] (He.ga K "_law_bag") fd17 := F170
  have m17 : mg "_law_bag" = some (.ref (He.ga K "_law_bag")) := He.glo_ok X G (c.fact 6 (f := .glo "_law_bag") rfl)
  obtain ⟨fd18, F180⟩ := c.def_ 7 (d := hd18) rfl
  have F18 : FunD K "_law_draw" "_law_draw" (defArgs (top 18)) (defBody (top 18)) (defScope (top 18)) [] [] (He.ga K "_law_draw") fd18 := F180
  have m18 : mg "_law_draw" = some (.ref (He.ga K "_law_draw")) := He.glo_ok X G (c.fact 7 (f := .glo "_law_draw") rfl)
  obtain ⟨fd19, F190⟩ := c.def_ 8 (d := hd19) rfl
  have F19 : FunD K "_law_pick" "_law_pick" (defArgs (top 19)) (defBody (top 19)) (defScope (top 19)) [] [] (He.ga K "_law_pick") fd19 := F190
  have m19 : mg "_law_pick" = some (.ref (He.ga K "_law_pick")) := He.glo_ok X G (c.fact 8 (f := .glo "_law_pick") rfl)
  obtain ⟨fd20, F200⟩ := c.def_ 9 (d := hd20) rfl
  have F20 : FunD K "_law_huge" "_law_huge" (defArgs (top 20)) (defBody (top 20)) (defScope (top 20)) [] [] (He.ga K "_law_huge") fd20 := F200
  have m20 : mg "_law_huge" = some (.ref (He.ga K "_law_huge")) := He.glo_ok X G (c.fact 9 (f := .glo "_law_huge") rfl)
  obtain ⟨fd21, F210⟩ := c.def_ 10 (d := hd21) rfl
  have F21 : FunD K "_law_number" "_law_number" (defArgs (top 21)) (defBody (top 21)) (defScope (top 21)) [] [] (He.ga K "_law_number") fd21 := F210
  have m21 : mg "_law_number" = some (.ref (He.ga K "_law_number")) := He.glo_ok X G (c.fact 10 (f := .glo "_law_number") rfl)
  obtain ⟨fd22, F220⟩ := c.def_ 11 (d := hd22) rfl
  have F22 : FunD K "_law_word" "_law_word" (defArgs (top 22)) (defBody (top 22)) (defScope (top 22)) [] [] (He.ga K "_law_word") fd22 := F220
  have m22 : mg "_law_word" = some (.ref (He.ga K "_law_word")) := He.glo_ok X G (c.fact 11 (f := .glo "_law_word") rfl)
  obtain ⟨fd23, F230⟩ := c.def_ 12 (d := hd23) rfl
  have F23 : FunD K "_law_int" "_law_int" (defArgs (top 23)) (defBody (top 23)) (defScope (top 23)) [] [] (He.ga K "_law_int") fd23 := F230
  have m23 : mg "_law_int" = some (.ref (He.ga K "_law_int")) := He.glo_ok X G (c.fact 12 (f := .glo "_law_int") rfl)
  obtain ⟨fd24, F240⟩ := c.def_ 13 (d := hd24) rfl
  have F24 : FunD K "_law_is_name" "_law_is_name" (defArgs (top 24)) (defBody (top 24)) (defScope (top 24)) [] [] (He.ga K "_law_is_name") fd24 := F240
  have m24 : mg "_law_is_name" = some (.ref (He.ga K "_law_is_name")) := He.glo_ok X G (c.fact 13 (f := .glo "_law_is_name") rfl)
  obtain ⟨fd25, F250⟩ := c.def_ 14 (d := hd25) rfl
  have F25 : FunD K "_law_is_kind" "_law_is_kind" (defArgs (top 25)) (defBody (top 25)) (defScope (top 25)) [] [] (He.ga K "_law_is_kind") fd25 := F250
  have m25 : mg "_law_is_kind" = some (.ref (He.ga K "_law_is_kind")) := He.glo_ok X G (c.fact 14 (f := .glo "_law_is_kind") rfl)
  obtain ⟨fd26, F260⟩ := c.def_ 15 (d := hd26) rfl
  have F26 : FunD K "_law_same" "_law_same" (defArgs (top 26)) (defBody (top 26)) (defScope (top 26)) [] [] (He.ga K "_law_same") fd26 := F260
  have m26 : mg "_law_same" = some (.ref (He.ga K "_law_same")) := He.glo_ok X G (c.fact 15 (f := .glo "_law_same") rfl)
  obtain ⟨fd27, F270⟩ := c.def_ 16 (d := hd27) rfl
  have F27 : FunD K "_law_fields" "_law_fields" (defArgs (top 27)) (defBody (top 27)) (defScope (top 27)) [] [] (He.ga K "_law_fields") fd27 := F270
  have m27 : mg "_law_fields" = some (.ref (He.ga K "_law_fields")) := He.glo_ok X G (c.fact 16 (f := .glo "_law_fields") rfl)
  obtain ⟨fd28, F280⟩ := c.def_ 17 (d := hd28) rfl
  have F28 : FunD K "_law_got" "_law_got" (defArgs (top 28)) (defBody (top 28)) (defScope (top 28)) [] [] (He.ga K "_law_got") fd28 := F280
  have m28 : mg "_law_got" = some (.ref (He.ga K "_law_got")) := He.glo_ok X G (c.fact 17 (f := .glo "_law_got") rfl)
  obtain ⟨fd29, F290⟩ := c.def_ 18 (d := hd29) rfl
  have F29 : FunD K "_law_is" "_law_is" (defArgs (top 29)) (defBody (top 29)) (defScope (top 29)) [] [] (He.ga K "_law_is") fd29 := F290
  have m29 : mg "_law_is" = some (.ref (He.ga K "_law_is")) := He.glo_ok X G (c.fact 18 (f := .glo "_law_is") rfl)
  obtain ⟨fd30, F300⟩ := c.def_ 19 (d := hd30) rfl
  have F30 : FunD K "_law_odd" "_law_odd" (defArgs (top 30)) (defBody (top 30)) (defScope (top 30)) [] [] (He.ga K "_law_odd") fd30 := F300
  have m30 : mg "_law_odd" = some (.ref (He.ga K "_law_odd")) := He.glo_ok X G (c.fact 19 (f := .glo "_law_odd") rfl)
  obtain ⟨fd31, F310⟩ := c.def_ 20 (d := hd31) rfl
  have F31 : FunD K "_law_thing" "_law_thing" (defArgs (top 31)) (defBody (top 31)) (defScope (top 31)) [] [] (He.ga K "_law_thing") fd31 := F310
  have m31 : mg "_law_thing" = some (.ref (He.ga K "_law_thing")) := He.glo_ok X G (c.fact 20 (f := .glo "_law_thing") rfl)
  obtain ⟨fd32, F320⟩ := c.def_ 21 (d := hd32) rfl
  have F32 : FunD K "_law_words_so" "_law_words_so" (defArgs (top 32)) (defBody (top 32)) (defScope (top 32)) [] [] (He.ga K "_law_words_so") fd32 := F320
  have m32 : mg "_law_words_so" = some (.ref (He.ga K "_law_words_so")) := He.glo_ok X G (c.fact 21 (f := .glo "_law_words_so") rfl)
  obtain ⟨fd33, F330⟩ := c.def_ 22 (d := hd33) rfl
  have F33 : FunD K "_law_numbers_so" "_law_numbers_so" (defArgs (top 33)) (defBody (top 33)) (defScope (top 33)) [] [] (He.ga K "_law_numbers_so") fd33 := F330
  have m33 : mg "_law_numbers_so" = some (.ref (He.ga K "_law_numbers_so")) := He.glo_ok X G (c.fact 22 (f := .glo "_law_numbers_so") rfl)
  obtain ⟨fd34, F340⟩ := c.def_ 23 (d := hd34) rfl
  have F34 : FunD K "law" "law" (defArgs (top 34)) (defBody (top 34)) (defScope (top 34)) [] [] (He.ga K "law") fd34 := F340
  have m34 : mg "law" = some (.ref (He.ga K "law")) := He.glo_ok X G (c.fact 23 (f := .glo "law") rfl)
  obtain ⟨fx3, X30⟩ := c.def_ 24 (d := hdx3) rfl
  have X3 : FunD K "__init__" "InvalidNumber.__init__" (defArgs (inClass (top 3) 0)) (defBody (inClass (top 3) 0)) (defScope (inClass (top 3) 0)) [] [] (He.ma K (He.ga K "InvalidNumber") "__init__") fx3 := X30
  have mx3 : mg "InvalidNumber" = some (.ref (He.ga K "InvalidNumber")) := He.glo_ok X G (c.fact 24 (f := .glo "InvalidNumber") rfl)
  obtain ⟨fx4, X40⟩ := c.def_ 25 (d := hdx4) rfl
  have X4 : FunD K "__init__" "InvalidName.__init__" (defArgs (inClass (top 4) 0)) (defBody (inClass (top 4) 0)) (defScope (inClass (top 4) 0)) [] [] (He.ma K (He.ga K "InvalidName") "__init__") fx4 := X40
  have mx4 : mg "InvalidName" = some (.ref (He.ga K "InvalidName")) := He.glo_ok X G (c.fact 25 (f := .glo "InvalidName") rfl)
  have hfree : ∀ y ∈ bnames, mg y = none := by
    intro y hy
    simp only [bnames, List.mem_cons, List.not_mem_nil, or_false] at hy
    rcases hy with rfl | rfl | rfl | rfl | rfl | rfl | rfl | rfl | rfl | rfl | rfl | rfl | rfl | rfl | rfl | rfl | rfl | rfl | rfl | rfl
    · exact He.free_ok X G (c.fact 28 (f := .free "len") rfl)
    · exact He.free_ok X G (c.fact 29 (f := .free "abs") rfl)
    · exact He.free_ok X G (c.fact 30 (f := .free "int") rfl)
    · exact He.free_ok X G (c.fact 31 (f := .free "list") rfl)
    · exact He.free_ok X G (c.fact 32 (f := .free "tuple") rfl)
    · exact He.free_ok X G (c.fact 33 (f := .free "sum") rfl)
    · exact He.free_ok X G (c.fact 34 (f := .free "all") rfl)
    · exact He.free_ok X G (c.fact 35 (f := .free "any") rfl)
    · exact He.free_ok X G (c.fact 36 (f := .free "min") rfl)
    · exact He.free_ok X G (c.fact 37 (f := .free "max") rfl)
    · exact He.free_ok X G (c.fact 38 (f := .free "isinstance") rfl)
    · exact He.free_ok X G (c.fact 39 (f := .free "range") rfl)
    · exact He.free_ok X G (c.fact 40 (f := .free "enumerate") rfl)
    · exact He.free_ok X G (c.fact 41 (f := .free "zip") rfl)
    · exact He.free_ok X G (c.fact 42 (f := .free "reversed") rfl)
    · exact He.free_ok X G (c.fact 43 (f := .free "bool") rfl)
    · exact He.free_ok X G (c.fact 44 (f := .free "str") rfl)
    · exact He.free_ok X G (c.fact 45 (f := .free "dict") rfl)
    · exact He.free_ok X G (c.fact 46 (f := .free "sorted") rfl)
    · exact He.free_ok X G (c.fact 47 (f := .free "repr") rfl)
  have e := hfa.symm.trans m34
  cases e
  have bl := FunD.bindsA (ps := ["_law_script"]) F34 fun _ _ _ _ _ _ us hl => match us, hl with | [_], _ => rfl
  refine ⟨fd34, fun s v => bl s [v] rfl, fun base _ _ hT => ?_⟩
  have hask : AskE K mg exs true := ⟨⟨_, _, ⟨⟨_, _, _, F27, m27, (F27.bindsN fun _ _ _ _ _ _ us hl => match us, hl with | [_], _ => rfl)⟩, C8.fnScope_by as_fields⟩, ak_fields, al_fields⟩, ⟨_, _, ⟨⟨_, _, _, F28, m28, (F28.bindsN fun _ _ _ _ _ _ us hl => match us, hl with | [_], _ => rfl)⟩, C8.fnScope_by as_got⟩, ak_got⟩, fun _ => ⟨_, _, ⟨⟨_, _, _, F29, m29, (F29.bindsN fun _ _ _ _ _ _ us hl => match us, hl with | [_, _], _ => rfl)⟩, C8.fnScope_by as_is⟩, ak_is⟩, He.glo_ok X G (c.fact 26 (f := .glo "NetError") rfl), He.glo_ok X G (c.fact 27 (f := .glo "Missing") rfl), fun C hC => excFB_ok (List.all_eq_true.mp hxe C hC)⟩
  have hxs : ∀ e ∈ xcs, XcF P w K mg base e := by
    intro e he
    have hb := List.all_eq_true.mp hxc e he
    simp only [xcs, List.mem_cons, List.not_mem_nil, or_false] at he
    rcases he with rfl | rfl
    · exact xcF_of (ps := xp_InvalidNumber) hb mx3 X3 (X3.bindsN fun _ _ _ _ _ _ us hl => match us, hl with | [_, _], _ => rfl) xs_InvalidNumber rfl xl_InvalidNumber rfl xi_InvalidNumber (by decide) (by decide) (by decide)
    · exact xcF_of (ps := xp_InvalidName) hb mx4 X4 (X4.bindsN fun _ _ _ _ _ _ us hl => match us, hl with | [_, _], _ => rfl) xs_InvalidName rfl xl_InvalidName rfl xi_InvalidName (by decide) (by decide) (by decide)
  have hgi : ∀ p ∈ gints, ∃ t, mg p.1 = some (.int p.2 t) := by
    intro p hp
    simp only [gints, List.mem_cons, List.not_mem_nil, or_false] at hp
    rcases hp with rfl | rfl
    · exact He.int_ok X G (c.fact 48 (f := .int "LONGEST_NAME" 6) rfl)
    · exact He.int_ok X G (c.fact 49 (f := .int "LONGEST_KIND" 2000) rfl)
  have hgs : ∀ p ∈ gstrs, ∃ t, mg p.1 = some (.str p.2 t) := by
    intro p hp
    simp only [gstrs, List.mem_cons, List.not_mem_nil, or_false] at hp
    rcases hp with rfl | rfl
    · exact He.str_ok X G (c.fact 50 (f := .str "LETTERS" "abcdefghijklmnopqrstuvwxyz") rfl)
    · exact He.str_ok X G (c.fact 51 (f := .str "KIND_SIGNS" "abcdefghijklmnopqrstuvwxyz()[],") rfl)
  have Wd : Wld P w K mg base ⟨K, tfT K ltf⟩ exs gints gstrs xcs true true := ⟨rfl, hfree, hgi, hgs, hxs, fun _ => hask⟩
  have oh_is_any_number : FnOk P w K mg base (L2.CX P w) 4 (He.ga K "is_any_number") fd13 ps_is_any_number (lowSp ⟨K, tfT K ltf⟩ (intZ)) := fnOk_of (G := ⟨K, tfT K ltf⟩) (k := 0) (Γ := []) (z := y_is_any_number) (S := intZ) F13 Wd (fun z => by cases z) (fun z => by cases z) sc_is_any_number ck_is_any_number (FnTs.get .nil) (by intro us O Q E h; repeat' (first | (rcases h with ⟨e, h⟩; subst e; rfl) | (rcases h with ⟨_, h⟩))) k_is_any_number
  have h_is_any_number : FnT P w K mg base ⟨K, tfT K ltf⟩ 4 ("is_any_number", []) (intZ) := FnT.raw m13 F13.kp oh_is_any_number (F13.bindsN fun _ _ _ _ _ _ us hl => match us, hl with | [_], _ => rfl)
  have oh__law_draw : FnOk P w K mg base (L2.CX P w) 4 (He.ga K "_law_draw") fd18 ps__law_draw (lowSp ⟨K, tfT K ltf⟩ (drawZ)) := fnOk_of (G := ⟨K, tfT K ltf⟩) (k := 0) (Γ := []) (z := y__law_draw) (S := drawZ) F18 Wd (fun z => by cases z) (fun z => by cases z) sc__law_draw ck__law_draw (FnTs.get .nil) (by intro us O Q E h; repeat' (first | (rcases h with ⟨e, h⟩; subst e; rfl) | (rcases h with ⟨_, h⟩))) k_law_draw
  have h__law_draw : FnT P w K mg base ⟨K, tfT K ltf⟩ 4 ("_law_draw", []) (drawZ) := FnT.raw m18 F18.kp oh__law_draw (F18.bindsN fun _ _ _ _ _ _ us hl => match us, hl with | [_, _], _ => rfl)
  have oh__law_int : FnOk P w K mg base (L2.CX P w) 4 (He.ga K "_law_int") fd23 ps__law_int (lowSp ⟨K, tfT K ltf⟩ (intZ)) := fnOk_of (G := ⟨K, tfT K ltf⟩) (k := 0) (Γ := []) (z := y__law_int) (S := intZ) F23 Wd (fun z => by cases z) (fun z => by cases z) sc__law_int ck__law_int (FnTs.get .nil) (by intro us O Q E h; repeat' (first | (rcases h with ⟨e, h⟩; subst e; rfl) | (rcases h with ⟨_, h⟩))) k_law_int
  have h__law_int : FnT P w K mg base ⟨K, tfT K ltf⟩ 4 ("_law_int", []) (intZ) := FnT.raw m23 F23.kp oh__law_int (F23.bindsN fun _ _ _ _ _ _ us hl => match us, hl with | [_], _ => rfl)
  have oh__law_is_kind : FnOk P w K mg base (L2.CX P w) 4 (He.ga K "_law_is_kind") fd25 ps__law_is_kind (lowSp ⟨K, tfT K ltf⟩ (oneZ kdB)) := fnOk_of (G := ⟨K, tfT K ltf⟩) (k := 0) (Γ := []) (z := y__law_is_kind) (S := oneZ kdB) F25 Wd (fun z => by cases z) (fun z => by cases z) sc__law_is_kind ck__law_is_kind (FnTs.get .nil) (by intro us O Q E h; repeat' (first | (rcases h with ⟨e, h⟩; subst e; rfl) | (rcases h with ⟨_, h⟩))) k__law_is_kind
  have h__law_is_kind : FnT P w K mg base ⟨K, tfT K ltf⟩ 4 ("_law_is_kind", []) (oneZ kdB) := FnT.raw m25 F25.kp oh__law_is_kind (F25.bindsN fun _ _ _ _ _ _ us hl => match us, hl with | [_], _ => rfl)
  have oh__law_is_name : FnOk P w K mg base (L2.CX P w) 4 (He.ga K "_law_is_name") fd24 ps__law_is_name (lowSp ⟨K, tfT K ltf⟩ (oneZ nmB)) := fnOk_of (G := ⟨K, tfT K ltf⟩) (k := 0) (Γ := []) (z := y__law_is_name) (S := oneZ nmB) F24 Wd (fun z => by cases z) (fun z => by cases z) sc__law_is_name ck__law_is_name (FnTs.get .nil) (by intro us O Q E h; repeat' (first | (rcases h with ⟨e, h⟩; subst e; rfl) | (rcases h with ⟨_, h⟩))) k__law_is_name
  have h__law_is_name : FnT P w K mg base ⟨K, tfT K ltf⟩ 4 ("_law_is_name", []) (oneZ nmB) := FnT.raw m24 F24.kp oh__law_is_name (F24.bindsN fun _ _ _ _ _ _ us hl => match us, hl with | [_], _ => rfl)
  have oh_is_kind : FnOk P w K mg base (L2.CX P w) 4 (He.ga K "is_kind") fd11 ps_is_kind (lowSp ⟨K, tfT K ltf⟩ (oneZ kdB)) := fnOk_of (G := ⟨K, tfT K ltf⟩) (k := 0) (Γ := []) (z := y_is_kind) (S := oneZ kdB) F11 Wd (fun z => by cases z) (fun z => by cases z) sc_is_kind ck_is_kind (FnTs.get .nil) (by intro us O Q E h; repeat' (first | (rcases h with ⟨e, h⟩; subst e; rfl) | (rcases h with ⟨_, h⟩))) k_is_kind
  have h_is_kind : FnT P w K mg base ⟨K, tfT K ltf⟩ 4 ("is_kind", []) (oneZ kdB) := FnT.raw m11 F11.kp oh_is_kind (F11.bindsN fun _ _ _ _ _ _ us hl => match us, hl with | [_], _ => rfl)
  have oh_is_name : FnOk P w K mg base (L2.CX P w) 4 (He.ga K "is_name") fd10 ps_is_name (lowSp ⟨K, tfT K ltf⟩ (oneZ nmB)) := fnOk_of (G := ⟨K, tfT K ltf⟩) (k := 0) (Γ := []) (z := y_is_name) (S := oneZ nmB) F10 Wd (fun z => by cases z) (fun z => by cases z) sc_is_name ck_is_name (FnTs.get .nil) (by intro us O Q E h; repeat' (first | (rcases h with ⟨e, h⟩; subst e; rfl) | (rcases h with ⟨_, h⟩))) k_is_name
  have h_is_name : FnT P w K mg base ⟨K, tfT K ltf⟩ 4 ("is_name", []) (oneZ nmB) := FnT.raw m10 F10.kp oh_is_name (F10.bindsN fun _ _ _ _ _ _ us hl => match us, hl with | [_], _ => rfl)
  have oh__law_bag : FnOk P w K mg base (L2.CX P w) 4 (He.ga K "_law_bag") fd17 ps__law_bag (lowSp ⟨K, tfT K ltf⟩ (bagZ)) := fnOk_of (G := ⟨K, tfT K ltf⟩) (k := 0) (Γ := []) (z := y__law_bag) (S := bagZ) F17 Wd (fun z => by cases z) (fun z => by cases z) sc__law_bag ck__law_bag (FnTs.get .nil) (by intro us O Q E h; repeat' (first | (rcases h with ⟨e, h⟩; subst e; rfl) | (rcases h with ⟨_, h⟩))) k_law_bag
  have h__law_bag : FnT P w K mg base ⟨K, tfT K ltf⟩ 4 ("_law_bag", []) (bagZ) := FnT.raw m17 F17.kp oh__law_bag (F17.bindsN fun _ _ _ _ _ _ us hl => match us, hl with | [_], _ => rfl)
  have oh_is_number : FnOk P w K mg base (L2.CX P w) 8 (He.ga K "is_number") fd14 ps_is_number (lowSp ⟨K, tfT K ltf⟩ (numZ)) := fnOk_of (G := ⟨K, tfT K ltf⟩) (k := 4) (Γ := [((("is_any_number", []) : Fk), (intZ : ZSp))]) (z := y_is_number) (S := numZ) F14 Wd (fun z => by cases z) (fun z => by cases z) sc_is_number ck_is_number (FnTs.get (.cons (h_is_any_number.mono (by decide)) .nil)) (by intro us O Q E h; repeat' (first | (rcases h with ⟨e, h⟩; subst e; rfl) | (rcases h with ⟨_, h⟩))) k_is_number
  have h_is_number : FnT P w K mg base ⟨K, tfT K ltf⟩ 8 ("is_number", []) (numZ) := FnT.raw m14 F14.kp oh_is_number (F14.bindsN fun _ _ _ _ _ _ us hl => match us, hl with | [_, _, _], _ => rfl)
  have h_is_number_1_least_most__k : FnT P w K mg base ⟨K, tfT K ltf⟩ 8 (("is_number", ["least", "most"]) : Fk) (numZ) := FnT.kwN (n := 1) (ks := ["least", "most"]) [(0, 0), (2, 0), (2, 1)] F14 m14 oh_is_number (fun kV doc pm an cdv ct us ws h1 h3 => match us, ws, h1, h3 with | [_], [_, _], _, _ => rfl) kw_num
  have oh__law_pick : FnOk P w K mg base (L2.CX P w) 8 (He.ga K "_law_pick") fd19 ps__law_pick (lowSp ⟨K, tfT K ltf⟩ (pickJ)) := fnOk_of (G := ⟨K, tfT K ltf⟩) (k := 4) (Γ := [((("_law_draw", []) : Fk), (drawZ : ZSp))]) (z := y__law_pick) (S := pickJ) F19 Wd (fun z => by cases z) (fun z => by cases z) sc__law_pick ck__law_pick (FnTs.get (.cons (h__law_draw.mono (by decide)) .nil)) (fun us O Q E h => by obtain (⟨_, _, ⟨rfl, _⟩ | ⟨rfl, _⟩, _⟩ | ⟨_, _, rfl, _⟩) := h <;> rfl) k_law_pickJ
  have h__law_pick : FnT P w K mg base ⟨K, tfT K ltf⟩ 8 ("_law_pick", []) (pickJ) := FnT.raw m19 F19.kp oh__law_pick (F19.bindsN fun _ _ _ _ _ _ us hl => match us, hl with | [_, _], _ => rfl)
  have oh_is_plain : FnOk P w K mg base (L2.CX P w) 8 (He.ga K "is_plain") fd12 ps_is_plain (lowSp ⟨K, tfT K ltf⟩ (oneZ plB)) := fnOk_of (G := ⟨K, tfT K ltf⟩) (k := 4) (Γ := [((("is_kind", []) : Fk), (oneZ kdB : ZSp))]) (z := y_is_plain) (S := oneZ plB) F12 Wd (fun z => by cases z) (fun z => by cases z) sc_is_plain ck_is_plain (FnTs.get (.cons (h_is_kind.mono (by decide)) .nil)) (by intro us O Q E h; repeat' (first | (rcases h with ⟨e, h⟩; subst e; rfl) | (rcases h with ⟨_, h⟩))) k_is_plain
  have h_is_plain : FnT P w K mg base ⟨K, tfT K ltf⟩ 8 ("is_plain", []) (oneZ plB) := FnT.raw m12 F12.kp oh_is_plain (F12.bindsN fun _ _ _ _ _ _ us hl => match us, hl with | [_], _ => rfl)
  have oh_list_name : FnOk P w K mg base (L2.CX P w) 12 (He.ga K "list_name") fd15 ps_list_name (lowSp ⟨K, tfT K ltf⟩ (lnmZ)) := fnOk_of (G := ⟨K, tfT K ltf⟩) (k := 8) (Γ := [((("is_number", []) : Fk), (numZ : ZSp))]) (z := y_list_name) (S := lnmZ) F15 Wd (fun z => by cases z) (fun z => by cases z) sc_list_name ck_list_name (FnTs.get (.cons (h_is_number.mono (by decide)) .nil)) (by intro us O Q E h; repeat' (first | (rcases h with ⟨e, h⟩; subst e; rfl) | (rcases h with ⟨_, h⟩))) k_list_name
  have h_list_name : FnT P w K mg base ⟨K, tfT K ltf⟩ 12 ("list_name", []) (lnmZ) := FnT.raw m15 F15.kp oh_list_name (F15.bindsN fun _ _ _ _ _ _ us hl => match us, hl with | [_], _ => rfl)
  have oh__law_huge : FnOk P w K mg base (L2.CX P w) 12 (He.ga K "_law_huge") fd20 ps__law_huge (lowSp ⟨K, tfT K ltf⟩ (hugeZ)) := fnOk_of (G := ⟨K, tfT K ltf⟩) (k := 8) (Γ := [((("_law_pick", []) : Fk), (pickZ : ZSp)), ((("_law_draw", []) : Fk), (drawZ : ZSp))]) (z := y__law_huge) (S := hugeZ) F20 Wd (fun z => by cases z) (fun z => by cases z) sc__law_huge ck__law_huge (FnTs.get (.cons ((h__law_pick.mono (by decide)).weak pick_w) (.cons (h__law_draw.mono (by decide)) .nil))) (by intro us O Q E h; repeat' (first | (rcases h with ⟨e, h⟩; subst e; rfl) | (rcases h with ⟨_, h⟩))) k_law_huge
  have h__law_huge : FnT P w K mg base ⟨K, tfT K ltf⟩ 12 ("_law_huge", []) (hugeZ) := FnT.raw m20 F20.kp oh__law_huge (F20.bindsN fun _ _ _ _ _ _ us hl => match us, hl with | [_], _ => rfl)
  have oh__law_odd : FnOk P w K mg base (L2.CX P w) 12 (He.ga K "_law_odd") fd30 ps__law_odd (lowSp ⟨K, tfT K ltf⟩ (anyZ)) := fnOk_of (G := ⟨K, tfT K ltf⟩) (k := 8) (Γ := [((("_law_pick", []) : Fk), (pickJ : ZSp)), ((("_law_draw", []) : Fk), (drawZ : ZSp))]) (z := y__law_odd) (S := anyZ) F30 Wd (fun z => by cases z) (fun z => by cases z) sc__law_odd ck__law_odd (FnTs.get (.cons (h__law_pick.mono (by decide)) (.cons (h__law_draw.mono (by decide)) .nil))) (by intro us O Q E h; repeat' (first | (rcases h with ⟨e, h⟩; subst e; rfl) | (rcases h with ⟨_, h⟩))) k_law_odd
  have h__law_odd : FnT P w K mg base ⟨K, tfT K ltf⟩ 12 ("_law_odd", []) (anyZ) := FnT.raw m30 F30.kp oh__law_odd (F30.bindsN fun _ _ _ _ _ _ us hl => match us, hl with | [_], _ => rfl)
  have oh__law_word : FnOk P w K mg base (L2.CX P w) 12 (He.ga K "_law_word") fd22 ps__law_word (lowSp ⟨K, tfT K ltf⟩ (wordZ)) := fnOk_of (G := ⟨K, tfT K ltf⟩) (k := 8) (Γ := [((("_law_draw", []) : Fk), (drawZ : ZSp)), ((("_law_pick", []) : Fk), (pickJ : ZSp))]) (z := y__law_word) (S := wordZ) F22 Wd (fun z => by cases z) (fun z => by cases z) sc__law_word ck__law_word (FnTs.get (.cons (h__law_draw.mono (by decide)) (.cons (h__law_pick.mono (by decide)) .nil))) (by intro us O Q E h; repeat' (first | (rcases h with ⟨e, h⟩; subst e; rfl) | (rcases h with ⟨_, h⟩))) k_law_word
  have h__law_word : FnT P w K mg base ⟨K, tfT K ltf⟩ 12 ("_law_word", []) (wordZ) := FnT.raw m22 F22.kp oh__law_word (F22.bindsN fun _ _ _ _ _ _ us hl => match us, hl with | [_, _], _ => rfl)
  have s0 : FnT P w K mg base ⟨K, tfT K ltf⟩ 0 ("_law_same", []) fun _ _ _ _ => False := fnT_false (ps := ps__law_same) F26 m26 (F26.bindsN fun _ _ _ _ _ _ us hl => match us, hl with | [_, _], _ => rfl)
  have os1 : FnOk P w K mg base (L2.CX P w) 4 (He.ga K "_law_same") fd26 ps__law_same (lowSp ⟨K, tfT K ltf⟩ ((sameE 0))) := fnOk_of (G := ⟨K, tfT K ltf⟩) (k := 0) (Γ := [((("_law_same", []) : Fk), ((fun _ _ _ _ => False) : ZSp))]) (z := y__law_same) (S := (sameE 0)) F26 Wd (fun z => by cases z) (fun z => by cases z) sc__law_same ck__law_same (FnTs.get (.cons s0 .nil)) (by intro us O Q E h; repeat' (first | (rcases h with ⟨e, h⟩; subst e; rfl) | (rcases h with ⟨_, h⟩))) (k_law_sameE 0 (fun _ _ _ _ => False) (fun m hm => absurd hm (by omega)))
  have s1 : FnT P w K mg base ⟨K, tfT K ltf⟩ 4 ("_law_same", []) ((sameE 0)) := FnT.raw m26 F26.kp os1 (F26.bindsN fun _ _ _ _ _ _ us hl => match us, hl with | [_, _], _ => rfl)
  have os2 : FnOk P w K mg base (L2.CX P w) 8 (He.ga K "_law_same") fd26 ps__law_same (lowSp ⟨K, tfT K ltf⟩ ((sameE 1))) := fnOk_of (G := ⟨K, tfT K ltf⟩) (k := 4) (Γ := [((("_law_same", []) : Fk), ((sameE 0) : ZSp))]) (z := y__law_same) (S := (sameE 1)) F26 Wd (fun z => by cases z) (fun z => by cases z) sc__law_same ck__law_same (FnTs.get (.cons s1 .nil)) (by intro us O Q E h; repeat' (first | (rcases h with ⟨e, h⟩; subst e; rfl) | (rcases h with ⟨_, h⟩))) (k_law_sameE 1 (sameE 0) (fun m hm => by obtain rfl : m = 0 := (by omega); rfl))
  have s2 : FnT P w K mg base ⟨K, tfT K ltf⟩ 8 ("_law_same", []) ((sameE 1)) := FnT.raw m26 F26.kp os2 (F26.bindsN fun _ _ _ _ _ _ us hl => match us, hl with | [_, _], _ => rfl)
  have os3 : FnOk P w K mg base (L2.CX P w) 12 (He.ga K "_law_same") fd26 ps__law_same (lowSp ⟨K, tfT K ltf⟩ ((sameE 2))) := fnOk_of (G := ⟨K, tfT K ltf⟩) (k := 8) (Γ := [((("_law_same", []) : Fk), ((sameE 1) : ZSp))]) (z := y__law_same) (S := (sameE 2)) F26 Wd (fun z => by cases z) (fun z => by cases z) sc__law_same ck__law_same (FnTs.get (.cons s2 .nil)) (by intro us O Q E h; repeat' (first | (rcases h with ⟨e, h⟩; subst e; rfl) | (rcases h with ⟨_, h⟩))) (k_law_sameE 2 (sameE 1) (fun m hm => by obtain rfl : m = 1 := (by omega); rfl))
  have s3 : FnT P w K mg base ⟨K, tfT K ltf⟩ 12 ("_law_same", []) ((sameE 2)) := FnT.raw m26 F26.kp os3 (F26.bindsN fun _ _ _ _ _ _ us hl => match us, hl with | [_, _], _ => rfl)
  have os4 : FnOk P w K mg base (L2.CX P w) 16 (He.ga K "_law_same") fd26 ps__law_same (lowSp ⟨K, tfT K ltf⟩ ((sameE 3))) := fnOk_of (G := ⟨K, tfT K ltf⟩) (k := 12) (Γ := [((("_law_same", []) : Fk), ((sameE 2) : ZSp))]) (z := y__law_same) (S := (sameE 3)) F26 Wd (fun z => by cases z) (fun z => by cases z) sc__law_same ck__law_same (FnTs.get (.cons s3 .nil)) (by intro us O Q E h; repeat' (first | (rcases h with ⟨e, h⟩; subst e; rfl) | (rcases h with ⟨_, h⟩))) (k_law_sameE 3 (sameE 2) (fun m hm => by obtain rfl : m = 2 := (by omega); rfl))
  have s4 : FnT P w K mg base ⟨K, tfT K ltf⟩ 16 ("_law_same", []) ((sameE 3)) := FnT.raw m26 F26.kp os4 (F26.bindsN fun _ _ _ _ _ _ us hl => match us, hl with | [_, _], _ => rfl)
  have h__law_same := s4
  have oh__law_number : FnOk P w K mg base (L2.CX P w) 16 (He.ga K "_law_number") fd21 ps__law_number (lowSp ⟨K, tfT K ltf⟩ (numberZ)) := fnOk_of (G := ⟨K, tfT K ltf⟩) (k := 12) (Γ := [((("_law_draw", []) : Fk), (drawZ : ZSp)), ((("_law_huge", []) : Fk), (hugeZ : ZSp)), ((("_law_pick", []) : Fk), (pickJ : ZSp))]) (z := y__law_number) (S := numberZ) F21 Wd (fun z => by cases z) (fun z => by cases z) sc__law_number ck__law_number (FnTs.get (.cons (h__law_draw.mono (by decide)) (.cons (h__law_huge.mono (by decide)) (.cons (h__law_pick.mono (by decide)) .nil)))) (by intro us O Q E h; repeat' (first | (rcases h with ⟨e, h⟩; subst e; rfl) | (rcases h with ⟨_, h⟩))) k_law_number
  have h__law_number : FnT P w K mg base ⟨K, tfT K ltf⟩ 16 ("_law_number", []) (numberZ) := FnT.raw m21 F21.kp oh__law_number (F21.bindsN fun _ _ _ _ _ _ us hl => match us, hl with | [_, _], _ => rfl)
  have oh__law_thing : FnOk P w K mg base (L2.CX P w) 16 (He.ga K "_law_thing") fd31 ps__law_thing (lowSp ⟨K, tfT K ltf⟩ (anyZ)) := fnOk_of (G := ⟨K, tfT K ltf⟩) (k := 12) (Γ := [((("_law_odd", []) : Fk), (anyZ : ZSp)), ((("_law_pick", []) : Fk), (pickJ : ZSp)), ((("_law_draw", []) : Fk), (drawZ : ZSp)), ((("_law_word", []) : Fk), (wordZ : ZSp))]) (z := y__law_thing) (S := anyZ) F31 Wd (fun z => by cases z) (fun z => by cases z) sc__law_thing ck__law_thing (FnTs.get (.cons (h__law_odd.mono (by decide)) (.cons (h__law_pick.mono (by decide)) (.cons (h__law_draw.mono (by decide)) (.cons (h__law_word.mono (by decide)) .nil))))) (by intro us O Q E h; repeat' (first | (rcases h with ⟨e, h⟩; subst e; rfl) | (rcases h with ⟨_, h⟩))) k_law_thing
  have h__law_thing : FnT P w K mg base ⟨K, tfT K ltf⟩ 16 ("_law_thing", []) (anyZ) := FnT.raw m31 F31.kp oh__law_thing (F31.bindsN fun _ _ _ _ _ _ us hl => match us, hl with | [_], _ => rfl)
  have oh__law_numbers_so : FnOk P w K mg base (L2.CX P w) 20 (He.ga K "_law_numbers_so") fd33 ps__law_numbers_so (lowSp ⟨K, tfT K ltf⟩ (soZ)) := fnOk_of (G := ⟨K, tfT K ltf⟩) (k := 16) (Γ := [((("_law_same", []) : Fk), (sameE 3 : ZSp)), ((("is_number", ["least", "most"]) : Fk), (numZ : ZSp)), ((("is_number", []) : Fk), (numZ : ZSp)), ((("_law_int", []) : Fk), (intZ : ZSp)), ((("_law_pick", []) : Fk), (pickJ : ZSp)), ((("_law_draw", []) : Fk), (drawZ : ZSp)), ((("_law_number", []) : Fk), (numberZ : ZSp))]) (z := y__law_numbers_so) (S := soZ) F33 Wd (fun z => by cases z) (fun z => by cases z) sc__law_numbers_so ck__law_numbers_so (FnTs.get (.cons (h__law_same.mono (by decide)) (.cons (h_is_number_1_least_most__k.mono (by decide)) (.cons (h_is_number.mono (by decide)) (.cons (h__law_int.mono (by decide)) (.cons (h__law_pick.mono (by decide)) (.cons (h__law_draw.mono (by decide)) (.cons (h__law_number.mono (by decide)) .nil)))))))) (by intro us O Q E h; repeat' (first | (rcases h with ⟨e, h⟩; subst e; rfl) | (rcases h with ⟨_, h⟩))) k_law_numbers_so
  have h__law_numbers_so : FnT P w K mg base ⟨K, tfT K ltf⟩ 20 ("_law_numbers_so", []) (soZ) := FnT.raw m33 F33.kp oh__law_numbers_so (F33.bindsN fun _ _ _ _ _ _ us hl => match us, hl with | [_], _ => rfl)
  have oh__law_words_so : FnOk P w K mg base (L2.CX P w) 20 (He.ga K "_law_words_so") fd32 ps__law_words_so (lowSp ⟨K, tfT K ltf⟩ (soZ)) := fnOk_of (G := ⟨K, tfT K ltf⟩) (k := 16) (Γ := [((("_law_same", []) : Fk), (sameE 3 : ZSp)), ((("_law_is_kind", []) : Fk), (oneZ kdB : ZSp)), ((("_law_is_name", []) : Fk), (oneZ nmB : ZSp)), ((("is_plain", []) : Fk), (oneZ plB : ZSp)), ((("is_kind", []) : Fk), (oneZ kdB : ZSp)), ((("is_name", []) : Fk), (oneZ nmB : ZSp)), ((("_law_thing", []) : Fk), (anyZ : ZSp))]) (z := y__law_words_so) (S := soZ) F32 Wd (fun z => by cases z) (fun z => by cases z) sc__law_words_so ck__law_words_so (FnTs.get (.cons (h__law_same.mono (by decide)) (.cons (h__law_is_kind.mono (by decide)) (.cons (h__law_is_name.mono (by decide)) (.cons (h_is_plain.mono (by decide)) (.cons (h_is_kind.mono (by decide)) (.cons (h_is_name.mono (by decide)) (.cons (h__law_thing.mono (by decide)) .nil)))))))) (by intro us O Q E h; repeat' (first | (rcases h with ⟨e, h⟩; subst e; rfl) | (rcases h with ⟨_, h⟩))) k_law_words_so
  have h__law_words_so : FnT P w K mg base ⟨K, tfT K ltf⟩ 20 ("_law_words_so", []) (soZ) := FnT.raw m32 F32.kp oh__law_words_so (F32.bindsN fun _ _ _ _ _ _ us hl => match us, hl with | [_], _ => rfl)
  exact fnOk_of (G := ⟨K, tfT K ltf⟩) (k := 20) (Γ := [((("_law_same", []) : Fk), (sameE 3 : ZSp)), ((("list_name", []) : Fk), (lnmZ : ZSp)), ((("_law_pick", []) : Fk), (pickJ : ZSp)), ((("_law_draw", []) : Fk), (drawZ : ZSp)), ((("_law_numbers_so", []) : Fk), (soZ : ZSp)), ((("_law_words_so", []) : Fk), (soZ : ZSp)), ((("_law_bag", []) : Fk), (bagZ : ZSp))]) (z := y_law) (S := lawZ 63) F34 Wd (fun _ => rfl) (fun _ => lamD_of F34 (tf := ltf) (by decide) rfl hu hT) sc_law ck_law (FnTs.get (.cons (h__law_same.mono (by decide)) (.cons (h_list_name.mono (by decide)) (.cons (h__law_pick.mono (by decide)) (.cons (h__law_draw.mono (by decide)) (.cons (h__law_numbers_so.mono (by decide)) (.cons (h__law_words_so.mono (by decide)) (.cons (h__law_bag.mono (by decide)) .nil)))))))) (by intro us O Q E h; repeat' (first | (rcases h with ⟨e, h⟩; subst e; rfl) | (rcases h with ⟨_, h⟩))) k_law
end Z
open PySem PySem.W PySem.Calls PyProof.Rows
theorem PySem.Challenge.cw_endlessnets_k01_words_judged_holds : PySem.Challenge.rw_endlessnets_k01_words_judged.Holds := by
  w_on; o_law
  refine HandSHeadRun.head_any (r := OpenLaw.row PySem.Challenge.rw_endlessnets_k01_words_judged) (q := view (OpenLaw.row PySem.Challenge.rw_endlessnets_k01_words_judged).prog [34]) (H := Z.hhk) (ob := Z.hob) (M := 8000) (loose := Z.hnames) (d := HandSHeadRun.topDef (OpenLaw.row PySem.Challenge.rw_endlessnets_k01_words_judged).prog 34) (kwd := []) Z.hob_eq
    (by kernel_rfl) (fun s => by kernel_rfl) Z.hrun (by kernel_rfl) (by kernel_rfl) (by kernel_rfl) (by rfl) (by first | assumption | decide +kernel) (by decide +kernel) ⟨rfl, rfl, rfl, rfl, rfl, by decide +kernel⟩ ?hw ?hc
  case hw => w_witness2
  case hc =>
    refine LamX.walk_ofTsE (l := PySem.Challenge.rw_endlessnets_k01_words_judged) (n := 63) (k := 24) (x := "_law_script") (CX := fun w => L2.CX (PySem.Challenge.rw_endlessnets_k01_words_judged).prog w) rfl (by decide) (by kernel_rfl) ⟨rfl, by decide, by decide⟩ ?F (fun w H s e s' ⟨_, _, _, _, _, _, _, _, _, _, _, _, z⟩ => z)
    intro w mg fa h Y G hmg0
    obtain ⟨K, KX, c⟩ := Y
    have hmg : mg ("law" : PySem.Str) = some (.ref fa) := by
      have e : (HandSHeadRun.topDef (OpenLaw.row PySem.Challenge.rw_endlessnets_k01_words_judged).prog 34).name = ("law" : PySem.Str) := by kernel_rfl
      rw [← e]
      exact hmg0
    obtain ⟨fd, hb, hF⟩ := Z.law_at _ rfl (w := w) KX G hmg c.t.d c.more
    have tf : ∀ {p : Addr × Addr}, p ∈ Z.ltf.map (fun x => He.cT K (x, none)) → ∃ q ∈ Z.ltd, p = He.cT K q := fun hp => let ⟨x, hx, e⟩ := List.mem_map.mp hp; ⟨(x, none), List.mem_map.mpr ⟨x, hx, rfl⟩, e.symm⟩
    exact ⟨K, KX, fd, Z.ltf.map fun x => He.cT K (x, none), _, (fun p hp => let ⟨q, hq, e⟩ := tf hp; e ▸ c.empty q hq), (fun p hp => let ⟨q, hq, e⟩ := tf hp; e ▸ c.out q hq), (fun p hp => let ⟨q, hq, e⟩ := tf hp; e ▸ PySem.W.codeHd_of_K KX (c.hd q hq)), hb, fun H a ns hl _ hH hS => Z.lawZ_low (Z.tabs_start hH) hl hS, fun base h1 h2 h3 => hF base h1 h2 h3⟩

