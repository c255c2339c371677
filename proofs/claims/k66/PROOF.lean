import PyProof.Rows.All
import Wide.All
import OpenK.AllK
import Wide.FinOn
import HandS.ForMost
import HandS.ForExc
import HandS.Wide
import HandS.Walk
import HandS.TupAny
import HandS.HeadHook1
import HandS.HeadHook2
import HandS.HeadWalk
import HandS.IsInst
import HandS.More
import PyProof.Rows.RuleB_pow
import KE.GoesEnum
import KE.GoesMore
import KE.GoesZip
import HandS.Rev
import HandS.ExcInit
import HandS.ExcOwn
import HandS.Small
import KE.KExcIs
import HandS.ExcIs
import HandS.ExcField
import HandS.TryMany
import HandS.WordsExc
import HandS.Defaults
import HandS.HeadHook4
import HandS.Head0
import HandS.Head1
import HandS.Head2
import HandS.HeadEnd
import HandS.EndBits
import HandS.Head3
import PySem.Challenge.RW_cutyard_k66_a_yard_changed
set_option Elab.async false
set_option linter.all false
set_option maxRecDepth 100000
set_option maxHeartbeats 0
namespace M1
open PySem PySem.Spec L2

/-- a deep value: tuples are values, what may change lies at a place of the store -/
inductive D where
  | non | bl (b : Bool) | int (i : Int) | str (x : List Nat) | tup (xs : List D) | frz (xs : List D) | loc (n : Nat)
/-- what lies at a place: a list, an instance -/
inductive O where
  | lst (xs : List D) | ins (c : Nat) (fs : List (Nat × D))
abbrev Sto := List O
abbrev Env := List (Option D)
inductive R (α : Type) where
  | ok (a : α) (s : Sto) | exc (c : Nat) (x : Option D) (s : Sto) | stuck
def R.bind {α β : Type} (r : R α) (f : α → Sto → R β) : R β := match r with
  | .ok a s => f a s
  | .exc c x s => .exc c x s
  | .stuck => .stuck
abbrev Fn := List D → Sto → R D
@[simp] theorem R.bind_ok {α β : Type} (a : α) (s : Sto) (f : α → Sto → R β) : (R.ok a s).bind f = f a s := rfl
@[simp] theorem R.bind_exc {α β : Type} (c : Nat) (x : Option D) (s : Sto) (f : α → Sto → R β) : (R.exc c x s : R α).bind f = .exc c x s := rfl
@[simp] theorem R.bind_stuck {α β : Type} (f : α → Sto → R β) : (R.stuck : R α).bind f = .stuck := rfl

def strOf (x : List Nat) : Str := ⟨x.toArray⟩
/-- the names of classes and fields, numbered -/
def nms0 : List Str := ["YardError", "NoNumber", "NoRow", "NoChange", "BelowNought", "NoText", "NoName", "Twice", "TooGreat", "at", "Sheet", "Struck", "Table", "Sides", "Yard", "Desk", "aim_shares", "aims", "barred", "base"]
def nms1 : List Str := ["chain", "extra", "gained", "here", "kept", "kind", "least_places", "leasts", "most_places", "mosts", "paper", "sheet", "slim", "standing", "steps", "bottom", "columns", "forms", "gain", "going"]
def nms2 : List Str := ["head", "held", "lines", "loose", "many", "picks", "ray", "slacks", "waiting", "known", "past", "plan", "now"]
def nms : List Str := nms0 ++ (nms1 ++ nms2)
/-- the exception classes -/
def exNs : List Nat := [0, 1, 2, 3, 4, 5, 6, 7, 8]
def nm (i : Nat) : Str := nms.getD i ""
def cA (K : PySem.W.Frag) (c : Nat) : Addr := He.ga K (nm c)

section
variable (K : PySem.W.Frag)
mutual
def DR (H : Hp) (mp : List Addr) : D → V → Prop
  | .non, v => v = .non
  | .bl b, v => v = .bl b
  | .int i, v => v = .int i
  | .str x, v => v = .str (strOf x)
  | .tup ds, v => ∃ a vs, v = .ref a ∧ SqT K H a vs ∧ DRs H mp ds vs
  | .frz ds, v => ∃ a vs, v = .ref a ∧ (SqL K (fun _ => none) a vs ∨ ∃ o, H a = some (.frz o (.lst vs))) ∧ DRs H mp ds vs
  | .loc n, v => ∃ a, mp[n]? = some a ∧ v = .ref a
def DRs (H : Hp) (mp : List Addr) : List D → List V → Prop
  | [], vs => vs = []
  | d :: ds, vs => ∃ v r, vs = v :: r ∧ DR H mp d v ∧ DRs H mp ds r
end
def FRs (H : Hp) (mp : List Addr) : List (Nat × D) → List (Str × V) → Prop
  | [], vs => vs = []
  | d :: ds, vs => ∃ v r, vs = (nm d.1, v) :: r ∧ d.1 < nms.length ∧ DR K H mp d.2 v ∧ FRs H mp ds r
def OR (H : Hp) (mp : List Addr) (a : Addr) : O → Prop
  | .lst ds => ∃ vs, H a = some (.lst vs) ∧ DRs K H mp ds vs
  | .ins c fs => ∃ dx fvs, H a = some (.ins (cA K c) dx fvs) ∧ FRs K H mp fs fvs
structure StoR (H : Hp) (mp : List Addr) (st : Sto) : Prop where
  len : mp.length = st.length
  nd : mp.Nodup
  at_ : ∀ (n : Nat) (o : O) (a : Addr), st[n]? = some o → mp[n]? = some a → OR K H mp a o
structure Ext0 (H : Hp) (mp : List Addr) (H' : Hp) (mp' : List Addr) : Prop where
  app : ∃ new, mp' = mp ++ new
  tup : ∀ a xs, SqT K H a xs → SqT K H' a xs
  frz : ∀ a o u, H a = some (.frz o u) → H' a = some (.frz o u)
structure Ext (H : Hp) (mp : List Addr) (H' : Hp) (mp' : List Addr) : Prop where
  pre : ∃ new, mp' = mp ++ new ∧ ∀ a ∈ new, a ∉ mp → H a = none
  keep : ∀ a o, H a = some o → a ∉ mp → H' a = some o
  tup : ∀ a xs, SqT K H a xs → SqT K H' a xs
  frz : ∀ a o u, H a = some (.frz o u) → H' a = some (.frz o u)
def EnvR (H : Hp) (mp : List Addr) (ρ : Env) (σ : L2.St) : Prop :=
  ρ.length = σ.length ∧ ∀ (i : Nat) (d : D), ρ[i]? = some (some d) → ∃ v, σ[i]? = some (some v) ∧ DR K H mp d v
end

section
variable {K : PySem.W.Frag} {H H' H1 H2 : Hp} {mp mp' mp1 mp2 : List Addr}
theorem Ext.refl : Ext K H mp H mp := ⟨⟨[], by simp⟩, fun _ _ h _ => h, fun _ _ h => h, fun _ _ _ h => h⟩
theorem Ext.trans (a : Ext K H mp H1 mp1) (b : Ext K H1 mp1 H2 mp2) : Ext K H mp H2 mp2 := by
  obtain ⟨n1, rfl, h1⟩ := a.pre
  obtain ⟨n2, rfl, h2⟩ := b.pre
  refine ⟨⟨n1 ++ n2, by simp, fun c hc hm => ?_⟩, fun c o hc hm => ?_, fun c xs h => b.tup c xs (a.tup c xs h), fun c o u h => b.frz c o u (a.frz c o u h)⟩
  · rcases List.mem_append.mp hc with z | z
    · exact h1 c z hm
    · cases q : H c with
      | none => rfl
      | some o =>
        have e := a.keep c o q hm
        by_cases h3 : c ∈ n1
        · rw [h1 c h3 hm] at q; cases q
        · rw [h2 c z (by simp [hm, h3])] at e; cases e
  · refine b.keep c o (a.keep c o hc hm) ?_
    intro z
    rcases List.mem_append.mp z with z | z
    · exact hm z
    · rw [h1 c z hm] at hc; cases hc
theorem Ext0.get (e : Ext0 K H mp H' mp') {n : Nat} {a : Addr} (h : mp[n]? = some a) : mp'[n]? = some a := by
  obtain ⟨n1, rfl⟩ := e.app
  rw [List.getElem?_append_left (List.getElem?_eq_some_iff.mp h).1]; exact h
mutual
theorem DR.ext0 (e : Ext0 K H mp H' mp') : ∀ (d : D) (v : V), DR K H mp d v → DR K H' mp' d v
  | .non, _, h => by unfold DR at h ⊢; exact h
  | .bl _, _, h => by unfold DR at h ⊢; exact h
  | .int _, _, h => by unfold DR at h ⊢; exact h
  | .str _, _, h => by unfold DR at h ⊢; exact h
  | .tup ds, _, h => by
    unfold DR at h ⊢
    obtain ⟨a, vs, r, s, q⟩ := h
    exact ⟨a, vs, r, e.tup _ _ s, DRs.ext0 e ds vs q⟩
  | .frz ds, _, h => by
    unfold DR at h ⊢
    obtain ⟨a, vs, r, s, q⟩ := h
    exact ⟨a, vs, r, s.imp id fun ⟨o, z⟩ => ⟨o, e.frz _ _ _ z⟩, DRs.ext0 e ds vs q⟩
  | .loc _, _, h => by
    unfold DR at h ⊢
    obtain ⟨a, r, s⟩ := h
    exact ⟨a, e.get r, s⟩
theorem DRs.ext0 (e : Ext0 K H mp H' mp') : ∀ (ds : List D) (vs : List V), DRs K H mp ds vs → DRs K H' mp' ds vs
  | [], _, h => by unfold DRs at h ⊢; exact h
  | d :: ds, _, h => by
    unfold DRs at h ⊢
    obtain ⟨v, r, rfl, h1, h2⟩ := h
    exact ⟨v, r, rfl, DR.ext0 e d v h1, DRs.ext0 e ds r h2⟩
end
theorem FRs.ext0 (e : Ext0 K H mp H' mp') : ∀ (ds : List (Nat × D)) (vs : List (Str × V)), FRs K H mp ds vs → FRs K H' mp' ds vs
  | [], _, h => by unfold FRs at h ⊢; exact h
  | d :: ds, _, h => by
    unfold FRs at h ⊢
    obtain ⟨v, r, rfl, h0, h1, h2⟩ := h
    exact ⟨v, r, rfl, h0, h1.ext0 e, FRs.ext0 e ds r h2⟩
theorem Ext.zero (e : Ext K H mp H' mp') : Ext0 K H mp H' mp' := ⟨let ⟨n, h, _⟩ := e.pre; ⟨n, h⟩, e.tup, e.frz⟩
theorem Ext.get (e : Ext K H mp H' mp') {n : Nat} {a : Addr} (h : mp[n]? = some a) : mp'[n]? = some a := e.zero.get h
theorem DR.ext (e : Ext K H mp H' mp') (d : D) (v : V) (h : DR K H mp d v) : DR K H' mp' d v := DR.ext0 e.zero d v h
theorem DRs.ext (e : Ext K H mp H' mp') (d : List D) (v : List V) (h : DRs K H mp d v) : DRs K H' mp' d v := DRs.ext0 e.zero d v h
theorem FRs.ext (e : Ext K H mp H' mp') (d : List (Nat × D)) (v : List (Str × V)) (h : FRs K H mp d v) : FRs K H' mp' d v := FRs.ext0 e.zero d v h
theorem EnvR.ext {ρ : Env} {σ : L2.St} (h : EnvR K H mp ρ σ) (e : Ext K H mp H' mp') : EnvR K H' mp' ρ σ :=
  ⟨h.1, fun i d z => let ⟨v, a, b⟩ := h.2 i d z; ⟨v, a, DR.ext e d v b⟩⟩
theorem DRs.length : ∀ {ds : List D} {vs : List V}, DRs K H mp ds vs → ds.length = vs.length
  | [], _, h => by unfold DRs at h; subst h; rfl
  | d :: ds, _, h => by
    unfold DRs at h
    obtain ⟨v, r, rfl, h1, h2⟩ := h
    simp [DRs.length h2]
theorem DRs.at_ : ∀ {ds : List D} {vs : List V} {i : Nat} {d : D}, DRs K H mp ds vs → ds[i]? = some d → ∃ v, vs[i]? = some v ∧ DR K H mp d v
  | [], _, _, _, _, e => by simp at e
  | d :: ds, _, 0, x, h, e => by
    unfold DRs at h
    obtain ⟨v, r, rfl, h1, h2⟩ := h
    simp at e; subst e
    exact ⟨v, rfl, h1⟩
  | d :: ds, _, i + 1, x, h, e => by
    unfold DRs at h
    obtain ⟨v, r, rfl, h1, h2⟩ := h
    simpa using DRs.at_ h2 (i := i) (by simpa using e)
theorem DRs.append : ∀ {ds es : List D} {vs ws : List V}, DRs K H mp ds vs → DRs K H mp es ws → DRs K H mp (ds ++ es) (vs ++ ws)
  | [], _, _, _, h, k => by unfold DRs at h; subst h; exact k
  | d :: ds, _, _, _, h, k => by
    unfold DRs at h
    obtain ⟨v, r, rfl, h1, h2⟩ := h
    show DRs K H mp (d :: (ds ++ _)) _
    unfold DRs
    exact ⟨v, r ++ _, rfl, h1, DRs.append h2 k⟩
theorem DRs.nil : DRs K H mp [] [] := by unfold DRs; rfl
theorem DRs.cons {d : D} {v : V} {ds : List D} {vs : List V} (h : DR K H mp d v) (k : DRs K H mp ds vs) : DRs K H mp (d :: ds) (v :: vs) := by
  unfold DRs; exact ⟨v, vs, rfl, h, k⟩
theorem DRs.take : ∀ {ds : List D} {vs : List V} (n : Nat), DRs K H mp ds vs → DRs K H mp (ds.take n) (vs.take n)
  | _, _, 0, _ => by simp; exact .nil
  | [], _, n + 1, h => by unfold DRs at h; subst h; exact .nil
  | d :: ds, _, n + 1, h => by
    unfold DRs at h
    obtain ⟨v, r, rfl, h1, h2⟩ := h
    exact .cons h1 (DRs.take n h2)
theorem DRs.drop : ∀ {ds : List D} {vs : List V} (n : Nat), DRs K H mp ds vs → DRs K H mp (ds.drop n) (vs.drop n)
  | _, _, 0, h => h
  | [], _, n + 1, h => by unfold DRs at h; subst h; exact .nil
  | d :: ds, _, n + 1, h => by
    unfold DRs at h
    obtain ⟨v, r, rfl, h1, h2⟩ := h
    exact DRs.drop n h2
theorem DRs.set : ∀ {ds : List D} {vs : List V} (n : Nat) {d : D} {v : V}, DRs K H mp ds vs → DR K H mp d v → DRs K H mp (ds.set n d) (vs.set n v)
  | [], _, _, _, _, h, _ => by unfold DRs at h; subst h; exact .nil
  | d :: ds, _, 0, _, _, h, k => by
    unfold DRs at h
    obtain ⟨v, r, rfl, h1, h2⟩ := h
    exact .cons k h2
  | d :: ds, _, n + 1, _, _, h, k => by
    unfold DRs at h
    obtain ⟨v, r, rfl, h1, h2⟩ := h
    exact .cons h1 (DRs.set n h2 k)
theorem DRs.eraseIdx : ∀ {ds : List D} {vs : List V} (n : Nat), DRs K H mp ds vs → DRs K H mp (ds.eraseIdx n) (vs.eraseIdx n)
  | [], _, _, h => by unfold DRs at h; subst h; exact .nil
  | d :: ds, _, 0, h => by
    unfold DRs at h
    obtain ⟨v, r, rfl, h1, h2⟩ := h
    exact h2
  | d :: ds, _, n + 1, h => by
    unfold DRs at h
    obtain ⟨v, r, rfl, h1, h2⟩ := h
    exact .cons h1 (DRs.eraseIdx n h2)
theorem DRs.dropLast {ds : List D} {vs : List V} (h : DRs K H mp ds vs) : DRs K H mp ds.dropLast vs.dropLast := by
  rw [List.dropLast_eq_take, List.dropLast_eq_take, h.length]; exact h.take _
theorem DRs.reverse : ∀ {ds : List D} {vs : List V}, DRs K H mp ds vs → DRs K H mp ds.reverse vs.reverse
  | [], _, h => by unfold DRs at h; subst h; exact .nil
  | d :: ds, _, h => by
    unfold DRs at h
    obtain ⟨v, r, rfl, h1, h2⟩ := h
    rw [List.reverse_cons, List.reverse_cons]
    exact (DRs.reverse h2).append (.cons h1 .nil)
theorem nms_nodup : nms.Nodup := by decide +kernel
theorem nm_inj {i j : Nat} (hi : i < nms.length) (hj : j < nms.length) (h : nm i = nm j) : i = j := by
  unfold nm at h
  rw [List.getD_eq_getElem?_getD, List.getD_eq_getElem?_getD, List.getElem?_eq_getElem hi, List.getElem?_eq_getElem hj] at h
  have h' : nms[i]? = some nms[j] := by rw [List.getElem?_eq_getElem hi]; exact congrArg some h
  exact L2.nd_ix nms_nodup h' (List.getElem?_eq_getElem hj)
theorem FRs.look {f : Nat} {d : D} (hf : f < nms.length) : ∀ {fs : List (Nat × D)} {vs : List (Str × V)}, FRs K H mp fs vs → fs.lookup f = some d → ∃ v, vs.lookup (nm f) = some v ∧ DR K H mp d v
  | [], _, _, e => by simp at e
  | (g, x) :: fs, _, h, e => by
    unfold FRs at h
    obtain ⟨v, r, rfl, h0, h1, h2⟩ := h
    rw [List.lookup_cons] at e ⊢
    by_cases hg : f = g
    · subst hg
      simp at e; subst e
      simp; exact h1
    · have hg' : (f == g) = false := by simp [hg]
      rw [hg'] at e
      have hn : (nm f == nm g) = false := by
        rw [beq_eq_false_iff_ne]
        intro z
        exact hg (nm_inj hf h0 z)
      simp only [hn]
      exact FRs.look hf h2 e
theorem FRs.look_none {m : Str} (hm : ∀ f, f < nms.length → nm f ≠ m) : ∀ {fs : List (Nat × D)} {vs : List (Str × V)}, FRs K H mp fs vs → vs.lookup m = none
  | [], _, h => by unfold FRs at h; subst h; rfl
  | (g, x) :: fs, _, h => by
    unfold FRs at h
    obtain ⟨v, r, rfl, h0, h1, h2⟩ := h
    rw [List.lookup_cons]
    have hn : (m == nm g) = false := by
      rw [beq_eq_false_iff_ne]
      intro z
      exact hm g h0 z.symm
    simp only [hn]
    exact FRs.look_none hm h2
def putN (f : Nat) (v : D) : List (Nat × D) → List (Nat × D)
  | [] => [(f, v)]
  | (g, x) :: r => if g = f then (g, v) :: r else (g, x) :: putN f v r
theorem FRs.put {f : Nat} {d : D} {v : V} (hf : f < nms.length) (hd : DR K H mp d v) : ∀ {fs : List (Nat × D)} {vs : List (Str × V)}, FRs K H mp fs vs → FRs K H mp (putN f d fs) (putF (nm f) v vs)
  | [], _, h => by unfold FRs at h; subst h; exact ⟨v, [], rfl, hf, hd, rfl⟩
  | (g, x) :: fs, _, h => by
    unfold FRs at h
    obtain ⟨y, r, rfl, h0, h1, h2⟩ := h
    unfold putN putF
    by_cases hg : g = f
    · rw [if_pos hg, if_pos (by rw [hg])]
      exact ⟨v, r, rfl, h0, hd, h2⟩
    · rw [if_neg hg, if_neg (fun z => hg (nm_inj h0 hf z))]
      exact ⟨y, _, rfl, h0, h1, FRs.put hf hd h2⟩
theorem FRs.length : ∀ {ds : List (Nat × D)} {vs : List (Str × V)}, FRs K H mp ds vs → ds.length = vs.length
  | [], _, h => by unfold FRs at h; subst h; rfl
  | d :: ds, _, h => by
    unfold FRs at h
    obtain ⟨v, r, rfl, h0, h1, h2⟩ := h
    simp [FRs.length h2]
/-! ### the store changes -/
theorem OR.some (h : OR K H mp a o) : ∃ u, H a = some u := by
  cases o with
  | lst _ => obtain ⟨_, e, _⟩ := h; exact ⟨_, e⟩
  | ins _ _ => obtain ⟨_, _, e, _⟩ := h; exact ⟨_, e⟩
theorem OR.notT {xs : List V} (h : OR K H mp a o) : H a ≠ Option.some (.tup xs) := by
  intro z
  cases o with
  | lst _ => obtain ⟨_, e, _⟩ := h; rw [z] at e; cases e
  | ins _ _ => obtain ⟨_, _, e, _⟩ := h; rw [z] at e; cases e
theorem OR.notF {ob : Obj} {u : HO} (h : OR K H mp a o) : H a ≠ Option.some (.frz ob u) := by
  intro z
  cases o with
  | lst _ => obtain ⟨_, e, _⟩ := h; rw [z] at e; cases e
  | ins _ _ => obtain ⟨_, _, e, _⟩ := h; rw [z] at e; cases e
/-- the same object elsewhere -/
theorem OR.ext0 {a : Addr} {o : O} (h : OR K H mp a o) (e : Ext0 K H mp H' mp') (ha : H' a = H a) : OR K H' mp' a o := by
  cases o with
  | lst _ => obtain ⟨vs, q, r⟩ := h; exact ⟨vs, ha.trans q, DRs.ext0 e _ _ r⟩
  | ins _ _ => obtain ⟨dx, vs, q, r⟩ := h; exact ⟨dx, vs, ha.trans q, FRs.ext0 e _ _ r⟩
theorem OR.ext {a : Addr} {o : O} (h : OR K H mp a o) (e : Ext K H mp H' mp') (ha : H' a = H a) : OR K H' mp' a o := h.ext0 e.zero ha
theorem StoR.mem {st : Sto} (S : StoR K H mp st) {a : Addr} (h : a ∈ mp) : ∃ (n : Nat) (o : O), mp[n]? = Option.some a ∧ st[n]? = Option.some o ∧ OR K H mp a o := by
  obtain ⟨n, hn, e⟩ := List.mem_iff_getElem.mp h
  have h1 : n < st.length := S.len ▸ hn
  have h2 : mp[n]? = Option.some a := by rw [List.getElem?_eq_getElem hn, e]
  exact ⟨n, st[n], h2, by simp [h1], S.at_ n _ a (by simp [h1]) h2⟩
theorem StoR.free {st : Sto} (S : StoR K H mp st) {a : Addr} (h : H a = none) : a ∉ mp := fun z => by
  obtain ⟨_, _, _, _, q⟩ := S.mem z
  obtain ⟨u, e⟩ := q.some
  rw [h] at e; cases e
theorem sqT_upd {a p : Addr} {o : HO} {xs : List V} (h : SqT K H a xs) (hp : H p = none ∨ ∃ u, H p = Option.some u ∧ (∀ xs, u ≠ .tup xs) ∧ ∀ ob w, u ≠ .frz ob w) : SqT K (upd H p o) a xs := by
  rcases h with h | h
  · refine .inl ?_
    have hne : a ≠ p := by
      rintro rfl
      rcases hp with hp | ⟨u, hp, h1, h2⟩
      · rcases h with h | ⟨_, h⟩ <;> rw [hp] at h <;> cases h
      · rcases h with h | ⟨_, h⟩
        · rw [hp] at h; cases h; exact h1 _ rfl
        · rw [hp] at h; cases h; exact h2 _ _ rfl
    unfold Rd
    rw [upd_ne hne]
    exact h
  · exact .inr h
theorem Ext.fresh {p : Addr} {o : HO} (hp : H p = none) : Ext K H mp (upd H p o) mp :=
  ⟨⟨[], by simp⟩, fun a u h _ => by rw [upd_ne (ne_of_none h hp)]; exact h, fun a xs h => sqT_upd h (.inl hp), fun a ob u h => by rw [upd_ne (ne_of_none h hp)]; exact h⟩
theorem Ext.push {p : Addr} {o : HO} (hp : H p = none) : Ext K H mp (upd H p o) (mp ++ [p]) :=
  ⟨⟨[p], rfl, fun a h _ => by simp at h; subst h; exact hp⟩, (Ext.fresh (K := K) (mp := mp) hp).keep, (Ext.fresh (K := K) (mp := mp) hp).tup, (Ext.fresh (K := K) (mp := mp) hp).frz⟩
theorem Ext.wr {st : Sto} (S : StoR K H mp st) {a : Addr} {o : HO} (ha : a ∈ mp) : Ext K H mp (upd H a o) mp := by
  obtain ⟨n, ob, _, _, q⟩ := S.mem ha
  obtain ⟨u, hu⟩ := q.some
  refine ⟨⟨[], by simp⟩, fun b w h hb => ?_, fun b xs h => sqT_upd h (.inr ⟨u, hu, fun xs z => q.notT (z ▸ hu), fun ob w z => q.notF (z ▸ hu)⟩), fun b ob w h => ?_⟩
  · have hne : b ≠ a := fun z => hb (z.symm ▸ ha)
    rw [upd_ne hne]; exact h
  · have hne : b ≠ a := fun z => q.notF (o := _) (ob := ob) (u := w) (z ▸ h)
    rw [upd_ne hne]; exact h
/-- an object that the store doesn't hold is new or changed -/
theorem StoR.out {st : Sto} (S : StoR K H mp st) {p : Addr} {o : HO} (hp : p ∉ mp) (e : Ext0 K H mp (upd H p o) mp) : StoR K (upd H p o) mp st :=
  ⟨S.len, S.nd, fun n ob a h1 h2 => (S.at_ n ob a h1 h2).ext0 e (upd_ne (fun z => hp (z ▸ List.mem_of_getElem? h2)))⟩
theorem StoR.fresh {st : Sto} (S : StoR K H mp st) {p : Addr} {o : HO} (hp : H p = none) : StoR K (upd H p o) mp st := S.out (S.free hp) (Ext.fresh hp).zero
theorem StoR.push {st : Sto} (S : StoR K H mp st) {p : Addr} {ho : HO} {o : O} (hp : H p = none) (h : OR K (upd H p ho) (mp ++ [p]) p o) : StoR K (upd H p ho) (mp ++ [p]) (st ++ [o]) := by
  refine ⟨by simp [S.len], ?_, fun n ob a h1 h2 => ?_⟩
  · rw [List.nodup_append]
    refine ⟨S.nd, by simp, fun a ha b hb => ?_⟩
    simp at hb; subst hb
    intro z; subst z
    exact S.free hp ha
  · by_cases hn : n < st.length
    · rw [List.getElem?_append_left hn] at h1
      rw [List.getElem?_append_left (S.len ▸ hn)] at h2
      exact (S.at_ n ob a h1 h2).ext (Ext.push hp) (upd_ne (fun z => S.free hp (z ▸ List.mem_of_getElem? h2)))
    · have hn' : st.length ≤ n := Nat.le_of_not_lt hn
      rw [List.getElem?_append_right hn'] at h1
      rw [List.getElem?_append_right (by rw [S.len]; exact hn')] at h2
      rw [S.len] at h2
      cases hk : n - st.length with
      | zero => rw [hk] at h1 h2; simp at h1 h2; subst h1; subst h2; exact h
      | succ k => rw [hk] at h1; simp at h1
theorem StoR.wr {st : Sto} (S : StoR K H mp st) {n : Nat} {a : Addr} {ho : HO} {o : O} (hn : mp[n]? = Option.some a) (h : OR K (upd H a ho) mp a o) : StoR K (upd H a ho) mp (st.set n o) := by
  have ha := List.mem_of_getElem? hn
  refine ⟨by simp [S.len], S.nd, fun k ob b h1 h2 => ?_⟩
  by_cases hk : k = n
  · subst hk
    rw [hn] at h2; cases h2
    rw [List.getElem?_set] at h1
    simp at h1
    obtain ⟨_, rfl⟩ := h1
    exact h
  · rw [List.getElem?_set_ne (Ne.symm hk)] at h1
    refine (S.at_ k ob b h1 h2).ext (Ext.wr S ha) (upd_ne ?_)
    intro z
    subst z
    exact hk (L2.nd_ix S.nd h2 hn)
end
end M1
namespace M1
open PySem PySem.Spec L2
open Classical
noncomputable section

inductive Bop where
  | add | sub | mul | fdiv | mod | pow
  deriving DecidableEq
inductive Cop where
  | lt | le | gt | ge | eq | ne | isN | notN | isin | notin
  deriving DecidableEq
/-- built-in functions of values -/
inductive Bi where
  | len | abs | int | tuple | list | sum | all | any | max2 | min2
  deriving DecidableEq
inductive Ty where
  | int | str | bool | tuple | list
  deriving DecidableEq
/-- methods of lists -/
inductive Bm where
  | append | pop | popAt | insert | extend
  deriving DecidableEq
inductive T where
  | one (i : Nat) | tup (l : T) | nil | cons (a r : T)
inductive E where
  | var (i : Nat) | int (i : Int) | bl (b : Bool) | non | str (x : List Nat)
  | gint (x : Str) (i : Int) | gstr (x : Str) (s : List Nat)
  | bin (o : Bop) (a b : E) | neg (a : E)
  | cmp (o : Cop) (a b : E) | chain (o o' : Cop) (a b c : E)
  | not_ (a : E) | and_ (l : E) | or_ (l : E) | ife (c a b : E)
  | tup (l : E) | lst (l : E) | nil | cons (a r : E)
  | sub (a i : E) | cut (a lo hi : E)
  | call (x : Str) (f : Fn) (l : E) | meth (o : E) (c : Nat) (m : Str) (f : Fn) (l : E) | make (c : Nat) (f : Fn) (l : E)
  | fld (o : E) (c f : Nat)
  | bi (b : Bi) (l : E) | bic (b : Bi) (e : E) | isi (a : E) (t : Ty) | bm (b : Bm) (o l : E)
  | comp (e : E) (t : T) (it c : E)
  | iVal (a : E) | iRange (l : E) | iZip (l : E) | iEnum (a : E) | iRev (a : E)
/-- what stands in an except suite -/
inductive Hb where
  | int (i : Nat) (k : Int) | bl (i : Nat) (b : Bool) | at_ (i : Nat) | isi (i : Nat) (z : Option Int) (cs : List (Option Nat)) | app (i : Nat) (cs : List (Option Nat))
/-- an except clause: its class, its name's slot, its suite -/
structure Hc where
  c : Nat
  as : Option Nat
  b : List Hb
inductive S where
  | nil | cons (a r : S)
  | set (t : T) (e : E) | setSub (o i e : E) | setFld (o : E) (c f : Nat) (e : E)
  | aug (i : Nat) (o : Bop) (e : E) | augSub (o i : E) (op : Bop) (e : E) | augFld (o : E) (c f : Nat) (op : Bop) (e : E)
  | expr (e : E) | ret (e : E) | ret0 | if_ (c : E) (a b : S) | for_ (t : T) (it : E) (b : S) | while_ (c : E) (b : S)
  | brk | pass | raise (c : Nat) (l : E) | try_ (b : S) (hs : List Hc)

def mulFit (i j : Int) : Prop := i.natAbs.log2 + j.natAbs.log2 < 100000000
def powFit (i j : Int) : Prop := 0 ≤ j ∧ ((i.natAbs.log2 : Int) + 1) * j ≤ 2 ^ 27
def divFit (j : Int) : Prop := j ≠ 0 ∧ j.natAbs.log2 < 9000
def okIf {α : Type} (p : Prop) (a : α) (st : Sto) : R α := if p then .ok a st else .stuck
def okL (p : Prop) (ds : List D) (st : Sto) : R D := if p then .ok (.loc st.length) (st ++ [.lst ds]) else .stuck
/-- the items of a list or tuple -/
def items (st : Sto) : D → Option (List D)
  | .tup ds => some ds
  | .frz ds => some ds
  | .loc n => match st[n]? with
    | some (.lst ds) => some ds
    | _ => none
  | _ => none
def lstAt (st : Sto) (n : Nat) : Option (List D) := match st[n]? with
  | some (.lst ds) => some ds
  | _ => none
def binD (o : Bop) (x y : D) (st : Sto) : R D := match o, x, y with
  | .add, .int i, .int j => .ok (.int (i + j)) st
  | .add, .str a, .str b => okIf (a.length + b.length ≤ sizeLine) (.str (a ++ b)) st
  | .add, .tup a, .tup b => okIf (a.length + b.length ≤ sizeLine) (.tup (a ++ b)) st
  | .add, .loc m, .loc n => match lstAt st m, lstAt st n with
    | some a, some b => okL (a.length + b.length ≤ sizeLine) (a ++ b) st
    | _, _ => .stuck
  | .sub, .int i, .int j => .ok (.int (i - j)) st
  | .mul, .int i, .int j => okIf (mulFit i j) (.int (i * j)) st
  | .mul, .loc m, .int k => match lstAt st m with
    | some a => okL (-(2 ^ 63) ≤ k ∧ k < 2 ^ 63 ∧ a.length * k.toNat ≤ sizeLine) (List.replicate k.toNat a).flatten st
    | _ => .stuck
  | .fdiv, .int i, .int j => okIf (divFit j) (.int (i.fdiv j)) st
  | .mod, .int i, .int j => okIf (j ≠ 0) (.int (i.fmod j)) st
  | .pow, .int i, .int j => okIf (powFit i j) (.int (i ^ j.toNat)) st
  | _, _, _ => .stuck
/-- += on ints and texts -/
def augD (o : Bop) (x y : D) (st : Sto) : R D := match o, x, y with
  | .add, .int i, .int j => .ok (.int (i + j)) st
  | .add, .str a, .str b => okIf (a.length + b.length ≤ sizeLine) (.str (a ++ b)) st
  | .sub, .int i, .int j => .ok (.int (i - j)) st
  | _, _, _ => .stuck
mutual
def pyd0 : D → Option PyData
  | .non => some .none
  | .bl b => some (.bool b)
  | .int i => some (.int i)
  | .str x => some (.str (strOf x))
  | .tup ds => (pyds0 ds).map .tuple
  | .frz ds => (pyds0 ds).map .list
  | .loc _ => none
def pyds0 : List D → Option (List PyData)
  | [] => some []
  | d :: ds => match pyd0 d, pyds0 ds with
    | some a, some b => some (a :: b)
    | _, _ => none
end
def pyd (st : Sto) : D → Option PyData
  | .loc n => match lstAt st n with
    | some ds => (pyds0 ds).map .list
    | _ => none
  | d => pyd0 d
def eqD (st : Sto) (x y : D) : Option Bool := match pyd st x, pyd st y with
  | some a, some b => if SeqAt.shaped a = true ∧ SeqAt.shaped b = true then some (PyData.eqv a b) else none
  | _, _ => none
def flatD : D → Bool
  | .non => true | .bl _ => true | .int _ => true | .str _ => true
  | _ => false
def eqF : D → D → Bool
  | .non, .non => true
  | .bl a, .bl b => a == b
  | .bl a, .int b => (if a then 1 else 0) == b
  | .int a, .bl b => a == (if b then 1 else 0)
  | .int a, .int b => a == b
  | .str a, .str b => a == b
  | _, _ => false
def inD (x : D) (ds : List D) : Bool := ds.any fun y => eqF y x
def isinD (st : Sto) (x y : D) : Option Bool := match items st y with
  | some ds => if flatD x = true ∧ ds.all flatD = true then some (inD x ds) else none
  | none => none
def okO {α : Type} (o : Option α) (f : α → D) (st : Sto) : R D := match o with
  | some a => .ok (f a) st
  | none => .stuck
def isNonD : D → Bool
  | .non => true
  | _ => false
def cmpD (o : Cop) (x y : D) (st : Sto) : R D := match o with
  | .lt => match x, y with
    | .int i, .int j => .ok (.bl (decide (i < j))) st
    | _, _ => .stuck
  | .le => match x, y with
    | .int i, .int j => .ok (.bl (decide (i ≤ j))) st
    | _, _ => .stuck
  | .gt => match x, y with
    | .int i, .int j => .ok (.bl (decide (j < i))) st
    | _, _ => .stuck
  | .ge => match x, y with
    | .int i, .int j => .ok (.bl (decide (j ≤ i))) st
    | _, _ => .stuck
  | .eq => okO (eqD st x y) .bl st
  | .ne => okO (eqD st x y) (fun b => .bl !b) st
  | .isN => match y with
    | .non => .ok (.bl (isNonD x)) st
    | _ => .stuck
  | .notN => match y with
    | .non => .ok (.bl !(isNonD x)) st
    | _ => .stuck
  | .isin => okO (isinD st x y) .bl st
  | .notin => okO (isinD st x y) (fun b => .bl !b) st
def truD (st : Sto) : D → Option Bool
  | .non => some false
  | .bl b => some b
  | .int i => some (i != 0)
  | .str x => if x.length ≤ sizeLine then some !x.isEmpty else none
  | .tup ds => some !ds.isEmpty
  | .loc n => (lstAt st n).map fun ds => !ds.isEmpty
  | .frz ds => some !ds.isEmpty
def asB : D → Option Bool
  | .bl b => some b
  | _ => none
def subD (x i : D) (st : Sto) : R D := match i with
  | .int k => match items st x with
    | some ds => okO (atI ds k) id st
    | none => match x with
      | .str z => if z.length ≤ sizeLine then okO (atI z k) (fun c => .str [c]) st else .stuck
      | _ => .stuck
  | _ => .stuck
def cutL {α : Type} (xs : List α) (lo hi : Option Int) : List α := (xs.drop (HT.sIx xs.length 0 lo)).take (HT.sIx xs.length xs.length hi - HT.sIx xs.length 0 lo)
def cutD (x : D) (lo hi : Option Int) (st : Sto) : R D := match x with
  | .tup ds => .ok (.tup (cutL ds lo hi)) st
  | .frz ds => .ok (.loc st.length) (st ++ [.lst (cutL ds lo hi)])
  | .loc n => match lstAt st n with
    | some ds => .ok (.loc st.length) (st ++ [.lst (cutL ds lo hi)])
    | _ => .stuck
  | .str z => okIf (z.length ≤ sizeLine) (.str (cutL z lo hi)) st
  | _ => .stuck
def intsOf : List D → Option (List Int)
  | [] => some []
  | .int i :: r => (intsOf r).map (i :: ·)
  | _ => none
def blsOf : List D → Option (List Bool)
  | [] => some []
  | .bl i :: r => (blsOf r).map (i :: ·)
  | _ => none
/-- a built-in of the items of a list -/
def biL (b : Bi) (ds : List D) (st : Sto) : R D := match b with
  | .tuple => .ok (.tup ds) st
  | .list => .ok (.loc st.length) (st ++ [.lst ds])
  | .sum => okO (intsOf ds) (fun l => .int l.sum) st
  | .all => okO (blsOf ds) (fun l => .bl (l.all id)) st
  | .any => okO (blsOf ds) (fun l => .bl (l.any id)) st
  | .len => .ok (.int ds.length) st
  | _ => .stuck
def seqD (b : Bi) (x : D) (st : Sto) : R D := match x with
  | .tup ds => (match b with
    | .tuple => .ok (.tup ds) st
    | .list => biL .list ds st
    | .len => .ok (.int ds.length) st
    | _ => .stuck)
  | x => (match items st x with
    | some ds => biL b ds st
    | none => .stuck)
def strD (b : Bi) (z : List Nat) (st : Sto) : R D := match b with
  | .len => okIf (z.length ≤ sizeLine) (.int z.length) st
  | _ => .stuck
def intD (b : Bi) (i : Int) (st : Sto) : R D := match b with
  | .abs => .ok (.int (if i < 0 then -i else i)) st
  | .int => .ok (.int i) st
  | _ => .stuck
def blD (b : Bi) (k : Bool) (st : Sto) : R D := match b with
  | .int => .ok (.int (if k then 1 else 0)) st
  | _ => .stuck
def oneD (b : Bi) (x : D) (st : Sto) : R D := match x with
  | .str z => strD b z st
  | .int i => intD b i st
  | .bl k => blD b k st
  | x => seqD b x st
def twoD (b : Bi) (x y : D) (st : Sto) : R D := match x, y with
  | .int i, .int j => (match b with
    | .max2 => .ok (.int (if j > i then j else i)) st
    | .min2 => .ok (.int (if j < i then j else i)) st
    | _ => .stuck)
  | _, _ => .stuck
def biD (b : Bi) (xs : List D) (st : Sto) : R D := match xs with
  | [x] => oneD b x st
  | [x, y] => twoD b x y st
  | _ => .stuck
def isiD (x : D) (t : Ty) : Option Bool := match t, x with
  | _, .loc _ => none
  | .int, .int _ => some true
  | .int, .bl _ => some true
  | .int, _ => some false
  | .str, .str _ => some true
  | .str, _ => some false
  | .bool, .bl _ => some true
  | .bool, _ => some false
  | .tuple, .tup _ => some true
  | .tuple, _ => some false
  | .list, .frz _ => some true
  | .list, _ => some false
/-- a method of the list ds at n -/
def bmL (b : Bm) (n : Nat) (ds : List D) (xs : List D) (st : Sto) : R D := match b with
  | .append => match xs with
    | [y] => if ds.length < sizeLine then .ok .non (st.set n (.lst (ds ++ [y]))) else .stuck
    | _ => .stuck
  | .pop => match xs with
    | [] => (match ds[ds.length - 1]? with
      | some y => .ok y (st.set n (.lst ds.dropLast))
      | none => .stuck)
    | _ => .stuck
  | .popAt => match xs with
    | [.int i] => if -(2 ^ 63) ≤ i ∧ i < 2 ^ 63 then (match ixN ds.length i with
      | some k => (match ds[k]? with
        | some y => .ok y (st.set n (.lst (ds.eraseIdx k)))
        | none => .stuck)
      | none => .stuck) else .stuck
    | _ => .stuck
  | .insert => match xs with
    | [.int i, y] => if ds.length < sizeLine ∧ 0 ≤ i ∧ i < 2 ^ 63 then .ok .non (st.set n (.lst (ds.take i.toNat ++ [y] ++ ds.drop i.toNat))) else .stuck
    | _ => .stuck
  | .extend => match xs with
    | [.loc m] => (match lstAt st m with
      | some es => if ds.length + es.length ≤ sizeLine then .ok .non (st.set n (.lst (ds ++ es))) else .stuck
      | none => .stuck)
    | _ => .stuck
def bmD (b : Bm) (x : D) (xs : List D) (st : Sto) : R D := match x with
  | .loc n => match lstAt st n with
    | some ds => bmL b n ds xs st
    | none => .stuck
  | _ => .stuck
def setSubD (o i v : D) (st : Sto) : R Unit := match o, i with
  | .loc n, .int k => match lstAt st n with
    | some ds => match ixN ds.length k with
      | some j => .ok () (st.set n (.lst (ds.set j v)))
      | none => .stuck
    | none => .stuck
  | _, _ => .stuck
def insAt (st : Sto) (n c : Nat) : Option (List (Nat × D)) := match st[n]? with
  | some (.ins c' fs) => if c' = c then some fs else none
  | _ => none
def fldD (o : D) (c f : Nat) (st : Sto) : R D := match o with
  | .loc n => match insAt st n c with
    | some fs => okO (fs.lookup f) id st
    | none => .stuck
  | _ => .stuck
def setFldD (o : D) (c f : Nat) (v : D) (st : Sto) : R Unit := match o with
  | .loc n => match insAt st n c with
    | some fs => if fs.length < 1000 then .ok () (st.set n (.ins c (putN f v fs))) else .stuck
    | none => .stuck
  | _ => .stuck
def methD (f : Fn) (c : Nat) (o : D) (xs : List D) (st : Sto) : R D := match o with
  | .loc n => f (o :: xs) st
  | _ => .stuck
def makeD (f : Fn) (c : Nat) (xs : List D) (st : Sto) : R D := (f (.loc st.length :: xs) (st ++ [.ins c []])).bind fun d st' => match d with
  | .non => .ok (.loc st.length) st'
  | _ => .stuck
def R.quiet {α : Type} (r : R α) : R α := match r with
  | .ok a s => .ok a s
  | _ => .stuck
def subLst (a k : D) (st : Sto) : R D := match a, k with
  | .loc n, .int i => match lstAt st n with
    | some ds => okO (atI ds i) id st
    | none => .stuck
  | _, _ => .stuck
/-! ### targets -/
def T.slots : T → List Nat
  | .one i => [i]
  | .tup l => l.slots
  | .nil => []
  | .cons a r => a.slots ++ r.slots
mutual
def asg : T → D → Env → Option Env
  | .one i, d, ρ => some (ρ.set i (some d))
  | .tup l, .tup ds, ρ => asgs l ds ρ
  | _, _, _ => none
def asgs : T → List D → Env → Option Env
  | .nil, [], ρ => some ρ
  | .cons t r, d :: ds, ρ => match asg t d ρ with
    | some ρ' => asgs r ds ρ'
    | none => none
  | _, _, _ => none
end
def wipeE (ρ : Env) : List Nat → Env
  | [] => ρ
  | v :: vs => (wipeE ρ vs).set v none
/-! ### what is walked -/
structure Its where
  ds : List D
  live : List (Nat × List D) := []
def liveOk (l : List (Nat × List D)) (st : Sto) : Prop := ∀ p ∈ l, lstAt st p.1 = some p.2
def itVal (x : D) (st : Sto) : R Its := match x with
  | .tup ds => .ok ⟨ds, []⟩ st
  | .frz ds => .ok ⟨ds, []⟩ st
  | .loc n => match lstAt st n with
    | some ds => .ok ⟨ds, [(n, ds)]⟩ st
    | none => .stuck
  | .str z => .ok ⟨z.map fun c => .str [c], []⟩ st
  | _ => .stuck
/-- of a list or tuple -/
def itSeq (x : D) (st : Sto) : R Its := match x with
  | .str _ => .stuck
  | x => itVal x st
def rgOk (i : Int) : Prop := -(2 ^ 62) ≤ i ∧ i < 2 ^ 62
def itRange (xs : List D) (st : Sto) : R Its := match xs with
  | [.int j] => okIf (rgOk j) ⟨(List.range j.toNat).map fun i => D.int (i : Nat), []⟩ st
  | [.int i, .int j] => okIf (rgOk i ∧ rgOk j) ⟨(List.range (j - i).toNat).map fun k => D.int (i + (k : Nat)), []⟩ st
  | _ => .stuck
def itZip (xs : List D) (st : Sto) : R Its := match xs with
  | [x, y] => (itSeq x st).bind fun a st1 => (itSeq y st1).bind fun b st2 => .ok ⟨(a.ds.zip b.ds).map fun p => .tup [p.1, p.2], a.live ++ b.live⟩ st2
  | _ => .stuck
def itEnum (x : D) (st : Sto) : R Its := (itSeq x st).bind fun a st1 => .ok ⟨a.ds.zipIdx.map fun p => .tup [.int (p.2 : Nat), p.1], a.live⟩ st1
def itRev (x : D) (st : Sto) : R Its := (itSeq x st).bind fun a st1 => .ok ⟨a.ds.reverse, a.live⟩ st1
def compL (t : T) (live : List (Nat × List D)) (cond : Env → Sto → R Bool) (elt : Env → Sto → R D) (ρ : Env) : List D → Sto → R (List D)
  | [], st => if liveOk live st then .ok [] st else .stuck
  | d :: ds, st => if liveOk live st then (match asg t d (wipeE ρ t.slots) with
    | some ρ' => (cond ρ' st).quiet.bind fun b st1 => match b with
      | true => (elt ρ' st1).quiet.bind fun y st2 => (compL t live cond elt ρ ds st2).bind fun ys st3 => .ok (y :: ys) st3
      | false => compL t live cond elt ρ ds st1
    | none => .stuck) else .stuck
def compD (t : T) (it : R Its) (cond : Env → Sto → R Bool) (elt : Env → Sto → R D) (ρ : Env) : R (List D) :=
  it.bind fun i st => if i.ds.length ≤ sizeLine then compL t i.live cond elt ρ i.ds st else .stuck
/-! ### what an expression means -/
structure Den where
  e : Env → Sto → R D
  t : Env → Sto → R Bool
  c : Env → Sto → R Bool
  p : Env → Sto → R (Option Int)
  a : Env → Sto → R (List D) := fun _ _ => .stuck
  an : Env → Sto → R D := fun _ _ => .stuck
  o : Env → Sto → R D := fun _ _ => .stuck
  ta : Env → Sto → R Bool := fun _ _ => .stuck
  to : Env → Sto → R Bool := fun _ _ => .stuck
  i : Env → Sto → R Its := fun _ _ => .stuck
  l : Env → Sto → R (List D) := fun _ _ => .stuck
def truR (x : D) (st : Sto) : R Bool := match truD st x with
  | some b => .ok b st
  | none => .stuck
def partR (x : D) (st : Sto) : R (Option Int) := match x with
  | .int i => .ok (some i) st
  | _ => .stuck
def Den.of (v : Env → Sto → R D) : Den := { e := v, t := fun ρ st => (v ρ st).bind truR, c := fun ρ st => (v ρ st).bind truR, p := fun ρ st => (v ρ st).bind partR }
def Den.tst (v : Env → Sto → R D) (t : Env → Sto → R Bool) : Den := { e := v, t := t, c := t, p := fun _ _ => .stuck }
def Den.it (i : Env → Sto → R Its) : Den := { e := fun _ _ => .stuck, t := fun _ _ => .stuck, c := fun _ _ => .stuck, p := fun _ _ => .stuck, i := i }
def varD (i : Nat) (ρ : Env) (st : Sto) : R D := match ρ[i]? with
  | some (some d) => .ok d st
  | _ => .stuck
def negD (x : D) (st : Sto) : R D := match x with
  | .int i => .ok (.int (-i)) st
  | _ => .stuck
def notD (x : D) (st : Sto) : R D := match x with
  | .bl b => .ok (.bl !b) st
  | _ => .stuck
def andD (x : D) (st : Sto) (k : Sto → R D) : R D := match x with
  | .bl true => k st
  | .bl false => .ok (.bl false) st
  | _ => .stuck
def orD (x : D) (st : Sto) (k : Sto → R D) : R D := match x with
  | .bl true => .ok (.bl true) st
  | .bl false => k st
  | _ => .stuck
def andT (b : Bool) (st : Sto) (k : Sto → R Bool) : R Bool := match b with
  | true => k st
  | false => .ok false st
def orT (b : Bool) (st : Sto) (k : Sto → R Bool) : R Bool := match b with
  | true => .ok true st
  | false => k st
def selfD (c : Nat) (x : D) (st : Sto) (k : Sto → R D) : R D := match x with
  | .loc n => match insAt st n c with
    | some _ => k st
    | none => .stuck
  | _ => .stuck
def onLst (x : D) (st : Sto) (k : Sto → R D) : R D := match x with
  | .loc n => match lstAt st n with
    | some _ => k st
    | none => .stuck
  | _ => .stuck
def E.isNil : E → Bool
  | .nil => true
  | _ => false
def den : E → Den
  | .var i => .of (varD i)
  | .int i => .of fun _ st => .ok (.int i) st
  | .bl b => .of fun _ st => .ok (.bl b) st
  | .non => .of fun _ st => .ok .non st
  | .str x => .of fun _ st => .ok (.str x) st
  | .gint _ i => .of fun _ st => .ok (.int i) st
  | .gstr _ x => .of fun _ st => .ok (.str x) st
  | .bin o a b => .of fun ρ st => ((den a).e ρ st).bind fun x st1 => ((den b).e ρ st1).bind fun y st2 => binD o x y st2
  | .neg a => .of fun ρ st => ((den a).e ρ st).bind negD
  | .cmp o a b => .of fun ρ st => ((den a).e ρ st).bind fun x st1 => ((den b).e ρ st1).bind fun y st2 => cmpD o x y st2
  | .chain o o' a b c => .of fun ρ st => ((den a).e ρ st).bind fun x st1 => ((den b).e ρ st1).bind fun y st2 => (cmpD o x y st2).bind fun z st3 => andD z st3 fun st3 => ((den c).e ρ st3).bind fun w st4 => cmpD o' y w st4
  | .not_ a => .tst (fun ρ st => ((den a).e ρ st).bind notD) fun ρ st => ((den a).t ρ st).bind fun b st1 => .ok (!b) st1
  | .and_ l => .tst (den l).an (den l).ta
  | .or_ l => .tst (den l).o (den l).to
  | .ife c a b => .tst (fun ρ st => ((den c).t ρ st).bind fun k st1 => match k with
    | true => (den a).e ρ st1
    | false => (den b).e ρ st1) fun _ _ => .stuck
  | .tup l => .of fun ρ st => ((den l).a ρ st).bind fun xs st1 => okIf (xs.length ≤ sizeLine) (.tup xs) st1
  | .lst l => .of fun ρ st => ((den l).a ρ st).bind fun xs st1 => okL (xs.length ≤ sizeLine) xs st1
  | .nil => { e := fun _ _ => .stuck, t := fun _ _ => .stuck, c := fun _ st => .ok true st, p := fun _ st => .ok none st, a := fun _ st => .ok [] st }
  | .cons a r => { e := fun _ _ => .stuck, t := fun _ _ => .stuck, c := fun _ _ => .stuck, p := fun _ _ => .stuck
                   a := fun ρ st => ((den a).e ρ st).bind fun x st1 => ((den r).a ρ st1).bind fun xs st2 => .ok (x :: xs) st2
                   an := fun ρ st => if r.isNil then (den a).e ρ st else ((den a).e ρ st).bind fun x st1 => andD x st1 ((den r).an ρ)
                   o := fun ρ st => if r.isNil then (den a).e ρ st else ((den a).e ρ st).bind fun x st1 => orD x st1 ((den r).o ρ)
                   ta := fun ρ st => if r.isNil then (den a).t ρ st else ((den a).t ρ st).bind fun x st1 => andT x st1 ((den r).ta ρ)
                   to := fun ρ st => if r.isNil then (den a).t ρ st else ((den a).t ρ st).bind fun x st1 => orT x st1 ((den r).to ρ) }
  | .sub a i => .of fun ρ st => ((den a).e ρ st).bind fun x st1 => ((den i).e ρ st1).bind fun y st2 => subD x y st2
  | .cut a lo hi => .of fun ρ st => ((den a).e ρ st).bind fun x st1 => ((den lo).p ρ st1).bind fun l st2 => ((den hi).p ρ st2).bind fun h st3 => cutD x l h st3
  | .call _ f l => .of fun ρ st => ((den l).a ρ st).bind fun xs st1 => f xs st1
  | .meth o c _ f l => .of fun ρ st => ((den o).e ρ st).bind fun x st1 => selfD c x st1 fun st1 => ((den l).a ρ st1).bind fun xs st2 => f (x :: xs) st2
  | .make c f l => .of fun ρ st => ((den l).a ρ st).bind fun xs st1 => makeD f c xs st1
  | .fld o c f => .of fun ρ st => ((den o).e ρ st).bind fun x st1 => fldD x c f st1
  | .bi b l => .of fun ρ st => ((den l).a ρ st).bind fun xs st1 => biD b xs st1
  | .bic b e => .of fun ρ st => ((den e).l ρ st).bind fun xs st1 => biL b xs st1
  | .isi a t => .of fun ρ st => ((den a).e ρ st).bind fun x st1 => okO (isiD x t) .bl st1
  | .bm b o l => .of fun ρ st => ((den o).e ρ st).bind fun x st1 => onLst x st1 fun st1 => ((den l).a ρ st1).bind fun xs st2 => bmD b x xs st2
  | .comp e t it c => { Den.of (fun ρ st => (compD t ((den it).i ρ st) (den c).c (den e).e ρ).bind fun xs st1 => .ok (.loc st1.length) (st1 ++ [.lst xs])) with l := fun ρ st => compD t ((den it).i ρ st) (den c).c (den e).e ρ }
  | .iVal a => .it fun ρ st => ((den a).e ρ st).bind itVal
  | .iRange l => .it fun ρ st => ((den l).a ρ st).bind itRange
  | .iZip l => .it fun ρ st => ((den l).a ρ st).bind itZip
  | .iEnum l => .it fun ρ st => ((den l).a ρ st).bind fun xs st1 => match xs with | [x] => itEnum x st1 | _ => .stuck
  | .iRev a => .it fun ρ st => ((den a).e ρ st).bind itRev
/-! ### what a statement means -/
inductive F where
  | nx (ρ : Env) (st : Sto) | rt (d : D) (st : Sto) | bk (ρ : Env) (st : Sto) | exc (c : Nat) (x : Option D) (ρ : Env) (st : Sto) | stuck
def R.then {α : Type} (r : R α) (ρ : Env) (f : α → Sto → F) : F := match r with
  | .ok a st => f a st
  | .exc c x st => .exc c x ρ st
  | .stuck => .stuck
def F.seq (a : F) (f : Env → Sto → F) : F := match a with
  | .nx ρ st => f ρ st
  | .rt d st => .rt d st
  | .bk ρ st => .bk ρ st
  | .exc c x ρ st => .exc c x ρ st
  | .stuck => .stuck
def F.asg (o : Option Env) (st : Sto) : F := match o with
  | some ρ => .nx ρ st
  | none => .stuck
def forF (t : T) (live : List (Nat × List D)) (body : Env → Sto → F) : List D → Env → Sto → F
  | [], ρ, st => if liveOk live st then .nx ρ st else .stuck
  | d :: ds, ρ, st => if liveOk live st then (match asg t d ρ with
    | some ρ' => (match body ρ' st with
      | .nx ρ2 st2 => forF t live body ds ρ2 st2
      | .bk ρ2 st2 => .nx ρ2 st2
      | .rt d st2 => .rt d st2
      | .exc c x ρ2 st2 => .exc c x ρ2 st2
      | .stuck => .stuck)
    | none => .stuck) else .stuck
/-- so many turns at most -/
def whileN (c : Env → Sto → R Bool) (body : Env → Sto → F) : Nat → Env → Sto → Option F
  | 0, _, _ => none
  | n + 1, ρ, st => match c ρ st with
    | .ok false st1 => some (.nx ρ st1)
    | .ok true st1 => (match body ρ st1 with
      | .nx ρ2 st2 => whileN c body n ρ2 st2
      | .bk ρ2 st2 => some (.nx ρ2 st2)
      | .rt d st2 => some (.rt d st2)
      | .exc c x ρ2 st2 => some (.exc c x ρ2 st2)
      | .stuck => none)
    | .exc c x st1 => some (.exc c x ρ st1)
    | .stuck => none
def whileF (c : Env → Sto → R Bool) (body : Env → Sto → F) (ρ : Env) (st : Sto) : F :=
  if h : ∃ n f, whileN c body n ρ st = some f then h.choose_spec.choose else .stuck
/-- is the class e below c -/
def subC (e c : Nat) : Bool := e == c || c == 0
def isiX (e : Nat) : Option Nat → Bool
  | none => true
  | some c => subC e c
def isiL (e : Nat) (cs : List (Option Nat)) : List D := cs.map fun c => .bl (isiX e c)
def preL : Option Int → List D
  | none => []
  | some z => [.int z]
def hb1 (e : Nat) (x : Option D) (h : Hb) (ρ : Env) (st : Sto) : Option (Env × Sto) := match h with
  | .int i k => some (ρ.set i (some (.int k)), st)
  | .bl i k => some (ρ.set i (some (.bl k)), st)
  | .at_ i => x.map fun d => (ρ.set i (some d), st)
  | .isi i z cs => some (ρ.set i (some (.loc st.length)), st ++ [.lst (preL z ++ isiL e cs)])
  | .app i cs => match ρ[i]? with
    | some (some (.loc n)) => match lstAt st n with
      | some ds => if ds.length + cs.length ≤ sizeLine then some (ρ.set i (some (.loc (st.length + 1))), st ++ [.lst (isiL e cs)] ++ [.lst (ds ++ isiL e cs)]) else none
      | none => none
    | _ => none
def hbs (e : Nat) (x : Option D) : List Hb → Env → Sto → Option (Env × Sto)
  | [], ρ, st => some (ρ, st)
  | h :: r, ρ, st => match hb1 e x h ρ st with
    | some (ρ', st') => hbs e x r ρ' st'
    | none => none
def clr (as : Option Nat) (ρ : Env) : Env := match as with
  | some i => ρ.set i none
  | none => ρ
def asIn (as : Option Nat) (ρ : Env) : Bool := match as with
  | some i => decide (i < ρ.length)
  | none => true
def catchF (e : Nat) (x : Option D) (ρ : Env) (st : Sto) : List Hc → F
  | [] => .exc e x ρ st
  | h :: r => if subC e h.c = true then (if asIn h.as ρ = true then (match hbs e x h.b (clr h.as ρ) st with
    | some (ρ', st') => .nx (clr h.as ρ') st'
    | none => .stuck) else .stuck) else catchF e x ρ st r
def tryF (hs : List Hc) (f : F) : F := match f with
  | .exc e x ρ st => if e ∈ exNs then catchF e x ρ st hs else .stuck
  | f => f
def denS : S → Env → Sto → F
  | .nil, ρ, st => .nx ρ st
  | .cons a r, ρ, st => (denS a ρ st).seq (denS r)
  | .set t e, ρ, st => ((den e).e ρ st).then ρ fun d st1 => .asg (asg t d ρ) st1
  | .setSub o i e, ρ, st => ((den e).e ρ st).then ρ fun v st1 => ((den o).e ρ st1).then ρ fun x st2 => ((den i).e ρ st2).then ρ fun y st3 => (setSubD x y v st3).then ρ fun _ st4 => .nx ρ st4
  | .setFld o c f e, ρ, st => ((den e).e ρ st).then ρ fun v st1 => ((den o).e ρ st1).then ρ fun x st2 => (setFldD x c f v st2).then ρ fun _ st3 => .nx ρ st3
  | .aug i o e, ρ, st => (varD i ρ st).then ρ fun x st1 => ((den e).e ρ st1).then ρ fun y st2 => (augD o x y st2).then ρ fun z st3 => .nx (ρ.set i (some z)) st3
  | .augSub o i op e, ρ, st => ((den o).e ρ st).then ρ fun a st1 => ((den i).e ρ st1).then ρ fun k st2 => (subLst a k st2).then ρ fun x st3 => ((den e).e ρ st3).then ρ fun y st4 => (augD op x y st4).then ρ fun z st5 => (setSubD a k z st5).then ρ fun _ st6 => .nx ρ st6
  | .augFld o c f op e, ρ, st => ((den o).e ρ st).then ρ fun a st1 => (fldD a c f st1).then ρ fun x st3 => ((den e).e ρ st3).then ρ fun y st4 => (augD op x y st4).then ρ fun z st5 => (setFldD a c f z st5).then ρ fun _ st6 => .nx ρ st6
  | .expr e, ρ, st => ((den e).e ρ st).then ρ fun _ st1 => .nx ρ st1
  | .ret e, ρ, st => ((den e).e ρ st).then ρ fun d st1 => .rt d st1
  | .ret0, _, st => .rt .non st
  | .if_ c a b, ρ, st => ((den c).t ρ st).then ρ fun k st1 => match k with
    | true => denS a ρ st1
    | false => denS b ρ st1
  | .for_ t it b, ρ, st => ((den it).i ρ st).then ρ fun i st1 => forF t i.live (denS b) i.ds ρ st1
  | .while_ c b, ρ, st => whileF (den c).t (denS b) ρ st
  | .brk, ρ, st => .bk ρ st
  | .pass, ρ, st => .nx ρ st
  | .raise c l, ρ, st => ((den l).a ρ st).then ρ fun xs st1 => match xs with
    | [] => .exc c none ρ st1
    | [x] => .exc c (some x) ρ st1
    | _ => .stuck
  | .try_ b hs, ρ, st => tryF hs (denS b ρ st)
/-! ### a def -/
mutual
def closedD (n : Nat) : D → Bool
  | .tup ds => closedDs n ds
  | .frz ds => closedDs n ds
  | .loc k => decide (k < n)
  | _ => true
def closedDs (n : Nat) : List D → Bool
  | [] => true
  | d :: ds => closedD n d && closedDs n ds
end
def closedO (n : Nat) : O → Bool
  | .lst ds => closedDs n ds
  | .ins _ fs => closedDs n (fs.map (·.2))
def Keep (st0 st : Sto) : Prop := ∀ (k : Nat), k < st0.length → st[k]? = st0[k]? ∨ ∃ o, st[k]? = some o ∧ closedO st0.length o = true
def gc (st0 : Sto) (d : D) (st : Sto) : R D :=
  if Keep st0 st then
    if closedD st0.length d = true then .ok d (st.take st0.length)
    else match d with
      | .loc k => match lstAt st k with
        | some ds => if closedDs st0.length ds = true then .ok (.loc st0.length) (st.take st0.length ++ [.lst ds]) else .ok d st
        | none => .ok d st
      | _ => .ok d st
  else .ok d st
def gcx (st0 : Sto) (c : Nat) (x : Option D) (st : Sto) : R D :=
  if Keep st0 st ∧ (∀ d, x = some d → closedD st0.length d = true) then .exc c x (st.take st0.length) else .exc c x st
def finish (st0 : Sto) (f : F) : R D := match f with
  | .nx _ st => gc st0 .non st
  | .rt d st => gc st0 d st
  | .exc c x _ st => gcx st0 c x st
  | _ => .stuck
def denDef (np n : Nat) (b : S) : Fn := fun args st => if args.length = np then finish st (denS b (args.map some ++ List.replicate (n - np) none) st) else .stuck
end
end M1
namespace M1
open PySem PySem.Spec L2

/-- how an exception lies -/
def ExR (K : PySem.W.Frag) (H : Hp) (mp : List Addr) (x : Option D) (dd : Option Addr) : Prop := match x with
  | none => dd = none
  | some d => ∃ a v, dd = some a ∧ H a = some (.xd [(nm 9, v)]) ∧ a ∉ mp ∧ DR K H mp d v
section
variable {α β : Type}
/-- what is wanted of an answer -/
def RP (K : PySem.W.Frag) (rel : Hp → List Addr → α → β → Prop) (H : Hp) (mp : List Addr) (r : R α) (Q : β → Hp → Prop) (E : XK) : Prop := match r with
  | .ok a st => ∀ v H' mp', Ext K H mp H' mp' → StoR K H' mp' st → rel H' mp' a v → Q v H'
  | .exc c x st => ∀ dd H' mp', Ext K H mp H' mp' → StoR K H' mp' st → ExR K H' mp' x dd → E (.ref (cA K c)) dd H'
  | .stuck => False
variable {K : PySem.W.Frag} {rel : Hp → List Addr → α → β → Prop} {H H1 : Hp} {mp mp1 : List Addr} {r : R α} {Q Q' : β → Hp → Prop} {E E' : XK}
theorem RP.mono (h : RP K rel H mp r Q E) (q : ∀ v H', Q v H' → Q' v H') : RP K rel H mp r Q' E := by
  cases r with
  | ok a st => exact fun v H' mp' e s d => q _ _ (h v H' mp' e s d)
  | exc c x st => exact h
  | stuck => exact h
theorem RP.ext (h : RP K rel H mp r Q E) (e : Ext K H mp H1 mp1) : RP K rel H1 mp1 r Q E := by
  cases r with
  | ok a st => exact fun v H' mp' e' s d => h v H' mp' (e.trans e') s d
  | exc c x st => exact fun dd H' mp' e' s d => h dd H' mp' (e.trans e') s d
  | stuck => exact h
theorem RP.exq (h : RP K rel H mp r Q E) (q : ∀ c d H, E c d H → E' c d H) : RP K rel H mp r Q E' := by
  cases r with
  | ok a st => exact h
  | exc c x st => exact fun dd H' mp' e s d => q _ _ _ (h dd H' mp' e s d)
  | stuck => exact h
theorem RP.quiet (h : RP K rel H mp r.quiet Q E) : RP K rel H mp r Q E' := by
  cases r with
  | ok a st => exact h
  | exc c x st => exact h.elim
  | stuck => exact h
theorem RP.ok {a : α} {st : Sto} {v : β} (h : RP K rel H mp (.ok a st) Q E) (S : StoR K H mp st) (d : rel H mp a v) : Q v H := h v H mp .refl S d
end
section
variable {α β γ δ : Type} {K : PySem.W.Frag} {r1 : Hp → List Addr → α → γ → Prop} {r2 : Hp → List Addr → β → δ → Prop} {H : Hp} {mp : List Addr} {r : R α} {f : α → Sto → R β} {Q : δ → Hp → Prop} {E : XK}
/-- what stands behind a first step -/
def Behind (K : PySem.W.Frag) (rel : Hp → List Addr → α → γ → Prop) (H : Hp) (mp : List Addr) (v : γ) (H1 : Hp) (P : α → Sto → List Addr → Prop) : Prop := ∃ a st1 mp1, Ext K H mp H1 mp1 ∧ StoR K H1 mp1 st1 ∧ rel H1 mp1 a v ∧ P a st1 mp1
theorem RP.bind (h : RP K r2 H mp (r.bind f) Q E) : RP K r1 H mp r (fun v H1 => Behind K r1 H mp v H1 fun a st1 mp1 => RP K r2 H1 mp1 (f a st1) Q E) E := by
  cases r with
  | ok a st => exact fun v H' mp' e s d => ⟨a, st, mp', e, s, d, RP.ext (r := f a st) h e⟩
  | exc c x st => exact h
  | stuck => exact h
end
abbrev relL (K : PySem.W.Frag) : Hp → List Addr → List D → List V → Prop := fun H mp => DRs K H mp
abbrev relB : Hp → List Addr → Bool → Bool → Prop := fun _ _ a b => a = b
abbrev relP : Hp → List Addr → Option Int → Option Int → Prop := fun _ _ a b => a = b
/-! ### the readings -/
def tE (K : PySem.W.Frag) (W : WX) (m : Env → Sto → R D) : TE := fun σ H Q => ∃ ρ st mp, EnvR K H mp ρ σ ∧ StoR K H mp st ∧ RP K (DR K) H mp (m ρ st) Q fun c d H' => W c d σ H'
def tA (K : PySem.W.Frag) (W : WX) (m : Env → Sto → R (List D)) : TA := fun σ H Q => ∃ ρ st mp, EnvR K H mp ρ σ ∧ StoR K H mp st ∧ RP K (relL K) H mp (m ρ st) Q fun c d H' => W c d σ H'
def tT (K : PySem.W.Frag) (W : WX) (m : Env → Sto → R Bool) : TT := fun σ H Q => ∃ ρ st mp, EnvR K H mp ρ σ ∧ StoR K H mp st ∧ RP K relB H mp (m ρ st) Q fun c d H' => W c d σ H'
def tP (K : PySem.W.Frag) (W : WX) (m : Env → Sto → R (Option Int)) : TO := fun σ H Q => ∃ ρ st mp, EnvR K H mp ρ σ ∧ StoR K H mp st ∧ RP K relP H mp (m ρ st) Q fun c d H' => W c d σ H'
/-- from one reading to another -/
theorem PE.of {X : Cx} {e : Expr} {t t' : TE} (h : PE X e t) (q : ∀ σ H Q, t' σ H Q → t σ H Q) : PE X e t' := ⟨fun pins s σ H Q I w => h.run pins s σ H Q I (q σ H Q w)⟩
theorem PT.of {X : Cx} {e : Expr} {t t' : TT} (h : PT X e t) (q : ∀ σ H Q, t' σ H Q → t σ H Q) : PT X e t' := ⟨fun pins s σ H Q I w => h.run pins s σ H Q I (q σ H Q w)⟩
theorem PW.of {X : Cx} {e : Expr} {t t' : TT} (h : PW X e t) (q : ∀ σ H Q, t' σ H Q → t σ H Q) : PW X e t' := ⟨fun wh pins s σ H Q I w => h.run wh pins s σ H Q I (q σ H Q w)⟩
theorem PA.of {X : Cx} {e : List Expr} {t t' : TA} (h : PA X e t) (q : ∀ σ H Q, t' σ H Q → t σ H Q) : PA X e t' := ⟨fun pos pins s σ H Q I w => h.run pos pins s σ H Q I (q σ H Q w)⟩
theorem PO.of {X : Cx} {e : Option Expr} {t t' : TO} (h : PO X e t) (q : ∀ σ H Q, t' σ H Q → t σ H Q) : PO X e t' := ⟨fun pins s σ H Q I w => h.run pins s σ H Q I (q σ H Q w)⟩
theorem PS.of {X : Cx} {e : Stmt} {t t' : TS} (h : PS X e t) (q : ∀ D σ H, t' D σ H → t D σ H) : PS X e t' := ⟨fun pins s σ H Q I w => h.run pins s σ H Q I (q Q σ H w)⟩
theorem PSs.of {X : Cx} {e : List Stmt} {t t' : TS} (h : PSs X e t) (q : ∀ D σ H, t' D σ H → t D σ H) : PSs X e t' := ⟨fun pins s σ H Q I w => h.run pins s σ H Q I (q Q σ H w)⟩
section
variable {K : PySem.W.Frag} {W : WX} {H : Hp} {mp : List Addr} {ρ : Env} {σ : L2.St} {st : Sto}
/-- a step: m1 first, then the rest from a later state -/
theorem tE_bind {m1 : Env → Sto → R D} {f : D → Sto → R D} {Q : VK} {Q1 : VK} (he : EnvR K H mp ρ σ) (S : StoR K H mp st) (h : RP K (DR K) H mp ((m1 ρ st).bind f) Q fun c d H' => W c d σ H')
    (k : ∀ v H1 a st1 mp1, Ext K H mp H1 mp1 → EnvR K H1 mp1 ρ σ → StoR K H1 mp1 st1 → DR K H1 mp1 a v → RP K (DR K) H1 mp1 (f a st1) Q (fun c d H' => W c d σ H') → Q1 v H1) : tE K W m1 σ H Q1 :=
  ⟨ρ, st, mp, he, S, h.bind.mono fun v H1 ⟨a, st1, mp1, e, s, d, q⟩ => k v H1 a st1 mp1 e (he.ext e) s d q⟩
end
/-- any kind of first step -/
def tG {α β : Type} (K : PySem.W.Frag) (W : WX) (rel : Hp → List Addr → α → β → Prop) (m : Env → Sto → R α) (σ : L2.St) (H : Hp) (Q : β → Hp → Prop) : Prop := ∃ ρ st mp, EnvR K H mp ρ σ ∧ StoR K H mp st ∧ RP K rel H mp (m ρ st) Q fun c d H' => W c d σ H'
theorem tG_bind {α β γ δ : Type} {K : PySem.W.Frag} {W : WX} {H : Hp} {mp : List Addr} {ρ : Env} {σ : L2.St} {st : Sto} {r1 : Hp → List Addr → α → γ → Prop} {r2 : Hp → List Addr → β → δ → Prop}
    {m1 : Env → Sto → R α} {f : α → Sto → R β} {Q : δ → Hp → Prop} {Q1 : γ → Hp → Prop} (he : EnvR K H mp ρ σ) (S : StoR K H mp st) (h : RP K r2 H mp ((m1 ρ st).bind f) Q fun c d H' => W c d σ H')
    (k : ∀ v H1 a st1 mp1, Ext K H mp H1 mp1 → EnvR K H1 mp1 ρ σ → StoR K H1 mp1 st1 → r1 H1 mp1 a v → RP K r2 H1 mp1 (f a st1) Q (fun c d H' => W c d σ H') → Q1 v H1) : tG K W r1 m1 σ H Q1 :=
  ⟨ρ, st, mp, he, S, h.bind.mono fun v H1 ⟨a, st1, mp1, e, s, d, q⟩ => k v H1 a st1 mp1 e (he.ext e) s d q⟩
/-! ### leaves -/
section
variable {X : Cx} {W : WX}
theorem se_leaf {e : Expr} {v : V} {d : D} (h : PE X e (tC v)) (hd : ∀ H mp, DR X.K H mp d v) : PE X e (tE X.K W fun _ st => .ok d st) :=
  PE.of h fun σ H Q ⟨ρ, st, mp, he, S, q⟩ => q.ok S (hd H mp)
theorem se_var {i : Nat} {x : Str} {pos : Pos} (hN : X.N[i]? = some x) (hv : Vis X.env.scope x) (hd : (x == ("__debug__" : Str)) = false) (hcd : (x == ("__classdict__" : Str)) = false) : PE X (.Name x pos) (tE X.K W (varD i)) :=
  PE.of (pe_var hN hv hd hcd) fun σ H Q ⟨ρ, st, mp, he, S, q⟩ => by
    unfold varD at q
    cases e : ρ[i]? with
    | none => rw [e] at q; exact q.elim
    | some o =>
      rw [e] at q
      cases o with
      | none => exact q.elim
      | some d =>
        obtain ⟨v, h1, h2⟩ := he.2 i d e
        exact ⟨v, h1, q.ok S h2⟩
variable {a b : Expr} {ma mb : Env → Sto → R D} {pos : Pos}
/-- two in a row -/
theorem se_two {f : D → D → Sto → R D} {r : R2} {e : Expr} (h : PE X e (tOp r (tE X.K W ma) (tE X.K W mb)))
    (hr : ∀ x y u v H mp st Q E, StoR X.K H mp st → DR X.K H mp x u → DR X.K H mp y v → RP X.K (DR X.K) H mp (f x y st) Q E → r u v H Q) :
    PE X e (tE X.K W fun ρ st => (ma ρ st).bind fun x st1 => (mb ρ st1).bind fun y st2 => f x y st2) :=
  PE.of h fun σ H Q ⟨ρ, st, mp, he, S, q⟩ => tG_bind he S q fun v H1 x st1 mp1 e1 he1 S1 d1 q1 => tG_bind he1 S1 q1 fun u H2 y st2 mp2 e2 he2 S2 d2 q2 => hr x y v u H2 mp2 st2 Q _ S2 (DR.ext e2 x v d1) d2 q2
theorem se_one {f : D → Sto → R D} {r : V → Hp → VK → Prop} {e : Expr} (h : PE X e (tUn r (tE X.K W ma)))
    (hr : ∀ x u H mp st Q E, StoR X.K H mp st → DR X.K H mp x u → RP X.K (DR X.K) H mp (f x st) Q E → r u H Q) : PE X e (tE X.K W fun ρ st => (ma ρ st).bind fun x st1 => f x st1) :=
  PE.of h fun σ H Q ⟨ρ, st, mp, he, S, q⟩ => tG_bind he S q fun v H1 x st1 mp1 e1 he1 S1 d1 q1 => hr x v H1 mp1 st1 Q _ S1 d1 q1
end
/-! ### values -/
section
variable {K : PySem.W.Frag} {H : Hp} {mp : List Addr} {st : Sto} {Q : VK} {E : XK}
theorem dr_int {i : Int} {v : V} (h : DR K H mp (.int i) v) : v = .int i := by unfold DR at h; exact h
theorem dr_bl {i : Bool} {v : V} (h : DR K H mp (.bl i) v) : v = .bl i := by unfold DR at h; exact h
theorem dr_non {v : V} (h : DR K H mp .non v) : v = .non := by unfold DR at h; exact h
theorem dr_str {x : List Nat} {v : V} (h : DR K H mp (.str x) v) : v = .str (strOf x) := by unfold DR at h; exact h
theorem dr_tup {ds : List D} {v : V} (h : DR K H mp (.tup ds) v) : ∃ a vs, v = .ref a ∧ SqT K H a vs ∧ DRs K H mp ds vs := by unfold DR at h; exact h
theorem dr_frz {ds : List D} {v : V} (h : DR K H mp (.frz ds) v) : ∃ a vs, v = .ref a ∧ (SqL K (fun _ => none) a vs ∨ ∃ o, H a = some (.frz o (.lst vs))) ∧ DRs K H mp ds vs := by unfold DR at h; exact h
theorem dr_loc {n : Nat} {v : V} (h : DR K H mp (.loc n) v) : ∃ a, mp[n]? = some a ∧ v = .ref a := by unfold DR at h; exact h
theorem sqL_frz {a : Addr} {vs : List V} (h : SqL K (fun _ => none) a vs ∨ ∃ o, H a = some (.frz o (.lst vs))) : SqL K H a vs := by
  rcases h with (h | h) | ⟨o, h⟩
  · rcases h with h | ⟨o, h⟩ <;> cases h
  · exact .inr h
  · exact .inl (.inr ⟨o, h⟩)
theorem mk_int (i : Int) : DR K H mp (.int i) (.int i) := by unfold DR; rfl
theorem mk_bl (i : Bool) : DR K H mp (.bl i) (.bl i) := by unfold DR; rfl
theorem mk_non : DR K H mp .non .non := by unfold DR; rfl
theorem mk_str (x : List Nat) : DR K H mp (.str x) (.str (strOf x)) := by unfold DR; rfl
theorem mk_tup {ds : List D} {a : Addr} {vs : List V} (h : SqT K H a vs) (k : DRs K H mp ds vs) : DR K H mp (.tup ds) (.ref a) := by unfold DR; exact ⟨a, vs, rfl, h, k⟩
theorem mk_loc {n : Nat} {a : Addr} (h : mp[n]? = some a) : DR K H mp (.loc n) (.ref a) := by unfold DR; exact ⟨a, h, rfl⟩
/-- a list of the store -/
theorem lstAt_of {n : Nat} {ds : List D} {a : Addr} (S : StoR K H mp st) (h : lstAt st n = some ds) (ha : mp[n]? = some a) : ∃ vs, H a = some (.lst vs) ∧ DRs K H mp ds vs := by
  unfold lstAt at h
  cases e : st[n]? with
  | none => rw [e] at h; cases h
  | some o =>
    rw [e] at h
    cases o with
    | lst xs => cases h; exact S.at_ n _ a e ha
    | ins _ _ => cases h
theorem insAt_of {n c : Nat} {fs : List (Nat × D)} {a : Addr} (S : StoR K H mp st) (h : insAt st n c = some fs) (ha : mp[n]? = some a) : ∃ dx vs, H a = some (.ins (cA K c) dx vs) ∧ FRs K H mp fs vs := by
  unfold insAt at h
  cases e : st[n]? with
  | none => rw [e] at h; cases h
  | some o =>
    rw [e] at h
    cases o with
    | lst xs => cases h
    | ins c' xs =>
      dsimp only at h
      by_cases hc : c' = c
      · subst hc
        rw [if_pos rfl] at h
        cases h
        exact S.at_ n _ a e ha
      · rw [if_neg hc] at h; cases h
theorem items_of {x : D} {v : V} {ds : List D} (S : StoR K H mp st) (hx : DR K H mp x v) (h : items st x = some ds) : ∃ a vs, v = .ref a ∧ (SqL K H a vs ∨ SqT K H a vs) ∧ DRs K H mp ds vs := by
  cases x with
  | tup ds' =>
    cases h
    obtain ⟨a, vs, rfl, h1, h2⟩ := dr_tup hx
    exact ⟨a, vs, rfl, .inr h1, h2⟩
  | frz ds' =>
    cases h
    obtain ⟨a, vs, rfl, h1, h2⟩ := dr_frz hx
    exact ⟨a, vs, rfl, .inl (sqL_frz h1), h2⟩
  | loc n =>
    obtain ⟨a, h1, rfl⟩ := dr_loc hx
    obtain ⟨vs, h2, h3⟩ := lstAt_of S (show lstAt st n = some ds from h) h1
    exact ⟨a, vs, rfl, .inl (SqL.of h2), h3⟩
  | _ => cases h
/-- a new tuple -/
theorem RP.tup {ds : List D} {vs : List V} (h : RP K (DR K) H mp (.ok (.tup ds) st) Q E) (S : StoR K H mp st) (hd : DRs K H mp ds vs) : ∀ p, H p = none → Q (.ref p) (upd H p (.tup vs)) := fun p hp =>
  h (.ref p) _ mp (Ext.fresh hp) (S.fresh hp) (mk_tup (SqT.of upd_same) (DRs.ext (Ext.fresh hp) ds vs hd))
/-- a new list -/
theorem RP.lst {ds : List D} {vs : List V} (h : RP K (DR K) H mp (.ok (.loc st.length) (st ++ [.lst ds])) Q E) (S : StoR K H mp st) (hd : DRs K H mp ds vs) : ∀ p, H p = none → Q (.ref p) (upd H p (.lst vs)) := fun p hp => by
  refine h (.ref p) _ (mp ++ [p]) (Ext.push hp) (S.push hp ⟨vs, upd_same, DRs.ext (Ext.push hp) ds vs hd⟩) (mk_loc ?_)
  rw [← S.len]; simp
/-- a list changed -/
theorem RP.wr {n : Nat} {a : Addr} {d : D} {v : V} {ds : List D} {vs : List V} (h : RP K (DR K) H mp (.ok d (st.set n (.lst ds))) Q E) (S : StoR K H mp st) (ha : mp[n]? = some a) (hd : DRs K H mp ds vs) (hv : DR K H mp d v) : Q v (upd H a (.lst vs)) :=
  have e : Ext K H mp (upd H a (.lst vs)) mp := Ext.wr S (List.mem_of_getElem? ha)
  h v _ mp e (S.wr ha ⟨vs, upd_same, DRs.ext e ds vs hd⟩) (DR.ext e d v hv)
theorem RP.if {α β : Type} {rel : Hp → List Addr → α → β → Prop} {p : Prop} {a : α} {Q : β → Hp → Prop} (h : RP K rel H mp (okIf p a st) Q E) : p ∧ RP K rel H mp (.ok a st) Q E := by
  unfold okIf at h
  by_cases hp : p
  · rw [if_pos hp] at h; exact ⟨hp, h⟩
  · rw [if_neg hp] at h; exact h.elim
theorem RP.ifL {p : Prop} {ds : List D} (h : RP K (DR K) H mp (okL p ds st) Q E) : p ∧ RP K (DR K) H mp (.ok (.loc st.length) (st ++ [.lst ds])) Q E := by
  unfold okL at h
  by_cases hp : p
  · rw [if_pos hp] at h; exact ⟨hp, h⟩
  · rw [if_neg hp] at h; exact h.elim
theorem RP.someO {α : Type} {o : Option α} {f : α → D} (h : RP K (DR K) H mp (okO o f st) Q E) : ∃ a, o = some a ∧ RP K (DR K) H mp (.ok (f a) st) Q E := by
  cases o with
  | none => exact h.elim
  | some a => exact ⟨a, rfl, h⟩
end
end M1
namespace M1
open PySem PySem.Spec L2

def rD (K : PySem.W.Frag) (f : D → D → Sto → R D) : R2 := fun u v H Q => ∃ E x y st mp, StoR K H mp st ∧ DR K H mp x u ∧ DR K H mp y v ∧ RP K (DR K) H mp (f x y st) Q E
def rU1 (K : PySem.W.Frag) (f : D → Sto → R D) : V → Hp → VK → Prop := fun u H Q => ∃ E x st mp, StoR K H mp st ∧ DR K H mp x u ∧ RP K (DR K) H mp (f x st) Q E
def bop : Bop → Operator
  | .add => .Add | .sub => .Sub | .mul => .Mult | .fdiv => .FloorDiv | .mod => .Mod | .pow => .Pow
def cop : Cop → CmpOp
  | .lt => .Lt | .le => .LtE | .gt => .Gt | .ge => .GtE | .eq => .Eq | .ne => .NotEq | .isN => .Is | .notN => .IsNot | .isin => .In | .notin => .NotIn
section
variable {X : Cx}
theorem intBits_le (i : Int) : Builtin.Int.intBits i ≤ i.natAbs.log2 + 1 := by
  unfold Builtin.Int.intBits
  split <;> omega
theorem mulFit.ok {i j : Int} (h : mulFit i j) : IntMulOk i j := by
  have h1 := intBits_le i
  have h2 := intBits_le j
  have h3 : i.natAbs.log2 + j.natAbs.log2 < 100000000 := h
  have e : bitsLine = 134217728 := by decide
  unfold IntMulOk
  intro z
  rw [Bool.and_eq_true] at z
  have z2 := z.2
  unfold Builtin.Int.intTooBig at z2
  have z3 := of_decide_eq_true z2
  rw [e] at z3
  omega
theorem op_mulX : OpR X (binaryOp .Mult) (rI mulFit fun i j => .int (i * j)) := opI fun _ _ _ _ _ _ _ hc q => PyProof.Rows.mul_int q hc.ok
theorem op_fdivX : OpR X (binaryOp .FloorDiv) (rI (fun _ j => divFit j) fun i j => .int (i.fdiv j)) := opI fun i j _ _ _ _ _ hc q => PyProof.Rows.floordiv_int hc.1 q (.inl (PyProof.noPylong_of_log2 hc.2))
theorem powFit.ok {i j : Int} (h : powFit i j) : 0 ≤ j ∧ (Builtin.Int.intBits i : Int) * j ≤ 2 ^ 27 := by
  refine ⟨h.1, Int.le_trans (Int.mul_le_mul_of_nonneg_right ?_ h.1) h.2⟩
  have := intBits_le i
  omega
theorem op_powX : OpR X (binaryOp .Pow) (rI powFit fun i j => .int (i ^ j.toNat)) := opI fun i j _ _ _ _ _ hc q => PyProof.Rows.pow_int hc.ok.1 hc.ok.2 q
theorem iop_mulX : OpR X (inplaceOp .Mult) (rI mulFit fun i j => .int (i * j)) := opI fun _ _ _ _ _ _ _ hc q => PyProof.Rows.imul_int q hc.ok
theorem strOf_app (a b : List Nat) : strOf (a ++ b) = strOf a ++ strOf b := by
  show (⟨(a ++ b).toArray⟩ : Str) = ⟨a.toArray ++ b.toArray⟩
  simp
theorem strOf_len (a : List Nat) : (strOf a).length = a.length := by
  show a.toArray.size = a.length
  simp
/-- one of two -/
theorem op_binD (o : Bop) : OpR X (binaryOp (bop o)) (rD X.K (binD o)) := by
  intro pins s σ H u v uu vv Q I ru rv h
  obtain ⟨E, x, y, st, mp, S, hx, hy, q⟩ := h
  cases o with
  | add =>
    cases x with
    | int i =>
      cases y with
      | int j =>
        cases dr_int hx; cases dr_int hy
        exact op_add pins s σ H _ _ uu vv Q I ru rv ⟨i, j, rfl, rfl, q.ok S (mk_int _)⟩
      | _ => exact q.elim
    | str a =>
      cases y with
      | str b =>
        cases dr_str hx; cases dr_str hy
        obtain ⟨h1, q⟩ := RP.if q
        exact op_add_str pins s σ H _ _ uu vv Q I ru rv ⟨_, _, rfl, rfl, by rw [strOf_len, strOf_len]; exact h1, by rw [← strOf_app]; exact q.ok S (mk_str _)⟩
      | _ => exact q.elim
    | tup a =>
      cases y with
      | tup b =>
        obtain ⟨pa, va, rfl, ha, da⟩ := dr_tup hx
        obtain ⟨pb, vb, rfl, hb, db⟩ := dr_tup hy
        obtain ⟨h1, q⟩ := RP.if q
        refine op_catA pins s σ H _ _ uu vv Q I ru rv ⟨pa, pb, va, vb, rfl, rfl, ha, hb, by rw [← da.length, ← db.length]; exact h1, fun e => ?_, fun _ e => ?_, fun _ _ => q.tup S (da.append db)⟩
        · subst e
          have := da.length
          have e2 : a = [] := List.length_eq_zero_iff.mp (by simpa using this)
          subst e2
          exact q.ok S (mk_tup hb db)
        · subst e
          have := db.length
          have e2 : b = [] := List.length_eq_zero_iff.mp (by simpa using this)
          subst e2
          rw [List.append_nil] at q
          exact q.ok S (mk_tup ha da)
      | _ => exact q.elim
    | loc m =>
      cases y with
      | loc n =>
        obtain ⟨pa, ha, rfl⟩ := dr_loc hx
        obtain ⟨pb, hb, rfl⟩ := dr_loc hy
        unfold binD at q
        dsimp only at q
        cases ea : lstAt st m with
        | none => rw [ea] at q; exact q.elim
        | some a =>
          cases eb : lstAt st n with
          | none => rw [ea, eb] at q; exact q.elim
          | some b =>
            rw [ea, eb] at q
            obtain ⟨h1, q⟩ := RP.ifL q
            obtain ⟨va, h2, da⟩ := lstAt_of S ea ha
            obtain ⟨vb, h3, db⟩ := lstAt_of S eb hb
            exact op_cat pins s σ H _ _ uu vv Q I ru rv ⟨pa, pb, va, vb, rfl, rfl, h2, h3, by rw [← da.length, ← db.length]; exact h1, q.lst S (da.append db)⟩
      | _ => exact q.elim
    | _ => exact q.elim
  | sub =>
    cases x with
    | int i =>
      cases y with
      | int j =>
        cases dr_int hx; cases dr_int hy
        exact op_sub pins s σ H _ _ uu vv Q I ru rv ⟨i, j, rfl, rfl, q.ok S (mk_int _)⟩
      | _ => exact q.elim
    | _ => exact q.elim
  | mul =>
    cases x with
    | int i =>
      cases y with
      | int j =>
        cases dr_int hx; cases dr_int hy
        obtain ⟨h1, q⟩ := RP.if q
        exact op_mulX pins s σ H _ _ uu vv Q I ru rv ⟨i, j, rfl, rfl, h1, q.ok S (mk_int _)⟩
      | _ => exact q.elim
    | loc m =>
      cases y with
      | int k =>
        obtain ⟨pa, ha, rfl⟩ := dr_loc hx
        cases dr_int hy
        unfold binD at q
        dsimp only at q
        cases ea : lstAt st m with
        | none => rw [ea] at q; exact q.elim
        | some a =>
          rw [ea] at q
          obtain ⟨⟨h1, h2, h3⟩, q⟩ := RP.ifL q
          obtain ⟨va, h4, da⟩ := lstAt_of S ea ha
          refine op_rep pins s σ H _ _ uu vv Q I ru rv ⟨pa, k, va, rfl, rfl, h4, h1, h2, by rw [← da.length]; exact h3, q.lst S ?_⟩
          generalize k.toNat = n
          induction n with
          | zero => exact .nil
          | succ n ih => rw [List.replicate_succ, List.replicate_succ, List.flatten_cons, List.flatten_cons]; exact da.append ih
      | _ => exact q.elim
    | _ => exact q.elim
  | fdiv =>
    cases x with
    | int i =>
      cases y with
      | int j =>
        cases dr_int hx; cases dr_int hy
        obtain ⟨h1, q⟩ := RP.if q
        exact op_fdivX pins s σ H _ _ uu vv Q I ru rv ⟨i, j, rfl, rfl, h1, q.ok S (mk_int _)⟩
      | _ => exact q.elim
    | _ => exact q.elim
  | mod =>
    cases x with
    | int i =>
      cases y with
      | int j =>
        cases dr_int hx; cases dr_int hy
        obtain ⟨h1, q⟩ := RP.if q
        exact op_modN pins s σ H _ _ uu vv Q I ru rv ⟨i, j, rfl, rfl, h1, q.ok S (mk_int _)⟩
      | _ => exact q.elim
    | _ => exact q.elim
  | pow =>
    cases x with
    | int i =>
      cases y with
      | int j =>
        cases dr_int hx; cases dr_int hy
        obtain ⟨h1, q⟩ := RP.if q
        exact op_powX pins s σ H _ _ uu vv Q I ru rv ⟨i, j, rfl, rfl, h1, q.ok S (mk_int _)⟩
      | _ => exact q.elim
    | _ => exact q.elim
/-- += of ints and texts -/
theorem iop_addD {x y : D} {u v : V} {uu vv : Value} {pins : List (Addr × Obj)} {s : Shared} {σ : L2.St} {H : Hp} {Q : VK} {E : XK} {st : Sto} {mp : List Addr} (I : Inv X pins σ H s) (ru : RelV u uu) (rv : RelV v vv)
    (S : StoR X.K H mp st) (hx : DR X.K H mp x u) (hy : DR X.K H mp y v) (hf : (∃ i j, x = .int i ∧ y = .int j)) (q : RP X.K (DR X.K) H mp (binD .add x y st) Q E) :
    wpAny (model X.prog X.w) X.A (inplaceOp .Add uu vv) (EP X pins σ Q) X.xe s := by
  obtain ⟨i, j, rfl, rfl⟩ := hf
  cases dr_int hx; cases dr_int hy
  exact iop_add pins s σ H _ _ uu vv Q I ru rv ⟨i, j, rfl, rfl, q.ok S (mk_int _)⟩
/-! ### comparisons -/
mutual
theorem dp_of {H : Hp} {mp : List Addr} : ∀ (d : D) (p : PyData) (v : V), pyd0 d = some p → DR X.K H mp d v → Dp X.K H v p
  | .non, p, v, e, h => by cases e; cases dr_non h; exact .non
  | .bl b, p, v, e, h => by cases e; cases dr_bl h; exact .bl b
  | .int i, p, v, e, h => by cases e; cases dr_int h; exact .int i
  | .str i, p, v, e, h => by cases e; cases dr_str h; exact .str _
  | .tup ds, p, v, e, h => by
    unfold pyd0 at e
    cases e2 : pyds0 ds with
    | none => rw [e2] at e; cases e
    | some ps =>
      rw [e2] at e
      cases e
      obtain ⟨a, vs, rfl, h1, h2⟩ := dr_tup h
      exact .tup h1 (dps_of ds ps vs e2 h2)
  | .frz ds, p, v, e, h => by
    unfold pyd0 at e
    cases e2 : pyds0 ds with
    | none => rw [e2] at e; cases e
    | some ps =>
      rw [e2] at e
      cases e
      obtain ⟨a, vs, rfl, h1, h2⟩ := dr_frz h
      exact .lst (sqL_frz h1) (dps_of ds ps vs e2 h2)
  | .loc n, p, v, e, h => by cases e
theorem dps_of {H : Hp} {mp : List Addr} : ∀ (ds : List D) (ps : List PyData) (vs : List V), pyds0 ds = some ps → DRs X.K H mp ds vs → DpAll X.K H vs ps
  | [], ps, vs, e, h => by cases e; unfold DRs at h; subst h; exact .nil
  | d :: ds, ps, vs, e, h => by
    unfold pyds0 at e
    cases e1 : pyd0 d with
    | none => rw [e1] at e; cases e
    | some p =>
      cases e2 : pyds0 ds with
      | none => rw [e1, e2] at e; cases e
      | some r =>
        rw [e1, e2] at e
        cases e
        unfold DRs at h
        obtain ⟨v, w, rfl, h1, h2⟩ := h
        exact .cons (dp_of d p v e1 h1) (dps_of ds r w e2 h2)
end
theorem dp_st {H : Hp} {mp : List Addr} {st : Sto} (S : StoR X.K H mp st) {d : D} {p : PyData} {v : V} (e : pyd st d = some p) (h : DR X.K H mp d v) : Dp X.K H v p := by
  cases d with
  | loc n =>
    have e' : (match lstAt st n with | some ds => (pyds0 ds).map PyData.list | _ => none) = some p := e
    cases e1 : lstAt st n with
    | none => rw [e1] at e'; cases e'
    | some ds =>
      rw [e1] at e'
      dsimp only at e'
      cases e2 : pyds0 ds with
      | none => rw [e2] at e'; cases e'
      | some ps =>
        rw [e2] at e'
        cases e'
        obtain ⟨a, ha, rfl⟩ := dr_loc h
        obtain ⟨vs, h1, h2⟩ := lstAt_of S e1 ha
        exact .lst (SqL.of h1) (dps_of ds ps vs e2 h2)
  | _ => exact dp_of _ p v e h
theorem eqD_of {H : Hp} {mp : List Addr} {st : Sto} (S : StoR X.K H mp st) {x y : D} {u v : V} {b : Bool} (hx : DR X.K H mp x u) (hy : DR X.K H mp y v) (e : eqD st x y = some b) :
    ∃ d e, Dp X.K H u d ∧ Dp X.K H v e ∧ SeqAt.shaped d = true ∧ SeqAt.shaped e = true ∧ b = PyData.eqv d e := by
  unfold eqD at e
  cases e1 : pyd st x with
  | none => rw [e1] at e; cases e
  | some p =>
    cases e2 : pyd st y with
    | none => rw [e1, e2] at e; cases e
    | some r =>
      rw [e1, e2] at e
      dsimp only at e
      by_cases hs : SeqAt.shaped p = true ∧ SeqAt.shaped r = true
      · rw [if_pos hs] at e
        cases e
        exact ⟨p, r, dp_st S e1 hx, dp_st S e2 hy, hs.1, hs.2, rfl⟩
      · rw [if_neg hs] at e; cases e
theorem flat_of {H : Hp} {mp : List Addr} {d : D} {v : V} (h : DR X.K H mp d v) (f : flatD d = true) : flatV v = true := by
  cases d with
  | non => cases dr_non h; rfl
  | bl b => cases dr_bl h; rfl
  | int b => cases dr_int h; rfl
  | str b => cases dr_str h; rfl
  | _ => cases f
theorem strOf_inj {a b : List Nat} (h : strOf a = strOf b) : a = b := by
  have := congrArg (fun z : Str => z.cps.toList) h
  simpa [strOf] using this
theorem strOf_beq (a b : List Nat) : (strOf a == strOf b) = (a == b) := by
  by_cases h : a = b
  · subst h; simp
  · have h2 : strOf a ≠ strOf b := fun z => h (strOf_inj z)
    rw [beq_eq_false_iff_ne.mpr h, beq_eq_false_iff_ne.mpr h2]
theorem eqF_of {H : Hp} {mp : List Addr} {x y : D} {u v : V} (hx : DR X.K H mp x u) (hy : DR X.K H mp y v) : eqV u v = eqF x y ∨ flatD x = false ∨ flatD y = false := by
  cases x with
  | non => cases dr_non hx; cases y with
    | non => cases dr_non hy; exact .inl rfl
    | bl b => cases dr_bl hy; exact .inl rfl
    | int b => cases dr_int hy; exact .inl rfl
    | str b => cases dr_str hy; exact .inl rfl
    | _ => exact .inr (.inr rfl)
  | bl a => cases dr_bl hx; cases y with
    | non => cases dr_non hy; exact .inl rfl
    | bl b => cases dr_bl hy; exact .inl rfl
    | int b => cases dr_int hy; exact .inl rfl
    | str b => cases dr_str hy; exact .inl rfl
    | _ => exact .inr (.inr rfl)
  | int a => cases dr_int hx; cases y with
    | non => cases dr_non hy; exact .inl rfl
    | bl b => cases dr_bl hy; exact .inl rfl
    | int b => cases dr_int hy; exact .inl rfl
    | str b => cases dr_str hy; exact .inl rfl
    | _ => exact .inr (.inr rfl)
  | str a => cases dr_str hx; cases y with
    | non => cases dr_non hy; exact .inl rfl
    | bl b => cases dr_bl hy; exact .inl rfl
    | int b => cases dr_int hy; exact .inl rfl
    | str b => cases dr_str hy; exact .inl (strOf_beq a b)
    | _ => exact .inr (.inr rfl)
  | _ => exact .inr (.inl rfl)
theorem inD_of {H : Hp} {mp : List Addr} {x : D} {u : V} (hx : DR X.K H mp x u) (fx : flatD x = true) : ∀ {ds : List D} {vs : List V}, DRs X.K H mp ds vs → ds.all flatD = true → vs.all flatV = true ∧ inV u vs = inD x ds
  | [], _, h, _ => by unfold DRs at h; subst h; exact ⟨rfl, rfl⟩
  | d :: ds, _, h, f => by
    unfold DRs at h
    obtain ⟨v, r, rfl, h1, h2⟩ := h
    rw [List.all_cons, Bool.and_eq_true] at f
    obtain ⟨a, b⟩ := inD_of hx fx h2 f.2
    refine ⟨by rw [List.all_cons, flat_of h1 f.1, a]; rfl, ?_⟩
    unfold inV inD at b ⊢
    rw [List.any_cons, List.any_cons, b]
    rcases eqF_of h1 hx with e | e | e
    · rw [e]
    · rw [f.1] at e; cases e
    · rw [fx] at e; cases e
theorem isinD_of {H : Hp} {mp : List Addr} {st : Sto} (S : StoR X.K H mp st) {x y : D} {u v : V} {b : Bool} (hx : DR X.K H mp x u) (hy : DR X.K H mp y v) (e : isinD st x y = some b) :
    ∃ p xs, v = .ref p ∧ (SqL X.K H p xs ∨ SqT X.K H p xs) ∧ flatV u = true ∧ xs.all flatV = true ∧ b = inV u xs := by
  unfold isinD at e
  cases e1 : items st y with
  | none => rw [e1] at e; cases e
  | some ds =>
    rw [e1] at e
    dsimp only at e
    by_cases hs : flatD x = true ∧ ds.all flatD = true
    · rw [if_pos hs] at e
      cases e
      obtain ⟨a, vs, rfl, h1, h2⟩ := items_of S hy e1
      obtain ⟨h3, h4⟩ := inD_of hx hs.1 h2 hs.2
      exact ⟨a, vs, rfl, h1, flat_of hx hs.1, h3, h4.symm⟩
    · rw [if_neg hs] at e; cases e
theorem op_cmpD (hu : X.A.units + 64 < cLine) (o : Cop) : OpR X (compareOp (cop o)) (rD X.K (cmpD o)) := by
  intro pins s σ H u v uu vv Q I ru rv h
  obtain ⟨E, x, y, st, mp, S, hx, hy, q⟩ := h
  cases o with
  | lt =>
    cases x with
    | int i => cases y with
      | int j => cases dr_int hx; cases dr_int hy; exact op_lt pins s σ H _ _ uu vv Q I ru rv ⟨i, j, rfl, rfl, q.ok S (mk_bl _)⟩
      | _ => exact q.elim
    | _ => exact q.elim
  | le =>
    cases x with
    | int i => cases y with
      | int j => cases dr_int hx; cases dr_int hy; exact op_le pins s σ H _ _ uu vv Q I ru rv ⟨i, j, rfl, rfl, q.ok S (mk_bl _)⟩
      | _ => exact q.elim
    | _ => exact q.elim
  | gt =>
    cases x with
    | int i => cases y with
      | int j => cases dr_int hx; cases dr_int hy; exact op_gt pins s σ H _ _ uu vv Q I ru rv ⟨i, j, rfl, rfl, q.ok S (mk_bl _)⟩
      | _ => exact q.elim
    | _ => exact q.elim
  | ge =>
    cases x with
    | int i => cases y with
      | int j => cases dr_int hx; cases dr_int hy; exact op_ge pins s σ H _ _ uu vv Q I ru rv ⟨i, j, rfl, rfl, q.ok S (mk_bl _)⟩
      | _ => exact q.elim
    | _ => exact q.elim
  | eq =>
    obtain ⟨b, e, q⟩ := RP.someO (show RP X.K (DR X.K) H mp (okO (eqD st x y) D.bl st) Q E from q)
    obtain ⟨d, g, h1, h2, h3, h4, rfl⟩ := eqD_of S hx hy e
    exact op_eqD hu pins s σ H _ _ uu vv Q I ru rv ⟨d, g, h1, h2, h3, h4, q.ok S (mk_bl _)⟩
  | ne =>
    obtain ⟨b, e, q⟩ := RP.someO (show RP X.K (DR X.K) H mp (okO (eqD st x y) (fun b => D.bl !b) st) Q E from q)
    obtain ⟨d, g, h1, h2, h3, h4, rfl⟩ := eqD_of S hx hy e
    exact op_neD hu pins s σ H _ _ uu vv Q I ru rv ⟨d, g, h1, h2, h3, h4, q.ok S (mk_bl _)⟩
  | isN =>
    cases y with
    | non =>
      cases dr_non hy
      refine op_isN pins s σ H _ _ uu vv Q I ru rv ⟨rfl, ?_⟩
      have e : decide (u = V.non) = isNonD x := by
        cases x with
        | non => cases dr_non hx; rfl
        | bl _ => cases dr_bl hx; rfl
        | int _ => cases dr_int hx; rfl
        | str _ => cases dr_str hx; rfl
        | tup _ => obtain ⟨_, _, rfl, _⟩ := dr_tup hx; rfl
        | frz _ => obtain ⟨_, _, rfl, _⟩ := dr_frz hx; rfl
        | loc _ => obtain ⟨_, _, rfl⟩ := dr_loc hx; rfl
      rw [e]
      exact q.ok S (mk_bl _)
    | _ => exact q.elim
  | notN =>
    cases y with
    | non =>
      cases dr_non hy
      refine op_notN pins s σ H _ _ uu vv Q I ru rv ⟨rfl, ?_⟩
      have e : (!decide (u = V.non)) = !(isNonD x) := by
        cases x with
        | non => cases dr_non hx; rfl
        | bl _ => cases dr_bl hx; rfl
        | int _ => cases dr_int hx; rfl
        | str _ => cases dr_str hx; rfl
        | tup _ => obtain ⟨_, _, rfl, _⟩ := dr_tup hx; rfl
        | frz _ => obtain ⟨_, _, rfl, _⟩ := dr_frz hx; rfl
        | loc _ => obtain ⟨_, _, rfl⟩ := dr_loc hx; rfl
      rw [e]
      exact q.ok S (mk_bl _)
    | _ => exact q.elim
  | isin =>
    obtain ⟨b, e, q⟩ := RP.someO (show RP X.K (DR X.K) H mp (okO (isinD st x y) D.bl st) Q E from q)
    obtain ⟨p, xs, rfl, h1, h2, h3, rfl⟩ := isinD_of S hx hy e
    exact op_in_seq pins s σ H _ _ uu vv Q I ru rv ⟨p, xs, rfl, h1, h2, h3, q.ok S (mk_bl _)⟩
  | notin =>
    obtain ⟨b, e, q⟩ := RP.someO (show RP X.K (DR X.K) H mp (okO (isinD st x y) (fun b => D.bl !b) st) Q E from q)
    obtain ⟨p, xs, rfl, h1, h2, h3, rfl⟩ := isinD_of S hx hy e
    exact op_notIn_seq pins s σ H _ _ uu vv Q I ru rv ⟨p, xs, rfl, h1, h2, h3, q.ok S (mk_bl _)⟩
theorem un_negD : UnR X (unaryOp .USub) (rU1 X.K negD) := by
  intro pins s σ H u uu Q I ru h
  obtain ⟨E, x, st, mp, S, hx, q⟩ := h
  cases x with
  | int i => cases dr_int hx; exact un_neg pins s σ H _ uu Q I ru ⟨i, rfl, q.ok S (mk_int _)⟩
  | _ => exact q.elim
/-- truth -/
theorem truD_of {H : Hp} {mp : List Addr} {st : Sto} (S : StoR X.K H mp st) {x : D} {u : V} {b : Bool} (hx : DR X.K H mp x u) (e : truD st x = some b) : TruV X.K u H b := by
  cases x with
  | non => cases e; cases dr_non hx; rfl
  | bl _ => cases e; cases dr_bl hx; rfl
  | int _ => cases e; cases dr_int hx; rfl
  | str z =>
    cases dr_str hx
    have e' : (if z.length ≤ sizeLine then some !z.isEmpty else none) = some b := e
    by_cases hz : z.length ≤ sizeLine
    · rw [if_pos hz] at e'
      cases e'
      refine ⟨by rw [strOf_len]; exact hz, ?_⟩
      rw [strOf_len]
      cases z <;> simp <;> omega
    · rw [if_neg hz] at e'; cases e'
  | tup ds =>
    cases e
    obtain ⟨a, vs, rfl, h1, h2⟩ := dr_tup hx
    refine .inr (.inl ⟨vs, h1, ?_⟩)
    have := h2.length
    cases ds <;> cases vs <;> simp_all
  | frz ds =>
    cases e
    obtain ⟨a, vs, rfl, h1, h2⟩ := dr_frz hx
    refine .inl ⟨vs, sqL_frz h1, ?_⟩
    have := h2.length
    cases ds <;> cases vs <;> simp_all
  | loc n =>
    have e' : (lstAt st n).map (fun ds => !ds.isEmpty) = some b := e
    cases e1 : lstAt st n with
    | none => rw [e1] at e'; cases e'
    | some ds =>
      rw [e1] at e'
      cases e'
      obtain ⟨a, ha, rfl⟩ := dr_loc hx
      obtain ⟨vs, h1, h2⟩ := lstAt_of S e1 ha
      refine .inl ⟨vs, SqL.of h1, ?_⟩
      have := h2.length
      cases ds <;> cases vs <;> simp_all
end
end M1
namespace M1
open PySem PySem.Spec L2
section
variable {X : Cx}
theorem ixN_lt {n : Nat} {i : Int} {j : Nat} (h : ixN n i = some j) : j < n := (ixN_seq h).2.1
theorem atI_map {α β : Type} {P : α → β → Prop} {xs : List α} {ys : List β} {i : Int} {x : α} (hl : xs.length = ys.length) (h : atI xs i = some x) (k : ∀ j : Nat, xs[j]? = some x → ∃ y, ys[j]? = some y ∧ P x y) : ∃ y, atI ys i = some y ∧ P x y := by
  unfold atI at h ⊢
  rw [hl] at h
  cases e : ixN ys.length i with
  | none => rw [e] at h; cases h
  | some j => rw [e] at h; exact k j h
theorem ix_subD : IxR X (rD X.K subD) := by
  intro value slice pins s σ H u v uu vv Q I ru rv h hs
  obtain ⟨E, x, y, st, mp, S, hx, hy, q⟩ := h
  cases y with
  | int k =>
    cases dr_int hy
    unfold subD at q
    dsimp only at q
    cases e : items st x with
    | some ds =>
      rw [e] at q
      obtain ⟨d, e2, q⟩ := RP.someO q
      obtain ⟨a, vs, rfl, h1, h2⟩ := items_of S hx e
      obtain ⟨w, h3, h4⟩ := atI_map (P := fun d w => DR X.K H mp d w) h2.length e2 fun j hj => h2.at_ hj
      rcases h1 with h1 | h1
      · exact ix_list value slice pins s σ H _ _ uu vv Q I ru rv ⟨a, vs, k, w, rfl, rfl, h1, h3, q.ok S h4⟩ hs
      · exact ix_tup value slice pins s σ H _ _ uu vv Q I ru rv ⟨a, vs, k, w, rfl, rfl, h1, h3, q.ok S h4⟩ hs
    | none =>
      rw [e] at q
      cases x with
      | str z =>
        cases dr_str hx
        dsimp only at q
        by_cases hz : z.length ≤ sizeLine
        · rw [if_pos hz] at q
          obtain ⟨c, e2, q⟩ := RP.someO q
          refine ix_str value slice pins s σ H _ _ uu vv Q I ru rv ⟨strOf z, k, c, rfl, rfl, by rw [strOf_len]; exact hz, ?_, q.ok S (mk_str [c])⟩ hs
          show atI (strOf z).cps.toList k = some c
          simpa [strOf] using e2
        · rw [if_neg hz] at q; exact q.elim
      | _ => exact q.elim
  | _ => exact q.elim
def rCut (K : PySem.W.Frag) : V → Option Int → Option Int → Hp → VK → Prop := fun u lo hi H Q => ∃ E x st mp, StoR K H mp st ∧ DR K H mp x u ∧ RP K (DR K) H mp (cutD x lo hi st) Q E
theorem drs_cut {H : Hp} {mp : List Addr} {ds : List D} {vs : List V} (h : DRs X.K H mp ds vs) (lo hi : Option Int) : DRs X.K H mp (cutL ds lo hi) (cutV vs lo hi) := by
  unfold cutL cutV
  rw [h.length]
  exact (h.drop _).take _
theorem sl_cutD : SlR X (rCut X.K) := by
  intro pins s σ H u v vl vu lo hi sl Q I ru hs pl pu h
  obtain ⟨E, x, st, mp, S, hx, q⟩ := h
  cases x with
  | tup ds =>
    obtain ⟨a, vs, rfl, h1, h2⟩ := dr_tup hx
    refine sl_tupA pins s σ H _ v vl vu lo hi sl Q I ru hs pl pu ⟨a, vs, rfl, h1, fun ⟨e1, e2⟩ => ?_, fun _ => RP.tup q S (drs_cut h2 lo hi)⟩
    refine RP.ok q S (mk_tup h1 ?_)
    have e3 : cutL ds lo hi = ds := by
      unfold cutL
      rw [h2.length, e1, e2, ← h2.length]
      simp
    rw [e3]; exact h2
  | frz ds =>
    obtain ⟨a, vs, rfl, h1, h2⟩ := dr_frz hx
    exact sl_list pins s σ H _ v vl vu lo hi sl Q I ru hs pl pu ⟨a, vs, rfl, sqL_frz h1, RP.lst q S (drs_cut h2 lo hi)⟩
  | loc n =>
    obtain ⟨a, ha, rfl⟩ := dr_loc hx
    unfold cutD at q
    dsimp only at q
    cases e : lstAt st n with
    | none => rw [e] at q; exact q.elim
    | some ds =>
      rw [e] at q
      obtain ⟨vs, h1, h2⟩ := lstAt_of S e ha
      exact sl_list pins s σ H _ v vl vu lo hi sl Q I ru hs pl pu ⟨a, vs, rfl, SqL.of h1, RP.lst q S (drs_cut h2 lo hi)⟩
  | str z =>
    cases dr_str hx
    obtain ⟨hz, q⟩ := RP.if q
    refine sl_str pins s σ H _ v vl vu lo hi sl Q I ru hs pl pu ⟨strOf z, rfl, by rw [strOf_len]; exact hz, ?_⟩
    have e : cutS (strOf z) lo hi = strOf (cutL z lo hi) := by
      unfold cutS cutL strOf
      simp [Str.length]
    rw [e]
    exact q.ok S (mk_str _)
  | _ => exact q.elim
/-! ### o[i] = v -/
theorem set_subD {u v w : V} {uu vv ww : Value} {x y z : D} {pins : List (Addr × Obj)} {s : Shared} {σ : L2.St} {H : Hp} {mp : List Addr} {st : Sto} {E : XK} {Q : Hp → Prop} (I : Inv X pins σ H s) (ru : RelV u uu) (rv : RelV v vv) (rw' : RelV w ww)
    (S : StoR X.K H mp st) (hx : DR X.K H mp x u) (hy : DR X.K H mp y v) (hz : DR X.K H mp z w) (q : RP X.K (fun _ _ _ (_ : Unit) => True) H mp (setSubD x y z st) (fun _ H' => Q H') E) :
    wpAny (model X.prog X.w) X.A (setItem uu vv ww) (fun _ s' => ∃ H', Inv X pins σ H' s' ∧ Q H') X.xe s := by
  cases x with
  | loc n =>
    cases y with
    | int k =>
      cases dr_int hy
      obtain ⟨a, ha, rfl⟩ := dr_loc hx
      unfold setSubD at q
      dsimp only at q
      cases e : lstAt st n with
      | none => rw [e] at q; exact q.elim
      | some ds =>
        rw [e] at q
        dsimp only at q
        cases e2 : ixN ds.length k with
        | none => rw [e2] at q; exact q.elim
        | some j =>
          rw [e2] at q
          obtain ⟨vs, h1, h2⟩ := lstAt_of S e ha
          refine set_list pins s σ H _ _ _ uu vv ww Q I ru rv rw' ⟨a, vs, k, j, rfl, rfl, h1, by rw [← h2.length]; exact e2, ?_⟩
          have ex : Ext X.K H mp (upd H a (.lst (vs.set j w))) mp := Ext.wr S (List.mem_of_getElem? ha)
          exact q () _ mp ex (S.wr ha ⟨_, upd_same, DRs.ext ex _ _ (h2.set j hz)⟩) trivial
    | _ => exact q.elim
  | _ => exact q.elim
/-! ### fields -/
theorem rp_fld {c f : Nat} {x : D} {u : V} {H : Hp} {mp : List Addr} {st : Sto} {E : XK} {Q : VK} (hf : f < nms.length) (S : StoR X.K H mp st) (hx : DR X.K H mp x u) (q : RP X.K (DR X.K) H mp (fldD x c f st) Q E) :
    ∃ a dx fs v, u = .ref a ∧ H a = some (.ins (cA X.K c) dx fs) ∧ fs.lookup (nm f) = some v ∧ Q v H := by
  cases x with
  | loc n =>
    obtain ⟨a, ha, rfl⟩ := dr_loc hx
    unfold fldD at q
    dsimp only at q
    cases e : insAt st n c with
    | none => rw [e] at q; exact q.elim
    | some fs =>
      rw [e] at q
      obtain ⟨d, e2, q⟩ := RP.someO q
      obtain ⟨dx, vs, h1, h2⟩ := insAt_of S e ha
      obtain ⟨v, h3, h4⟩ := FRs.look hf h2 e2
      exact ⟨a, dx, vs, v, rfl, h1, h3, q.ok S h4⟩
  | _ => exact q.elim
theorem rp_setFld {c f : Nat} {x y : D} {u v : V} {H : Hp} {mp : List Addr} {st : Sto} {E : XK} {Q : Hp → Prop} (hf : f < nms.length) (S : StoR X.K H mp st) (hx : DR X.K H mp x u) (hy : DR X.K H mp y v)
    (q : RP X.K (fun _ _ _ (_ : Unit) => True) H mp (setFldD x c f y st) (fun _ H' => Q H') E) :
    ∃ a dx fs, u = .ref a ∧ H a = some (.ins (cA X.K c) dx fs) ∧ fs.length < 1000 ∧ Q (upd H a (.ins (cA X.K c) dx (putF (nm f) v fs))) := by
  cases x with
  | loc n =>
    obtain ⟨a, ha, rfl⟩ := dr_loc hx
    unfold setFldD at q
    dsimp only at q
    cases e : insAt st n c with
    | none => rw [e] at q; exact q.elim
    | some fs =>
      rw [e] at q
      dsimp only at q
      by_cases hl : fs.length < 1000
      · rw [if_pos hl] at q
        obtain ⟨dx, vs, h1, h2⟩ := insAt_of S e ha
        refine ⟨a, dx, vs, rfl, h1, by rw [← h2.length]; exact hl, ?_⟩
        have ex : Ext X.K H mp (upd H a (.ins (cA X.K c) dx (putF (nm f) v vs))) mp := Ext.wr S (List.mem_of_getElem? ha)
        exact q () _ mp ex (S.wr ha ⟨dx, _, upd_same, FRs.ext ex _ _ (h2.put hf hy)⟩) trivial
      · rw [if_neg hl] at q; exact q.elim
  | _ => exact q.elim
/-! ### built-in functions -/
def rBi (K : PySem.W.Frag) (f : List D → Sto → R D) : List V → Hp → VK → Prop := fun us H Q => ∃ E xs st mp, StoR K H mp st ∧ DRs K H mp xs us ∧ RP K (DR K) H mp (f xs st) Q E
theorem drs_ints {H : Hp} {mp : List Addr} : ∀ {ds : List D} {vs : List V} {l : List Int}, DRs X.K H mp ds vs → intsOf ds = some l → vs = l.map V.int
  | [], _, l, h, e => by cases e; unfold DRs at h; exact h
  | .int i :: ds, _, l, h, e => by
    unfold DRs at h
    obtain ⟨v, r, rfl, h1, h2⟩ := h
    cases dr_int h1
    unfold intsOf at e
    cases e2 : intsOf ds with
    | none => rw [e2] at e; cases e
    | some l' => rw [e2] at e; cases e; rw [drs_ints h2 e2]; rfl
  | .non :: ds, _, l, h, e => by cases e
  | .bl _ :: ds, _, l, h, e => by cases e
  | .str _ :: ds, _, l, h, e => by cases e
  | .tup _ :: ds, _, l, h, e => by cases e
  | .frz _ :: ds, _, l, h, e => by cases e
  | .loc _ :: ds, _, l, h, e => by cases e
theorem drs_bls {H : Hp} {mp : List Addr} : ∀ {ds : List D} {vs : List V} {l : List Bool}, DRs X.K H mp ds vs → blsOf ds = some l → vs = l.map V.bl
  | [], _, l, h, e => by cases e; unfold DRs at h; exact h
  | .bl i :: ds, _, l, h, e => by
    unfold DRs at h
    obtain ⟨v, r, rfl, h1, h2⟩ := h
    cases dr_bl h1
    unfold blsOf at e
    cases e2 : blsOf ds with
    | none => rw [e2] at e; cases e
    | some l' => rw [e2] at e; cases e; rw [drs_bls h2 e2]; rfl
  | .non :: ds, _, l, h, e => by cases e
  | .int _ :: ds, _, l, h, e => by cases e
  | .str _ :: ds, _, l, h, e => by cases e
  | .tup _ :: ds, _, l, h, e => by cases e
  | .frz _ :: ds, _, l, h, e => by cases e
  | .loc _ :: ds, _, l, h, e => by cases e
theorem drs1 {H : Hp} {mp : List Addr} {x : D} {us : List V} (h : DRs X.K H mp [x] us) : ∃ u, us = [u] ∧ DR X.K H mp x u := by
  unfold DRs at h
  obtain ⟨v, r, rfl, h1, h2⟩ := h
  unfold DRs at h2
  subst h2
  exact ⟨v, rfl, h1⟩
theorem drs2 {H : Hp} {mp : List Addr} {x y : D} {us : List V} (h : DRs X.K H mp [x, y] us) : ∃ u v, us = [u, v] ∧ DR X.K H mp x u ∧ DR X.K H mp y v := by
  unfold DRs at h
  obtain ⟨v, r, rfl, h1, h2⟩ := h
  obtain ⟨w, rfl, h3⟩ := drs1 h2
  exact ⟨v, w, rfl, h1, h3⟩
def biV : Bi → Value
  | .len => .builtin "len" | .abs => .builtin "abs" | .int => .type "int" | .tuple => .type "tuple" | .list => .type "list" | .sum => .builtin "sum" | .all => .builtin "all" | .any => .builtin "any" | .max2 => .builtin "max" | .min2 => .builtin "min"
def biN : Bi → Str
  | .len => "len" | .abs => "abs" | .int => "int" | .tuple => "tuple" | .list => "list" | .sum => "sum" | .all => "all" | .any => "any" | .max2 => "max" | .min2 => "min"
/-- of a list that stands at an address -/
theorem call_biL (hc : X.calm = true) (b : Bi) {pins : List (Addr × Obj)} {s : Shared} {σ : L2.St} {H : Hp} {uu : Value} {a : Addr} {vs : List V} {ds : List D} {st : Sto} {mp : List Addr} {E : XK} {Q : VK} (I : Inv X pins σ H s) (ru : RelV (.ref a) uu)
    (hl : SqL X.K H a vs) (S : StoR X.K H mp st) (hd : DRs X.K H mp ds vs) (q : RP X.K (DR X.K) H mp (biL b ds st) Q E) : wpAny (model X.prog X.w) X.A (call (biV b) [uu]) (EP X pins σ Q) X.xe s := by
  have rs : Vals [V.ref a] [uu] := .cons ru .nil
  cases b with
  | tuple => exact call_tuple_of pins s σ H _ _ Q I rs ⟨a, vs, rfl, .inl ⟨hl, q.tup S hd⟩⟩
  | list => exact call_list_of pins s σ H _ _ Q I rs ⟨a, vs, rfl, .inl hl, q.lst S hd⟩
  | sum =>
    obtain ⟨l, e, q⟩ := RP.someO q
    rw [drs_ints hd e] at hl
    exact cr_sum hc pins s σ H _ _ Q I rs ⟨a, l, rfl, hl, q.ok S (mk_int _)⟩
  | all =>
    obtain ⟨l, e, q⟩ := RP.someO q
    rw [drs_bls hd e] at hl
    exact cr_all hc pins s σ H _ _ Q I rs ⟨a, l, rfl, hl, q.ok S (mk_bl _)⟩
  | any =>
    obtain ⟨l, e, q⟩ := RP.someO q
    rw [drs_bls hd e] at hl
    exact cr_any hc pins s σ H _ _ Q I rs ⟨a, l, rfl, hl, q.ok S (mk_bl _)⟩
  | len => exact call_len_seq pins s σ H _ _ Q I rs ⟨a, vs, rfl, .inl hl, by rw [← hd.length]; exact q.ok S (mk_int _)⟩
  | _ => exact q.elim
theorem call_biD (hc : X.calm = true) (b : Bi) : CallR X (biV b) (rBi X.K (biD b)) := by
  intro pins s σ H us uus Q I rs h
  obtain ⟨E, xs, st, mp, S, hd, q⟩ := h
  unfold biD at q
  split at q
  · rename_i x
    obtain ⟨u, rfl, hx⟩ := drs1 hd
    cases x with
    | str z =>
      cases dr_str hx
      cases b with
      | len =>
        obtain ⟨h1, q⟩ := RP.if (show RP X.K (DR X.K) H mp (okIf (z.length ≤ sizeLine) (.int z.length) st) Q E from q)
        exact call_len_str pins s σ H _ _ Q I rs ⟨strOf z, rfl, by rw [strOf_len]; exact h1, by rw [strOf_len]; exact q.ok S (mk_int _)⟩
      | _ => exact q.elim
    | int i =>
      cases dr_int hx
      cases b with
      | abs => exact call_abs pins s σ H _ _ Q I rs ⟨i, rfl, RP.ok q S (mk_int _)⟩
      | int => exact call_int1 pins s σ H _ _ Q I rs (.inl ⟨i, rfl, RP.ok q S (mk_int _)⟩)
      | _ => exact q.elim
    | bl k =>
      cases dr_bl hx
      cases b with
      | int => exact call_int1 pins s σ H _ _ Q I rs (.inr ⟨k, rfl, RP.ok q S (mk_int _)⟩)
      | _ => exact q.elim
    | tup ds =>
      obtain ⟨a, vs, rfl, h1, h2⟩ := dr_tup hx
      cases b with
      | tuple => exact call_tuple_of pins s σ H _ _ Q I rs ⟨a, vs, rfl, .inr ⟨h1, RP.ok q S hx⟩⟩
      | list => exact call_list_of pins s σ H _ _ Q I rs ⟨a, vs, rfl, .inr h1, RP.lst q S h2⟩
      | len => exact call_len_seq pins s σ H _ _ Q I rs ⟨a, vs, rfl, .inr h1, by rw [← h2.length]; exact RP.ok q S (mk_int _)⟩
      | _ => exact q.elim
    | frz ds =>
      obtain ⟨a, vs, rfl, h1, h2⟩ := dr_frz hx
      obtain ⟨uu, rfl, ru⟩ := vals1 rs
      exact call_biL hc b I ru (sqL_frz h1) S h2 q
    | loc n =>
      obtain ⟨a, ha, rfl⟩ := dr_loc hx
      obtain ⟨uu, rfl, ru⟩ := vals1 rs
      have q' : RP X.K (DR X.K) H mp (match items st (.loc n) with | some ds => biL b ds st | none => .stuck) Q E := q
      cases e : items st (.loc n) with
      | none => rw [e] at q'; exact q'.elim
      | some ds =>
        rw [e] at q'
        obtain ⟨vs, h1, h2⟩ := lstAt_of S (show lstAt st n = some ds from e) ha
        exact call_biL hc b I ru (SqL.of h1) S h2 q'
    | non => exact q.elim
  · rename_i x y
    obtain ⟨u, v, rfl, hx, hy⟩ := drs2 hd
    cases x with
    | int i =>
      cases y with
      | int j =>
        cases dr_int hx; cases dr_int hy
        cases b with
        | max2 => exact call_max2 hc pins s σ H _ _ Q I rs ⟨i, j, rfl, RP.ok q S (mk_int _)⟩
        | min2 => exact call_min2 hc pins s σ H _ _ Q I rs ⟨i, j, rfl, RP.ok q S (mk_int _)⟩
        | _ => exact q.elim
      | _ => exact q.elim
    | _ => exact q.elim
  · exact q.elim
/-! ### isinstance -/
def tyN : Ty → String
  | .int => "int" | .str => "str" | .bool => "bool" | .tuple => "tuple" | .list => "list"
theorem sqT_ty {H : Hp} {a : Addr} {vs : List V} (h : SqT X.K H a vs) : TyX X.K H (.ref a) (.type "tuple") := by
  rcases h with (h | ⟨o, h⟩) | ⟨o, its, n, h, c, _⟩
  · exact .base (.tup h)
  · exact .fTuple h
  · exact .kTuple h c
theorem sqL_ty {H : Hp} {a : Addr} {vs : List V} (h : SqL X.K H a vs) : TyX X.K H (.ref a) (.type "list") := by
  rcases h with (h | ⟨o, h⟩) | ⟨o, its, n, h, c, _⟩
  · exact .base (.lst h)
  · exact .base (.frz h)
  · exact .kList h c
theorem kit_all : ∀ t : Ty, PySem.W.kitOne X.K (.type "NoneType") (.type (tyN t)) = some false ∧ PySem.W.kitOne X.K (.type "bool") (.type (tyN t)) = some (decide (t = .int ∨ t = .bool)) ∧ PySem.W.kitOne X.K (.type "int") (.type (tyN t)) = some (decide (t = .int)) ∧
    PySem.W.kitOne X.K (.type "str") (.type (tyN t)) = some (decide (t = .str)) ∧ PySem.W.kitOne X.K (.type "tuple") (.type (tyN t)) = some (decide (t = .tuple)) ∧ PySem.W.kitOne X.K (.type "list") (.type (tyN t)) = some (decide (t = .list)) := by
  intro t
  cases t <;> exact ⟨kit_ty (by decide +kernel), kit_ty (by decide +kernel), kit_ty (by decide +kernel), kit_ty (by decide +kernel), kit_ty (by decide +kernel), kit_ty (by decide +kernel)⟩
theorem isiD_of {H : Hp} {mp : List Addr} {x : D} {u : V} {t : Ty} {b : Bool} (hx : DR X.K H mp x u) (e : isiD x t = some b) : ∃ ty, TyX X.K H u ty ∧ PySem.W.kitOne X.K ty (.type (tyN t)) = some b := by
  obtain ⟨k1, k2, k3, k4, k5, k6⟩ := kit_all (X := X) t
  cases x with
  | non => cases dr_non hx; exact ⟨_, .base .non, by rw [k1]; cases t <;> cases e <;> rfl⟩
  | bl i => cases dr_bl hx; exact ⟨_, .base (.bl i), by rw [k2]; cases t <;> cases e <;> rfl⟩
  | int i => cases dr_int hx; exact ⟨_, .base (.int i), by rw [k3]; cases t <;> cases e <;> rfl⟩
  | str i => cases dr_str hx; exact ⟨_, .base (.str _), by rw [k4]; cases t <;> cases e <;> rfl⟩
  | tup ds => obtain ⟨a, vs, rfl, h1, h2⟩ := dr_tup hx; exact ⟨_, sqT_ty h1, by rw [k5]; cases t <;> cases e <;> rfl⟩
  | frz ds => obtain ⟨a, vs, rfl, h1, h2⟩ := dr_frz hx; exact ⟨_, sqL_ty (sqL_frz h1), by rw [k6]; cases t <;> cases e <;> rfl⟩
  | loc n => cases t <;> cases e
/-! ### methods of lists -/
def bmId : Bm → String
  | .append => "list.append" | .pop => "list.pop" | .popAt => "list.pop" | .insert => "list.insert" | .extend => "list.extend"
def bmN : Bm → Str
  | .append => "append" | .pop => "pop" | .popAt => "pop" | .insert => "insert" | .extend => "extend"
def rBm (K : PySem.W.Frag) (b : Bm) : V → List V → Hp → VK → Prop := fun u us H Q => ∃ E x xs st mp, StoR K H mp st ∧ DR K H mp x u ∧ DRs K H mp xs us ∧ RP K (DR K) H mp (bmD b x xs st) Q E
theorem drs0 {H : Hp} {mp : List Addr} {us : List V} (h : DRs X.K H mp [] us) : us = [] := by unfold DRs at h; exact h
theorem dr_get {H : Hp} {mp : List Addr} {ds : List D} {vs : List V} {k : Nat} {y : D} (h : DRs X.K H mp ds vs) (e : ds[k]? = some y) : ∃ v, vs[k]? = some v ∧ DR X.K H mp y v := h.at_ e
theorem mt_bmD (b : Bm) : MtR X (bmId b) (rBm X.K b) := by
  intro pins s σ H u us uu uus Q I ru rs h
  obtain ⟨E, x, xs, st, mp, S, hx, hd, q⟩ := h
  cases x with
  | loc n =>
    obtain ⟨a, ha, rfl⟩ := dr_loc hx
    unfold bmD at q
    dsimp only at q
    cases e : lstAt st n with
    | none => rw [e] at q; exact q.elim
    | some ds =>
      rw [e] at q
      dsimp only at q
      obtain ⟨vs, h1, h2⟩ := lstAt_of S e ha
      cases b with
      | append =>
        unfold bmL at q
        dsimp only at q
        split at q
        · rename_i y
          obtain ⟨v, rfl, hy⟩ := drs1 hd
          split at q
          · rename_i hl
            exact mt_append pins s σ H _ _ uu uus Q I ru rs ⟨a, vs, v, rfl, rfl, h1, by rw [← h2.length]; exact hl, q.wr S ha (h2.append (.cons hy .nil)) mk_non⟩
          · exact q.elim
        · exact q.elim
      | pop =>
        unfold bmL at q
        dsimp only at q
        split at q
        · cases drs0 hd
          split at q
          · rename_i y hy
            obtain ⟨v, h3, h4⟩ := dr_get h2 hy
            exact mt_pop pins s σ H _ _ uu uus Q I ru rs ⟨a, vs, v, rfl, rfl, h1, by rw [← h2.length]; exact h3, q.wr S ha h2.dropLast h4⟩
          · exact q.elim
        · exact q.elim
      | popAt =>
        unfold bmL at q
        dsimp only at q
        split at q
        · rename_i i
          obtain ⟨v, rfl, hi⟩ := drs1 hd
          cases dr_int hi
          split at q
          · rename_i hb
            split at q
            · rename_i k hk
              split at q
              · rename_i y hy
                obtain ⟨w, h3, h4⟩ := dr_get h2 hy
                exact mt_popAt pins s σ H _ _ uu uus Q I ru rs ⟨a, vs, i, k, w, rfl, rfl, h1, hb.1, hb.2, by rw [← h2.length]; exact (ixN_seq hk).1, h3, q.wr S ha (h2.eraseIdx k) h4⟩
              · exact q.elim
            · exact q.elim
          · exact q.elim
        · exact q.elim
      | insert =>
        unfold bmL at q
        dsimp only at q
        split at q
        · rename_i i y
          obtain ⟨v, w, rfl, hi, hy⟩ := drs2 hd
          cases dr_int hi
          split at q
          · rename_i hb
            exact mt_insert pins s σ H _ _ uu uus Q I ru rs ⟨a, vs, i, w, rfl, rfl, h1, by rw [← h2.length]; exact hb.1, hb.2.1, hb.2.2, q.wr S ha (((h2.take _).append (.cons hy .nil)).append (h2.drop _)) mk_non⟩
          · exact q.elim
        · exact q.elim
      | extend =>
        unfold bmL at q
        dsimp only at q
        split at q
        · rename_i m
          obtain ⟨v, rfl, hm⟩ := drs1 hd
          obtain ⟨a2, ha2, rfl⟩ := dr_loc hm
          split at q
          · rename_i es he
            obtain ⟨ws, h3, h4⟩ := lstAt_of S he ha2
            split at q
            · rename_i hl
              exact mt_extend pins s σ H _ _ uu uus Q I ru rs ⟨a, a2, vs, ws, rfl, rfl, h1, h3, by rw [← h2.length, ← h4.length]; exact hl, q.wr S ha (h2.append h4) mk_non⟩
            · exact q.elim
          · exact q.elim
        · exact q.elim
  | _ => exact q.elim
end
end M1
/-! what is walked, over lists and tuples alike -/
namespace M1
open PySem PySem.Spec L2 PyProof.Rows
/-- a sequence: a list (true) or a tuple -/
def Sq (K : PySem.W.Frag) (k : Bool) (H : Hp) (a : Addr) (xs : List V) : Prop := match k with
  | true => SqL K H a xs
  | false => SqT K H a xs
def ItK (k : Bool) (h : Heap) (it a : Addr) (i : Nat) : Prop := match k with
  | true => h.IsListIter it a i
  | false => h.IsTupleIter it a i
def ObK (k : Bool) (h : Heap) (a : Addr) (its : Array Value) : Prop := match k with
  | true => h.IsList a its
  | false => h.IsTuple a its
def itO (k : Bool) (a : Addr) : Obj := match k with
  | true => { cls := .type "list_iterator", data := .fields #[.ref a, .int 0 0] }
  | false => { cls := .type "tuple_iterator", data := .fields #[.ref a, .int 0 0] }
theorem begins_k (k : Bool) (a : Addr) (its : Array Value) : Begins (.ref a) (itO k a) fun h => ObK k h a its := by
  cases k
  · exact begins_tuple a its
  · exact begins_list a its
theorem draws_k {P : Program} {w : World} {A : Around} (hh : A.handled = none) (k : Bool) (it a : Addr) (hne : a ≠ it) (its : Array Value) : Draws P w A it [it, a] its.size (fun i v => its[i]? = some v) fun i h => ItK k h it a i ∧ ObK k h a its := by
  cases k
  · exact Draws.tuple hh it a hne its
  · exact Draws.list hh it a hne its
theorem ItK.new {k : Bool} {h : Heap} {it a : Addr} (e : h.get? it = some (itO k a)) : ItK k h it a 0 := by
  cases k
  · exact ⟨_, e, rfl, rfl⟩
  · exact ⟨_, e, rfl, rfl⟩
theorem ItK.at {k : Bool} {h h' : Heap} {it a : Addr} {i : Nat} (x : ItK k h it a i) (e : ∀ o, h.get? it = some o → h'.get? it = some o) : ItK k h' it a i := by
  cases k
  · exact Heap.IsTupleIter.at x e
  · exact Heap.IsListIter.at x e
theorem ItK.obj {k : Bool} {h : Heap} {it a : Addr} {i : Nat} (x : ItK k h it a i) : ∃ o, h.get? it = some o ∧ ∀ v, o.data ≠ .cell v := by
  cases k
  · obtain ⟨o, ho, _, hd⟩ := x; exact ⟨o, ho, fun v q => by rw [hd] at q; cases q⟩
  · obtain ⟨o, ho, _, hd⟩ := x; exact ⟨o, ho, fun v q => by rw [hd] at q; cases q⟩
theorem ObK.lt {k : Bool} {h : Heap} {a : Addr} {its : Array Value} (x : ObK k h a its) : a < h.objs.size := by
  cases k
  · obtain ⟨o, ho, _⟩ := x; exact Heap.lt_size ho
  · obtain ⟨o, ho, _⟩ := x; exact Heap.lt_size ho
section
variable {X : Cx} {pins : List (Addr × Obj)} {σ : L2.St} {H : Hp} {s : Shared} {a : Addr} {xs ys : List V} {k : Bool}
theorem sq_ob (I : Inv X pins σ H s) (h : Sq X.K k H a xs) : ∃ its : List Value, Vals xs its ∧ ObK k s.heap a its.toArray ∧ xs.length ≤ sizeLine := by
  cases k
  · obtain ⟨its, r, p, z⟩ := I.tuple h; exact ⟨its, r, p, z⟩
  · obtain ⟨its, r, p, z⟩ := I.list h; exact ⟨its, r, p.isList, z⟩
theorem sq_inj (I : Inv X pins σ H s) (h : Sq X.K k H a xs) (h' : Sq X.K k H a ys) : xs = ys := by
  cases k
  · exact I.tuple_inj h h'
  · exact I.list_inj h h'
end
/-! ### enumerate -/
def IteK (K : PySem.W.Frag) (k : Bool) (a : Addr) : It :=
  ⟨fun i H => ∃ (xs : List V) (x : V), Sq K k H a xs ∧ xs[i]? = some x, fun i H v H' => ∃ T x, v = .ref T ∧ H T = none ∧ H' = upd H T (.tup [.int (i : Nat), x]) ∧ ∀ xs, Sq K k H a xs → xs[i]? = some x, fun i H => ∃ xs : List V, Sq K k H a xs ∧ xs.length = i⟩
theorem turn_enumK {P : Program} {w : World} {K : PySem.W.Frag} {elts : List Expr} {kk : Nat} {tpos : Pos} {k : Bool} {a e it : Addr} (hea : e ≠ a) (hne : e ≠ it) (hita : a ≠ it) :
    Turn P w K (.Tuple elts kk tpos) (IteK K k a) [e, it] e (fun i h => (∃ old, IsEnum h e it ((i : Nat) : Int) old) ∧ ItK k h it a i) where
  mem := by simp
  obj := fun i h st b hb => by
    obtain ⟨⟨old, he⟩, hi⟩ := st
    have e' : b = e ∨ b = it := by simpa using hb
    rcases e' with z | z
    · rw [z]; exact ⟨_, he, fun v q => nomatch q⟩
    · rw [z]; exact hi.obj
  keep := fun i h h' st kp => let ⟨⟨old, he⟩, hi⟩ := st; ⟨⟨old, kp e (by simp) _ he⟩, hi.at fun o q => kp it (by simp) o q⟩
  item := by
    intro X hP hw hK hc i pins s σ H E I hf st hg
    subst hP hw hK
    obtain ⟨⟨old, he⟩, hit⟩ := st
    obtain ⟨xs, x, hq, hx⟩ := hg
    obtain ⟨its, rv, p, hz⟩ := sq_ob I hq
    obtain ⟨u, hu, ru⟩ := rv.get hx
    have hel : e < s.heap.objs.size := Heap.lt_size he
    have hil : it < s.heap.objs.size := by obtain ⟨o, q, _⟩ := hit.obj; exact Heap.lt_size q
    have hlt : i < its.toArray.size := by simp; exact (List.getElem?_eq_some_iff.mp hu).1
    have D := draws_k (P := X.prog) (w := X.w) (A := X.A.in1) (by exact I.ok.hd hc) k it a hita its.toArray
    refine wpAny_pyNext_enum_itemD D he ⟨hit, p⟩ hlt hne (by simp [hne, hea]) fun v h' tk hv ho st' hT hsz hk => ?_
    have hvu : v = u := by
      have : its[i]? = some v := by simpa using hv
      rw [hu] at this; exact (Option.some.inj this).symm
    subst hvu
    refine ⟨_, rfl, wpAny_letOwnedTupleGo_enum (s := { s with heap := h', toks := tk + 1 }) ho fun h'' he' sb => ?_⟩
    have hT2 : h''.get? s.heap.objs.size = some { cls := .type "tuple", data := .seq #[.int i tk, v] } := (sb.2 _ (Nat.ne_of_gt hel)).trans hT
    have new : ObjOk X.prog X.w (upd H s.heap.objs.size (.tup [.int (i : Nat), x])) h'' s.heap.objs.size (.tup [.int (i : Nat), x]) :=
      ⟨by show 2 ≤ sizeLine; decide, [.int i tk, v], .cons ⟨_, rfl⟩ (.cons ru .nil), ⟨_, hT2, rfl, _, rfl⟩⟩
    have I1 : Inv X pins σ (upd H s.heap.objs.size (.tup [.int (i : Nat), x])) { s with heap := h'', toks := tk + 1 } :=
      I.turnedNew (ch := [e, it]) (fun b ob hb q => (sb.2 b (fun z => hb (by simp [z]))).trans (hk b ob (fun z => hb (by simp [z])) (fun z => hb (by simp [z])) q)) hf (Nat.le_refl _) new
    refine ⟨.ref s.heap.objs.size, _, I1, rfl, ⟨_, x, rfl, I.hok.fresh (Nat.le_refl _), rfl, fun ys hy => by rw [sq_inj I hy hq]; exact hx⟩, ⟨⟨v, ?_⟩, st'.1.at fun o q => (sb.2 it (Ne.symm hne)).trans q⟩, fun b hb => ?_⟩
    · have e1 : ((i + 1 : Nat) : Int) = (i : Int) + 1 := by omega
      rw [e1]; exact he'
    · have hb' : b < s.heap.objs.size := by
        have e' : b = e ∨ b = it := by simpa using hb
        rcases e' with z | z
        · rw [z]; exact hel
        · rw [z]; exact hil
      rw [upd_ne (Nat.ne_of_lt hb')]
      exact (hf b hb).1
  done := by
    intro X hP hw hK hc i pins s σ H E I hf st hg
    subst hP hw hK
    obtain ⟨⟨old, he⟩, hit⟩ := st
    obtain ⟨xs, hq, hx⟩ := hg
    obtain ⟨its, rv, p, hz⟩ := sq_ob I hq
    obtain ⟨f0, f1, f2, f3, f4, f5⟩ := hf it (by simp)
    have hl := rv.length
    have D := draws_k (P := X.prog) (w := X.w) (A := X.A.in1) (by exact I.ok.hd hc) k it a hita its.toArray
    have hn : its.toArray.size = i := by simp; omega
    exact wpAny_pyNext_enum_endD D he (by rw [hn]; exact ⟨hit, p⟩) fun h' eb => ⟨rfl, I.turned (t' := s.toks) (fun b o hb q => eb b o hb q) f0 f1 f3 f4 f5⟩
  self := fun A i s Q E st h => let ⟨⟨_, he⟩, _⟩ := st; wpAny_pyIter_enum he h
set_option maxHeartbeats 1000000 in
theorem meets_enumerate_new1 {v : Value} {o : Obj} {H : Heap → Prop} (B : Begins v o H) :
    Meets (Builtin.«enumerate.__new__» ⟨[.type "enumerate", v], []⟩) (fun _ R s => H s.heap ∧
      R (.ok (.ret (.ref (s.heap.push o).objs.size))) { s with heap := (s.heap.push o).push { cls := .type "enumerate", data := .fields #[.none, .bool false, .ref s.heap.objs.size, rawInt 0, .none, .none] } }) :=
  .of_wp fun prog w A R s h => by
    obtain ⟨hp, g, d, tk, os⟩ := s; obtain ⟨h1, h⟩ := h
    have hsub := sub_enumerate
    have q1 : ∀ {A' : Around} {E : Value → Shared → Prop} {Q : Value → Shared → Prop}, Q (.ref hp.objs.size) ⟨hp.push o, g, d, tk, os⟩ → wpAny (model prog w) A' (pyIter v) Q E ⟨hp, g, d, tk, os⟩ :=
      fun q => B.iter prog w _ _ ⟨hp, g, d, tk, os⟩ _ h1 q
    wp_walk using q1
    refine wpAny_stack_any fun st => wpAny_pure ?_
    split
    · rename_i c _ _ _ _ _
      cases (c == Value.type "enumerate")
      · wp_walk using q1
        exact ⟨_, rfl, h⟩
      · wp_walk using q1
        exact ⟨_, rfl, h⟩
    · wp_walk using q1
      exact ⟨_, rfl, h⟩
theorem enum_begins1 {prog : Program} {w : World} {A : Around} {E : Value → Shared → Prop} {s : Shared} {v : Value} {o : Obj} {H : Heap → Prop} {Q : Value → Shared → Prop} (B : Begins v o H) (h1 : H s.heap)
    (h : ∀ h', IsEnum h' (s.heap.objs.size + 1) s.heap.objs.size 0 .none → h'.get? s.heap.objs.size = some o → h'.objs.size = s.heap.objs.size + 2 →
      (∀ b o, s.heap.get? b = some o → h'.get? b = some o) → Q (.ref (s.heap.objs.size + 1)) { s with heap := h' }) :
    wpAny (model prog w) A (call (.type "enumerate") [v]) Q E s := by
  refine callType_new F.called_enumerate (by decide) (F.typeCall_enumerate_1 _) (F.newCall_enumerate_1 _) (fun obj => F.args_object_init_2 obj _) F.entry_enumerate_new
    (meets_enumerate_new1 B) ⟨h1, ?_⟩
  have hz : (s.heap.push o).objs.size = s.heap.objs.size + 1 := Heap.size_push ..
  show _ ∧ _
  rw [hz]
  have he : IsEnum ((s.heap.push o).push { cls := .type "enumerate", data := .fields #[.none, .bool false, .ref s.heap.objs.size, rawInt 0, .none, .none] }) (s.heap.objs.size + 1) s.heap.objs.size 0 .none := by
    have := Heap.get?_push_size (s.heap.push o) (o := { cls := .type "enumerate", data := .fields #[.none, .bool false, .ref s.heap.objs.size, rawInt 0, .none, .none] }) rfl
    rw [hz] at this; exact this
  refine ⟨⟨_, he, rfl⟩, h _ he (Heap.get?_push_of_some _ (Heap.get?_push_size _ B.free)) (by rw [Heap.size_push, hz]) fun b o x => Heap.get?_push_of_some _ (Heap.get?_push_of_some _ x)⟩
def iEnumK (K : PySem.W.Frag) (ta : TA) : TI := fun σ H R => ta σ H fun vs H1 => ∃ k a xs, vs = [.ref a] ∧ Sq K k H1 a xs ∧ R (IteK K k a) H1
theorem pi_enumK {X : Cx} {e : Expr} {ta : TA} {p pos tpos : Pos} {elts : List Expr} {kk : Nat} (hg : Gl X "enumerate") (hm : X.mg "enumerate" = none) (ha : PA X [e] ta) (hs : starEach [e] X.env = [(false, eval e X.env)] := by rfl) :
    PI X (.Tuple elts kk tpos) (.Call (.Name "enumerate" p) [e] [] pos) (iEnumK X.K ta) := by
  refine ⟨fun pins s σ H R I h => ?_⟩
  refine Call_ (ld_blt I hg hm boot_enumerate (PyProof.Rows.callWith_type1 (thn (ha.run pos pins s σ H _ I h) fun us s1 ⟨vs, H1, I1, r1, q1⟩ => ?_) hs rfl))
  obtain ⟨k, a, xs, ex, hq, q⟩ := q1
  subst ex
  cases r1 with
  | cons r rr =>
    cases rr
    cases r
    obtain ⟨its, rv, p', hz⟩ := sq_ob I1 hq
    refine enum_begins1 (begins_k k a its.toArray) p' fun h' he hit hsz hk => wpAny_pyIter_enum he ?_
    have I2 : Inv X pins σ H1 { s1 with heap := h' } := I1.kept (t' := s1.toks) hk
    have hal := p'.lt
    refine ⟨s1.heap.objs.size + 1, [s1.heap.objs.size + 1, s1.heap.objs.size], _, _, H1, rfl, I2, turn_enumK (k := k) (a := a) (Nat.ne_of_gt (Nat.lt_succ_of_lt hal)) (Nat.succ_ne_self _) (Nat.ne_of_lt hal), ⟨⟨.none, he⟩, ItK.new hit⟩, fun b hb => ?_, q⟩
    have e' : b = s1.heap.objs.size + 1 ∨ b = s1.heap.objs.size := by simpa using hb
    have hle : s1.heap.objs.size ≤ b := by
      rcases e' with z | z
      · rw [z]; exact Nat.le_add_right _ _
      · rw [z]; exact Nat.le_refl _
    exact I1.fpOk hle (I1.hok.fresh hle)
/-! ### zip of two -/
def ItzK (K : PySem.W.Frag) (k l : Bool) (a b : Addr) : It :=
  ⟨fun i H => ∃ (xs ys : List V) (x y : V), Sq K k H a xs ∧ Sq K l H b ys ∧ xs[i]? = some x ∧ ys[i]? = some y,
    fun i H v H' => ∃ T x y, v = .ref T ∧ H T = none ∧ H' = upd H T (.tup [x, y]) ∧ (∀ xs, Sq K k H a xs → xs[i]? = some x) ∧ ∀ ys, Sq K l H b ys → ys[i]? = some y,
    fun i H => ∃ xs ys : List V, Sq K k H a xs ∧ Sq K l H b ys ∧ i ≤ xs.length ∧ i ≤ ys.length ∧ (i = xs.length ∨ i = ys.length)⟩
theorem turn_zipK {P : Program} {w : World} {K : PySem.W.Frag} {elts : List Expr} {kk : Nat} {tpos : Pos} {k l : Bool} {a b z TI TO i1 i2 : Addr} (S : ZipSep2 z TI TO i1 i2 [i1, a] [i2, b]) (ha : a ≠ i1) (hb : b ≠ i2) :
    Turn P w K (.Tuple elts kk tpos) (ItzK K k l a b) [z, TI, TO, i1, i2] z (fun i h => IsZip h z TI TO .none ∧ IsTupOf2 h TI (.ref i1) (.ref i2) ∧ (∃ x y, IsTupOf2 h TO x y) ∧ ItK k h i1 a i ∧ ItK l h i2 b i) where
  mem := by simp
  obj := fun i h st c hc => by
    obtain ⟨hz, hTI, ⟨x, y, hTO⟩, h1, h2⟩ := st
    have e' : c = z ∨ c = TI ∨ c = TO ∨ c = i1 ∨ c = i2 := by simpa using hc
    rcases e' with q | q | q | q | q
    · rw [q]; exact ⟨_, hz, fun v q => nomatch q⟩
    · rw [q]; exact ⟨_, hTI, fun v q => nomatch q⟩
    · rw [q]; exact ⟨_, hTO, fun v q => nomatch q⟩
    · rw [q]; exact h1.obj
    · rw [q]; exact h2.obj
  keep := fun i h h' st kp => by
    obtain ⟨hz, hTI, ⟨x, y, hTO⟩, h1, h2⟩ := st
    exact ⟨kp z (by simp) _ hz, kp TI (by simp) _ hTI, ⟨x, y, kp TO (by simp) _ hTO⟩, h1.at fun o q => kp i1 (by simp) o q, h2.at fun o q => kp i2 (by simp) o q⟩
  item := by
    intro X hP hw hK hc i pins s σ H E I hf st hg
    subst hP hw hK
    obtain ⟨hz, hTI, ⟨x0, y0, hTO⟩, h1, h2⟩ := st
    obtain ⟨xs, ys, x, y, hqx, hqy, hx, hy⟩ := hg
    obtain ⟨its, rv, p, _⟩ := sq_ob I hqx
    obtain ⟨its2, rv2, p2, _⟩ := sq_ob I hqy
    obtain ⟨u, hu, ru⟩ := rv.get hx
    obtain ⟨u2, hu2, ru2⟩ := rv2.get hy
    have hzl : z < s.heap.objs.size := Heap.lt_size hz
    have D1 := draws_k (P := X.prog) (w := X.w) (A := X.A.in1) (by exact I.ok.hd hc) k i1 a ha its.toArray
    have D2 := draws_k (P := X.prog) (w := X.w) (A := X.A.in1) (by exact I.ok.hd hc) l i2 b hb its2.toArray
    refine wpAny_pyNext_zipD2_item S D1 D2 hz hTI hTO ⟨h1, p⟩ ⟨h2, p2⟩ (by simp; exact (List.getElem?_eq_some_iff.mp hu).1) (by simp; exact (List.getElem?_eq_some_iff.mp hu2).1) fun v v2 h' tk hv hv2 z' TO' st1 st2 hT hsz hk => ?_
    have e1 : v = u := by
      have : its[i]? = some v := by simpa using hv
      rw [hu] at this; exact (Option.some.inj this).symm
    have e2 : v2 = u2 := by
      have : its2[i]? = some v2 := by simpa using hv2
      rw [hu2] at this; exact (Option.some.inj this).symm
    subst e1 e2
    refine ⟨_, rfl, wpAny_letOwnedTupleGo_zip (s := { s with heap := h', toks := tk }) z' fun h'' z'' sb => ?_⟩
    have hT2 : h''.get? s.heap.objs.size = some { cls := .type "tuple", data := .seq #[v, v2] } := (sb.2 _ (Nat.ne_of_gt hzl)).trans hT
    have new : ObjOk X.prog X.w (upd H s.heap.objs.size (.tup [x, y])) h'' s.heap.objs.size (.tup [x, y]) :=
      ⟨by show 2 ≤ sizeLine; decide, [v, v2], .cons ru (.cons ru2 .nil), ⟨_, hT2, rfl, _, rfl⟩⟩
    have I1 : Inv X pins σ (upd H s.heap.objs.size (.tup [x, y])) { s with heap := h'', toks := tk } :=
      I.turnedNew (t' := tk) (ch := [z, TI, TO, i1, i2]) (fun c o hb q => (sb.2 c (fun q' => hb (by simp [q']))).trans (hk c o (fun q' => hb (by simp [q'])) (fun q' => hb (by simp [q'])) (fun q' => hb (by simp [q'])) (fun q' => hb (by simp [q'])) q)) hf (Nat.le_refl _) new
    have zi1 : i1 ≠ z := fun e => S.zf1 (by simp [e])
    have zi2 : i2 ≠ z := fun e => S.zf2 (by simp [e])
    refine ⟨.ref s.heap.objs.size, _, I1, rfl, ⟨_, x, y, rfl, I.hok.fresh (Nat.le_refl _), rfl, fun l hl => by rw [sq_inj I hl hqx]; exact hx, fun l hl => by rw [sq_inj I hl hqy]; exact hy⟩, ⟨z'', ?_, ⟨v, v2, ?_⟩, ?_, ?_⟩, fun c hcm => ?_⟩
    · exact (sb.2 _ S.TIz).trans (hk _ _ S.TIz S.TITO S.TIi1 S.TIi2 hTI)
    · exact (sb.2 _ S.TOz).trans TO'
    · exact st1.1.at fun o q => (sb.2 _ zi1).trans q
    · exact st2.1.at fun o q => (sb.2 _ zi2).trans q
    · have hlt : c < s.heap.objs.size := by
        have e' : c = z ∨ c = TI ∨ c = TO ∨ c = i1 ∨ c = i2 := by simpa using hcm
        rcases e' with q | q | q | q | q
        · rw [q]; exact hzl
        · rw [q]; exact Heap.lt_size hTI
        · rw [q]; exact Heap.lt_size hTO
        · rw [q]; obtain ⟨_, e1, _⟩ := h1.obj; exact Heap.lt_size e1
        · rw [q]; obtain ⟨_, e2, _⟩ := h2.obj; exact Heap.lt_size e2
      rw [upd_ne (Nat.ne_of_lt hlt)]
      exact (hf c hcm).1
  done := by
    intro X hP hw hK hc i pins s σ H E I hf st hg
    subst hP hw hK
    obtain ⟨hz, hTI, ⟨x0, y0, hTO⟩, h1, h2⟩ := st
    obtain ⟨xs, ys, hqx, hqy, he1, he2, hend⟩ := hg
    obtain ⟨its, rv, p, _⟩ := sq_ob I hqx
    obtain ⟨its2, rv2, p2, _⟩ := sq_ob I hqy
    have l1 := rv.length
    have l2 := rv2.length
    have D1 := draws_k (P := X.prog) (w := X.w) (A := X.A.in1) (by exact I.ok.hd hc) k i1 a ha its.toArray
    have D2 := draws_k (P := X.prog) (w := X.w) (A := X.A.in1) (by exact I.ok.hd hc) l i2 b hb its2.toArray
    exact wpAny_pyNext_zipD2_end S D1 D2 hz hTI hTO ⟨h1, p⟩ ⟨h2, p2⟩ (by simp; omega) (by simp; omega) (by simp; omega) fun h' tk hk => ⟨rfl, I.turnedL (t' := tk) (ch := [z, TI, TO, i1, i2]) (fun c o hb q =>
      hk c o (fun q' => hb (by simp [q'])) (fun q' => hb (by simp [q'])) (fun q' => hb (by simp [q'])) (fun q' => hb (by simp [q'])) q) hf⟩
  self := fun A i s Q E st h => wpAny_pyIter_zip st.1 h
def iZipK (K : PySem.W.Frag) (ta : TA) : TI := fun σ H R => ta σ H fun vs H1 => ∃ k l a b xs ys, vs = [.ref a, .ref b] ∧ Sq K k H1 a xs ∧ Sq K l H1 b ys ∧ R (ItzK K k l a b) H1
theorem pi_zipK {X : Cx} {e e2 : Expr} {ta : TA} {p pos tpos : Pos} {elts : List Expr} {kk : Nat} (hg : Gl X "zip") (hm : X.mg "zip" = none) (ha : PA X [e, e2] ta)
    (hs : starEach [e, e2] X.env = (false, eval e X.env) :: starEach [e2] X.env := by rfl) (hpl : (backTo pos (starEach [e2] X.env)).any (·.1) = false := by rfl) :
    PI X (.Tuple elts kk tpos) (.Call (.Name "zip" p) [e, e2] [] pos) (iZipK X.K ta) := by
  refine ⟨fun pins s σ H R I h => ?_⟩
  refine Call_ (ld_blt I hg hm PyProof.Rows.boot_zip (PyProof.Rows.callWith_type1 (thn (ha.run pos pins s σ H _ I h) fun us s1 ⟨vs, H1, I1, r1, q1⟩ => ?_) hs hpl))
  obtain ⟨k, l, a, b, xs, ys, ex, hqx, hqy, q⟩ := q1
  subst ex
  cases r1 with
  | cons r rr =>
    cases rr with
    | cons r' rr =>
      cases rr
      cases r
      cases r'
      have fresh5 : ∀ c, c ∈ [s1.heap.objs.size + 4, s1.heap.objs.size + 2, s1.heap.objs.size + 3, s1.heap.objs.size, s1.heap.objs.size + 1] → FpOk X pins H1 c := fun c hcm => by
        have e' : c = s1.heap.objs.size + 4 ∨ c = s1.heap.objs.size + 2 ∨ c = s1.heap.objs.size + 3 ∨ c = s1.heap.objs.size ∨ c = s1.heap.objs.size + 1 := by simpa using hcm
        have hle : s1.heap.objs.size ≤ c := by
          rcases e' with z | z | z | z | z
          · rw [z]; exact Nat.le_add_right _ _
          · rw [z]; exact Nat.le_add_right _ _
          · rw [z]; exact Nat.le_add_right _ _
          · rw [z]; exact Nat.le_refl _
          · rw [z]; exact Nat.le_add_right _ _
        exact I1.fpOk hle (I1.hok.fresh hle)
      obtain ⟨its, rv, p1, _⟩ := sq_ob I1 hqx
      obtain ⟨its2, rv2, p2, _⟩ := sq_ob I1 hqy
      refine zip_begins2 (begins_k k a its.toArray) (begins_k l b its2.toArray) p1 p2 fun h' hz hTI hTO h1 h2 hsz hk => wpAny_pyIter_zip hz ?_
      have I2 : Inv X pins σ H1 { s1 with heap := h' } := I1.kept (t' := s1.toks) hk
      have la := p1.lt
      have lb := p2.lt
      refine ⟨s1.heap.objs.size + 4, [s1.heap.objs.size + 4, s1.heap.objs.size + 2, s1.heap.objs.size + 3, s1.heap.objs.size, s1.heap.objs.size + 1], _, _, H1, rfl, I2,
        turn_zipK (k := k) (l := l) (zip_sep2 (fp1 := [a]) (fp2 := [b]) (fun c hc => by simp at hc; subst hc; exact la) (fun c hc => by simp at hc; subst hc; exact lb)) (Nat.ne_of_lt la) (Nat.ne_of_lt (Nat.lt_succ_of_lt lb)), ⟨hz, hTI, ⟨_, _, hTO⟩, ItK.new h1, ItK.new h2⟩, fresh5, q⟩
/-! ### the walks -/
section
variable {K : PySem.W.Frag} {a b : Addr} {xs ys : List V} {k l : Bool}
theorem walk_enumK : Walk (IteK K k a) xs.length (fun H => Sq K k H a xs) (YPair (fun i => some (.int (i : Nat))) (fun i => xs[i]?)) :=
  ⟨fun i _ hi q => ⟨xs, xs[i], q, by simp [hi]⟩, fun _ q => ⟨xs, q, rfl⟩, fun i H x H' hi q ⟨T, y, e1, e2, e3, e4⟩ => ⟨T, _, y, e1, e2, e3, rfl, e4 xs q⟩⟩
theorem walk_zipK : Walk (ItzK K k l a b) (min xs.length ys.length) (fun H => Sq K k H a xs ∧ Sq K l H b ys) (YPair (fun i => xs[i]?) (fun i => ys[i]?)) :=
  ⟨fun i _ hi q => ⟨xs, ys, xs[i]'(by omega), ys[i]'(by omega), q.1, q.2, by simp [show i < xs.length by omega], by simp [show i < ys.length by omega]⟩,
    fun _ q => ⟨xs, ys, q.1, q.2, by omega, by omega, by omega⟩, fun i H x H' hi q ⟨T, y, z, e1, e2, e3, e4, e5⟩ => ⟨T, y, z, e1, e2, e3, e4 xs q.1, e5 ys q.2⟩⟩
end
end M1
namespace M1
open PySem PySem.Spec L2
/-! ### targets -/
def T.len : T → Nat
  | .cons _ r => r.len + 1
  | _ => 0
def gT (K : PySem.W.Frag) : T → TG
  | .one i => gName i
  | .tup l => gTup K l.len (gTs l)
  | _ => fun _ _ _ _ => False
where gTs : T → TGs
  | .nil => gNil
  | .cons a r => gCons (gT K a) (gTs r)
  | _ => fun _ _ _ _ => False
theorem wipe_set : ∀ {vs : List Nat} {σ : L2.St} {i : Nat} {v : Option V}, i ∈ vs → wipe (σ.set i v) vs = wipe σ vs
  | w :: vs, σ, i, v, h => by
    unfold wipe
    by_cases hi : i ∈ vs
    · rw [wipe_set hi]
    · have hiw : i = w := by
        rcases List.mem_cons.mp h with e | e
        · exact e
        · exact absurd e hi
      subst hiw
      -- the later slot is wiped at the end
      have aux : ∀ (vs : List Nat) (σ : L2.St), wipe (σ.set i v) vs = (wipe σ vs).set i v ∨ i ∈ vs := fun vs => by
        induction vs with
        | nil => intro σ; exact .inl rfl
        | cons u us ih =>
          intro σ
          by_cases hu : i = u
          · exact .inr (by simp [hu])
          · rcases ih σ with e | e
            · refine .inl ?_
              show (wipe (σ.set i v) us).set u none = ((wipe σ us).set u none).set i v
              rw [e, List.set_comm _ _ hu]
            · exact .inr (by simp [e])
      rcases aux vs σ with e | e
      · rw [e, List.set_set]
      · exact absurd e hi
section
variable {K : PySem.W.Frag} {H : Hp} {mp : List Addr}
theorem EnvR.set {ρ : Env} {σ : L2.St} {i : Nat} {d : D} {v : V} (h : EnvR K H mp ρ σ) (hd : DR K H mp d v) : EnvR K H mp (ρ.set i (some d)) (σ.set i (some v)) := by
  refine ⟨by simp [h.1], fun j x e => ?_⟩
  by_cases hj : j = i
  · subst hj
    by_cases hl : j < ρ.length
    · rw [List.getElem?_set_self hl] at e
      cases e
      exact ⟨v, by rw [List.getElem?_set_self (h.1 ▸ hl)], hd⟩
    · rw [List.getElem?_eq_none (by simp; omega)] at e; cases e
  · rw [List.getElem?_set_ne (Ne.symm hj)] at e
    obtain ⟨w, h1, h2⟩ := h.2 j x e
    exact ⟨w, by rw [List.getElem?_set_ne (Ne.symm hj)]; exact h1, h2⟩
theorem EnvR.wipe {ρ : Env} {σ : L2.St} (h : EnvR K H mp ρ σ) : ∀ vs : List Nat, EnvR K H mp (wipeE ρ vs) (L2.wipe σ vs)
  | [] => h
  | w :: vs => by
    have ih := EnvR.wipe h vs
    unfold wipeE L2.wipe
    refine ⟨by simp [ih.1], fun j x e => ?_⟩
    by_cases hj : j = w
    · subst hj
      by_cases hl : j < (wipeE ρ vs).length
      · rw [List.getElem?_set_self hl] at e; cases e
      · rw [List.getElem?_eq_none (by simp; omega)] at e; cases e
    · rw [List.getElem?_set_ne (Ne.symm hj)] at e
      obtain ⟨w', h1, h2⟩ := ih.2 j x e
      exact ⟨w', by rw [List.getElem?_set_ne (Ne.symm hj)]; exact h1, h2⟩
theorem asgs_len : ∀ {l : T} {ds : List D} {ρ ρ' : Env}, asgs l ds ρ = some ρ' → ds.length = l.len
  | .nil, [], _, _, _ => rfl
  | .cons t r, d :: ds, ρ, ρ', e => by
    unfold asgs at e
    cases e1 : asg t d ρ with
    | none => rw [e1] at e; cases e
    | some ρ1 => rw [e1] at e; simp [T.len, asgs_len (show asgs r ds ρ1 = some ρ' from e)]
  | .nil, _ :: _, _, _, e => by cases e
  | .cons _ _, [], _, _, e => by cases e
  | .one _, _, _, _, e => by cases e
  | .tup _, _, _, _, e => by cases e
mutual
theorem gT_of : ∀ (t : T) (d : D) (v : V) (ρ ρ' : Env) (σ : L2.St) (ss : List Nat) (Q : L2.St → Hp → Prop), EnvR K H mp ρ σ → DR K H mp d v → asg t d ρ = some ρ' → (∀ i ∈ t.slots, i ∈ ss) →
    (∀ σ', EnvR K H mp ρ' σ' → L2.wipe σ' ss = L2.wipe σ ss → Q σ' H) → gT K t v σ H Q
  | .one i, d, v, ρ, ρ', σ, ss, Q, he, hd, e, hs, q => by
    unfold asg at e
    cases e
    exact q _ (he.set hd) (wipe_set (hs i (by simp [T.slots])))
  | .tup l, .tup ds, v, ρ, ρ', σ, ss, Q, he, hd, e, hs, q => by
    unfold asg at e
    obtain ⟨a, vs, rfl, h1, h2⟩ := dr_tup hd
    exact ⟨a, vs, rfl, h1, by rw [← h2.length]; exact asgs_len e, gTs_of l ds vs ρ ρ' σ ss Q he h2 e (by simpa [T.slots] using hs) q⟩
  | .tup l, .non, _, _, _, _, _, _, _, _, e, _, _ => by cases e
  | .tup l, .bl _, _, _, _, _, _, _, _, _, e, _, _ => by cases e
  | .tup l, .int _, _, _, _, _, _, _, _, _, e, _, _ => by cases e
  | .tup l, .str _, _, _, _, _, _, _, _, _, e, _, _ => by cases e
  | .tup l, .frz _, _, _, _, _, _, _, _, _, e, _, _ => by cases e
  | .tup l, .loc _, _, _, _, _, _, _, _, _, e, _, _ => by cases e
  | .nil, _, _, _, _, _, _, _, _, _, e, _, _ => by cases e
  | .cons _ _, _, _, _, _, _, _, _, _, _, e, _, _ => by cases e
theorem gTs_of : ∀ (l : T) (ds : List D) (vs : List V) (ρ ρ' : Env) (σ : L2.St) (ss : List Nat) (Q : L2.St → Hp → Prop), EnvR K H mp ρ σ → DRs K H mp ds vs → asgs l ds ρ = some ρ' → (∀ i ∈ l.slots, i ∈ ss) →
    (∀ σ', EnvR K H mp ρ' σ' → L2.wipe σ' ss = L2.wipe σ ss → Q σ' H) → gT.gTs K l vs σ H Q
  | .nil, [], vs, ρ, ρ', σ, ss, Q, he, hd, e, hs, q => by
    unfold asgs at e
    cases e
    unfold DRs at hd
    exact ⟨hd, q σ he rfl⟩
  | .cons t r, d :: ds, vs, ρ, ρ', σ, ss, Q, he, hd, e, hs, q => by
    unfold asgs at e
    cases e1 : asg t d ρ with
    | none => rw [e1] at e; cases e
    | some ρ1 =>
      rw [e1] at e
      unfold DRs at hd
      obtain ⟨v, w, rfl, h1, h2⟩ := hd
      refine ⟨v, w, rfl, gT_of t d v ρ ρ1 σ ss _ he h1 e1 (fun i hi => hs i (by simp [T.slots, hi])) fun σ1 he1 hw1 => ?_⟩
      exact gTs_of r ds w ρ1 ρ' σ1 ss Q he1 h2 e (fun i hi => hs i (by simp [T.slots, hi])) fun σ2 he2 hw2 => q σ2 he2 (hw2.trans hw1)
  | .nil, _ :: _, _, _, _, _, _, _, _, _, e, _, _ => by cases e
  | .cons _ _, [], _, _, _, _, _, _, _, _, e, _, _ => by cases e
  | .one _, _, _, _, _, _, _, _, _, _, e, _, _ => by cases e
  | .tup _, _, _, _, _, _, _, _, _, _, e, _, _ => by cases e
end
end
/-! ### what is walked -/
/-- an iterator that has come walks these items -/
structure WalkR (K : PySem.W.Frag) (J : It) (it : Its) (H : Hp) (mp : List Addr) : Prop where
  goes : ∀ i H' mp' st, Ext K H mp H' mp' → StoR K H' mp' st → liveOk it.live st → i < it.ds.length → J.go i H'
  stops : ∀ H' mp' st, Ext K H mp H' mp' → StoR K H' mp' st → liveOk it.live st → J.stop it.ds.length H'
  yields : ∀ i H' mp' st x H2, Ext K H mp H' mp' → StoR K H' mp' st → liveOk it.live st → i < it.ds.length → J.yld i H' x H2 → Ext K H' mp' H2 mp' ∧ StoR K H2 mp' st ∧ ∃ d, it.ds[i]? = some d ∧ DR K H2 mp' d x
theorem WalkR.ext {K : PySem.W.Frag} {J : It} {it : Its} {H H1 : Hp} {mp mp1 : List Addr} (w : WalkR K J it H mp) (e : Ext K H mp H1 mp1) : WalkR K J it H1 mp1 :=
  ⟨fun i H' mp' st e' => w.goes i H' mp' st (e.trans e'), fun H' mp' st e' => w.stops H' mp' st (e.trans e'), fun i H' mp' st x H2 e' => w.yields i H' mp' st x H2 (e.trans e')⟩
def tI (K : PySem.W.Frag) (W : WX) (m : Env → Sto → R Its) : TI := fun σ H R => ∃ ρ st mp, EnvR K H mp ρ σ ∧ StoR K H mp st ∧ RP K (fun H' mp' it (J : It) => WalkR K J it H' mp') H mp (m ρ st) (fun J H' => R J H') fun c d H' => W c d σ H'
section
variable {K : PySem.W.Frag} {H : Hp} {mp : List Addr} {st : Sto}
theorem src_of {x : D} {u : V} {i : Its} {st1 : Sto} (S : StoR K H mp st) (hx : DR K H mp x u) (e : itSeq x st = .ok i st1) :
    st1 = st ∧ liveOk i.live st ∧ ∃ k a, u = .ref a ∧ ∀ H' mp' st', Ext K H mp H' mp' → StoR K H' mp' st' → liveOk i.live st' → ∃ vs, Sq K k H' a vs ∧ DRs K H' mp' i.ds vs := by
  cases x with
  | tup ds =>
    cases e
    obtain ⟨a, vs, rfl, h1, h2⟩ := dr_tup hx
    refine ⟨rfl, (by intro p hp; cases hp), false, a, rfl, fun H' mp' st' ex _ _ => ⟨vs, ex.tup _ _ h1, DRs.ext ex _ _ h2⟩⟩
  | frz ds =>
    cases e
    obtain ⟨a, vs, rfl, h1, h2⟩ := dr_frz hx
    refine ⟨rfl, (by intro p hp; cases hp), true, a, rfl, fun H' mp' st' ex _ _ => ⟨vs, sqL_frz (h1.imp id fun ⟨o, z⟩ => ⟨o, ex.frz _ _ _ z⟩), DRs.ext ex _ _ h2⟩⟩
  | loc n =>
    have e' : (match lstAt st n with | some ds => R.ok (⟨ds, [(n, ds)]⟩ : Its) st | none => .stuck) = .ok i st1 := e
    cases e1 : lstAt st n with
    | none => rw [e1] at e'; cases e'
    | some ds =>
      rw [e1] at e'
      cases e'
      obtain ⟨a, ha, rfl⟩ := dr_loc hx
      refine ⟨rfl, (by intro p hp; simp at hp; subst hp; exact e1), true, a, rfl, fun H' mp' st' ex S' lv => ?_⟩
      obtain ⟨vs, h1, h2⟩ := lstAt_of S' (lv (n, ds) (by simp)) (ex.get ha)
      exact ⟨vs, SqL.of h1, h2⟩
  | _ => cases e
def ItsK (K : PySem.W.Frag) (k : Bool) (a : Addr) : It := match k with
  | true => Itl K a
  | false => Itt K a
theorem walkR_seq {x : D} {u : V} {i : Its} {st1 : Sto} (S : StoR K H mp st) (hx : DR K H mp x u) (e : itSeq x st = .ok i st1) : st1 = st ∧ ∃ k a xs, u = .ref a ∧ Sq K k H a xs ∧ WalkR K (ItsK K k a) i H mp := by
  obtain ⟨rfl, lv, k, a, rfl, h⟩ := src_of S hx e
  obtain ⟨xs, h1, _⟩ := h H mp st1 .refl S lv
  refine ⟨rfl, k, a, xs, rfl, h1, ⟨fun j H' mp' st' ex S' lv hj => ?_, fun H' mp' st' ex S' lv => ?_, fun j H' mp' st' x H2 ex S' lv hj y => ?_⟩⟩
  · obtain ⟨vs, h2, h3⟩ := h H' mp' st' ex S' lv
    have hj' : j < vs.length := h3.length ▸ hj
    cases k
    · exact ⟨vs, vs[j], h2, by simp [hj']⟩
    · exact ⟨vs, vs[j], h2, by simp [hj']⟩
  · obtain ⟨vs, h2, h3⟩ := h H' mp' st' ex S' lv
    cases k
    · exact ⟨vs, h2, by rw [h3.length]; exact Nat.le_refl _⟩
    · exact ⟨vs, h2, by rw [h3.length]; exact Nat.le_refl _⟩
  · obtain ⟨vs, h2, h3⟩ := h H' mp' st' ex S' lv
    have e1 : H2 = H' ∧ vs[j]? = some x := by
      cases k
      · exact ⟨y.1, y.2 vs h2⟩
      · exact ⟨y.1, y.2 vs h2⟩
    obtain ⟨rfl, e1⟩ := e1
    obtain ⟨v, h4, h5⟩ := h3.at_ (List.getElem?_eq_getElem hj)
    rw [e1] at h4
    cases h4
    exact ⟨.refl, S', _, List.getElem?_eq_getElem hj, h5⟩
theorem walkR_enum {x : D} {u : V} {i : Its} {st1 : Sto} (S : StoR K H mp st) (hx : DR K H mp x u) (e : itSeq x st = .ok i st1) :
    st1 = st ∧ ∃ k a xs, u = .ref a ∧ Sq K k H a xs ∧ WalkR K (IteK K k a) ⟨i.ds.zipIdx.map fun p => .tup [.int (p.2 : Nat), p.1], i.live⟩ H mp := by
  obtain ⟨rfl, lv, k, a, rfl, h⟩ := src_of S hx e
  obtain ⟨xs, h1, _⟩ := h H mp st1 .refl S lv
  refine ⟨rfl, k, a, xs, rfl, h1, ⟨fun j H' mp' st' ex S' lv hj => ?_, fun H' mp' st' ex S' lv => ?_, fun j H' mp' st' x H2 ex S' lv hj y => ?_⟩⟩
  · obtain ⟨vs, h2, h3⟩ := h H' mp' st' ex S' lv
    have hj' : j < vs.length := by simp at hj; rw [← h3.length]; exact hj
    exact ⟨vs, vs[j], h2, by simp [hj']⟩
  · obtain ⟨vs, h2, h3⟩ := h H' mp' st' ex S' lv
    exact ⟨vs, h2, by simp [h3.length]⟩
  · obtain ⟨vs, h2, h3⟩ := h H' mp' st' ex S' lv
    obtain ⟨T, z, rfl, hT, rfl, q⟩ := y
    have e1 := q vs h2
    have hj2 : j < i.ds.length := by simpa using hj
    obtain ⟨v, h4, h5⟩ := h3.at_ (List.getElem?_eq_getElem hj2)
    rw [e1] at h4
    cases h4
    refine ⟨Ext.fresh hT, S'.fresh hT, .tup [.int (j : Nat), i.ds[j]], ?_, mk_tup (SqT.of upd_same) (.cons (mk_int _) (.cons (DR.ext (Ext.fresh hT) _ _ h5) .nil))⟩
    simp [hj2]
theorem walkR_zip {x y : D} {u v : V} {i j : Its} {st1 st2 : Sto} (S : StoR K H mp st) (hx : DR K H mp x u) (hy : DR K H mp y v) (e : itSeq x st = .ok i st1) (e2 : itSeq y st1 = .ok j st2) :
    st2 = st ∧ ∃ k l a b xs ys, u = .ref a ∧ v = .ref b ∧ Sq K k H a xs ∧ Sq K l H b ys ∧ WalkR K (ItzK K k l a b) ⟨(i.ds.zip j.ds).map fun p => .tup [p.1, p.2], i.live ++ j.live⟩ H mp := by
  obtain ⟨rfl, lv, k, a, rfl, h⟩ := src_of S hx e
  obtain ⟨rfl, lv2, l, b, rfl, g⟩ := src_of S hy e2
  obtain ⟨xs, h1, _⟩ := h H mp _ .refl S lv
  obtain ⟨ys, g1, _⟩ := g H mp _ .refl S lv2
  refine ⟨rfl, k, l, a, b, xs, ys, rfl, rfl, h1, g1, ⟨fun n H' mp' st' ex S' lv hj => ?_, fun H' mp' st' ex S' lv => ?_, fun n H' mp' st' x H2 ex S' lv hj y => ?_⟩⟩
  · obtain ⟨vs, h2, h3⟩ := h H' mp' st' ex S' fun p hp => lv p (by simp [hp])
    obtain ⟨ws, g2, g3⟩ := g H' mp' st' ex S' fun p hp => lv p (by simp [hp])
    have l1 := h3.length
    have l2 := g3.length
    simp at hj
    exact ⟨vs, ws, vs[n]'(by omega), ws[n]'(by omega), h2, g2, by simp [show n < vs.length by omega], by simp [show n < ws.length by omega]⟩
  · obtain ⟨vs, h2, h3⟩ := h H' mp' st' ex S' fun p hp => lv p (by simp [hp])
    obtain ⟨ws, g2, g3⟩ := g H' mp' st' ex S' fun p hp => lv p (by simp [hp])
    have l1 := h3.length
    have l2 := g3.length
    refine ⟨vs, ws, h2, g2, ?_, ?_, ?_⟩ <;> simp <;> omega
  · obtain ⟨vs, h2, h3⟩ := h H' mp' st' ex S' fun p hp => lv p (by simp [hp])
    obtain ⟨ws, g2, g3⟩ := g H' mp' st' ex S' fun p hp => lv p (by simp [hp])
    obtain ⟨T, z, z2, rfl, hT, rfl, q, q2⟩ := y
    have e1 := q vs h2
    have e3 := q2 ws g2
    simp at hj
    have hn1 : n < i.ds.length := by omega
    have hn2 : n < j.ds.length := by omega
    obtain ⟨v, h4, h5⟩ := h3.at_ (List.getElem?_eq_getElem hn1)
    obtain ⟨v2, g4, g5⟩ := g3.at_ (List.getElem?_eq_getElem hn2)
    rw [e1] at h4
    rw [e3] at g4
    cases h4
    cases g4
    refine ⟨Ext.fresh hT, S'.fresh hT, .tup [i.ds[n], j.ds[n]], ?_, mk_tup (SqT.of upd_same) (.cons (DR.ext (Ext.fresh hT) _ _ h5) (.cons (DR.ext (Ext.fresh hT) _ _ g5) .nil))⟩
    simp [List.getElem?_zip_eq_some, hn1, hn2]
theorem walkR_range (lo : Int) (n : Nat) (f : Nat → D) (hf : ∀ k, f k = .int (lo + k)) : WalkR K (Itr lo n) ⟨(List.range n).map f, []⟩ H mp := by
  refine ⟨fun j H' mp' st' ex S' lv hj => ?_, fun H' mp' st' ex S' lv => ?_, fun j H' mp' st' x H2 ex S' lv hj y => ?_⟩
  · show j < n; simpa using hj
  · exact show n ≤ _ by simp
  · obtain ⟨rfl, rfl⟩ := y
    refine ⟨.refl, S', .int (lo + j), ?_, mk_int _⟩
    have hj' : j < n := by simpa using hj
    simp [hj', hf]
theorem walkR_str (z : List Nat) : WalkR K (L2.Its (strOf z)) ⟨z.map fun c => .str [c], []⟩ H mp := by
  refine ⟨fun j H' mp' st' ex S' lv hj => ?_, fun H' mp' st' ex S' lv => ?_, fun j H' mp' st' x H2 ex S' lv hj y => ?_⟩
  · show j < (strOf z).cps.size; simpa [strOf] using hj
  · show (strOf z).cps.size ≤ _; simp [strOf]
  · obtain ⟨rfl, c, h1, rfl⟩ := y
    refine ⟨.refl, S', .str [c], ?_, mk_str [c]⟩
    have h1' : z[j]? = some c := by simpa [strOf] using h1
    simp [h1']
end
section
variable {X : Cx} {W : WX} {tg : Expr} {e : Expr} {m : Env → Sto → R D}
theorem pi_val (he : PE X e (tE X.K W m)) : PI X tg e (tI X.K W fun ρ st => (m ρ st).bind itVal) := by
  refine ⟨fun pins s σ H RR I h => ?_⟩
  obtain ⟨ρ, st, mp, hE, S, q⟩ := h
  refine thn (he.run pins s σ H _ I ⟨ρ, st, mp, hE, S, q.bind⟩) fun v s1 ⟨x, H1, I1, r1, d, st1, mp1, ex, S1, hd, q1⟩ => ?_
  dsimp only at q1
  have fresh : ∀ b, b ∈ [s1.heap.objs.size] → FpOk X pins H1 b := fun b hb => by
    have e : b = s1.heap.objs.size := by simpa using hb
    subst e
    exact I1.fpOk (Nat.le_refl _) (I1.hok.fresh (Nat.le_refl _))
  have seq : ∀ i st2, itSeq d st1 = .ok i st2 → itVal d st1 = .ok i st2 → wpAny (model X.prog X.w) X.A (pyIter v) (PIE X pins σ tg RR) X.xe s1 := by
    intro i st2 e1 e2
    rw [e2] at q1
    obtain ⟨rfl, k, a, xs, rfl, hq, w⟩ := walkR_seq S1 hd e1
    have q2 := q1.ok S1 w
    cases r1
    cases k
    · obtain ⟨its, rv, p, hz⟩ := I1.tuple hq
      exact wpAny_pyIter_tuple (show s1.heap.IsTuple a its.toArray from p) ⟨s1.heap.objs.size, [s1.heap.objs.size], _, _, H1, rfl, I1.kept (t' := s1.toks) fun b o e => Heap.get?_push_of_some _ e, turn_tuple a _, ⟨_, Heap.get?_push_size _ rfl, rfl, rfl⟩, fresh, q2⟩
    · obtain ⟨its, rv, p, hz⟩ := I1.list hq
      exact wpAny_pyIter_list p.isList ⟨s1.heap.objs.size, [s1.heap.objs.size], _, _, H1, rfl, I1.kept (t' := s1.toks) fun b o e => Heap.get?_push_of_some _ e, turn_list a _, ⟨_, Heap.get?_push_size _ rfl, rfl, rfl⟩, fresh, q2⟩
  cases d with
  | tup ds => exact seq _ _ rfl rfl
  | frz ds => exact seq _ _ rfl rfl
  | loc n =>
    cases e1 : lstAt st1 n with
    | none =>
      have : itVal (.loc n) st1 = .stuck := by show (match lstAt st1 n with | some ds => M1.R.ok (⟨ds, [(n, ds)]⟩ : M1.Its) st1 | none => M1.R.stuck) = _; rw [e1]
      rw [this] at q1
      exact q1.elim
    | some ds =>
      have : itVal (.loc n) st1 = .ok ⟨ds, [(n, ds)]⟩ st1 := by show (match lstAt st1 n with | some ds => M1.R.ok (⟨ds, [(n, ds)]⟩ : M1.Its) st1 | none => M1.R.stuck) = _; rw [e1]
      exact seq _ _ this this
  | str z =>
    cases dr_str hd
    obtain ⟨t, rfl⟩ := r1
    have q2 := RP.ok (v := L2.Its (strOf z)) q1 S1 (walkR_str z)
    cases ha : (strOf z).cps.all (· < 128)
    · exact wpAny_pyIter_wide ha (pi_one (tk := s1.toks) I1 _ (turn_str _ (strOf z) t "str_iterator" (.inr rfl)) ⟨_, Heap.get?_push_size _ rfl, rfl, rfl⟩ q2)
    · exact wpAny_pyIter_ascii ha (pi_one (tk := s1.toks) I1 _ (turn_str _ (strOf z) t "str_ascii_iterator" (.inl rfl)) ⟨_, Heap.get?_push_size _ rfl, rfl, rfl⟩ q2)
  | _ => exact q1.elim
theorem PI.of {t t' : TI} (h : PI X tg e t) (q : ∀ σ H R, t' σ H R → t σ H R) : PI X tg e t' := ⟨fun pins s σ H R I w => h.run pins s σ H R I (q σ H R w)⟩
theorem itSeq_ok {d : D} {st : Sto} {r : R M1.Its} (h : itSeq d st = r) (hr : r ≠ .stuck) : ∃ i, r = .ok i st := by
  subst h
  cases d with
  | tup ds => exact ⟨_, rfl⟩
  | frz ds => exact ⟨_, rfl⟩
  | loc n =>
    have e : itSeq (.loc n) st = (match lstAt st n with | some ds => R.ok (⟨ds, [(n, ds)]⟩ : M1.Its) st | none => .stuck) := rfl
    rw [e] at hr ⊢
    cases e1 : lstAt st n with
    | none => rw [e1] at hr; exact (hr rfl).elim
    | some ds => exact ⟨_, rfl⟩
  | _ => exact (hr rfl).elim
theorem pi_en {x : Expr} {p pos tpos : Pos} {elts : List Expr} {kk : Nat} {m : Env → Sto → R (List D)} (hg : Gl X "enumerate") (hm : X.mg "enumerate" = none) (ha : PA X [x] (tA X.K W m)) (hs : starEach [x] X.env = [(false, eval x X.env)]) :
    PI X (.Tuple elts kk tpos) (.Call (.Name "enumerate" p) [x] [] pos) (tI X.K W fun ρ st => (m ρ st).bind fun xs st1 => match xs with | [x] => itEnum x st1 | _ => .stuck) :=
  PI.of (pi_enumK hg hm ha hs) fun σ H R ⟨ρ, st, mp, he, S, q⟩ => ⟨ρ, st, mp, he, S, q.bind.mono fun vs H1 ⟨xs, st1, mp1, ex, S1, hd, q1⟩ => by
    dsimp only at q1
    split at q1
    · rename_i x
      obtain ⟨u, rfl, hx⟩ := drs1 (X := X) hd
      unfold itEnum at q1
      by_cases hst : itSeq x st1 = .stuck
      · rw [hst] at q1; exact q1.elim
      · obtain ⟨i, e1⟩ := itSeq_ok rfl hst
        rw [e1] at q1
        obtain ⟨_, k, a, xs, rfl, hq, w⟩ := walkR_enum S1 hx e1
        exact ⟨k, a, xs, rfl, hq, RP.ok q1 S1 w⟩
    · exact q1.elim⟩
theorem pi_zp {x y : Expr} {p pos tpos : Pos} {elts : List Expr} {kk : Nat} {m : Env → Sto → R (List D)} (hg : Gl X "zip") (hm : X.mg "zip" = none) (ha : PA X [x, y] (tA X.K W m)) (hs : starEach [x, y] X.env = (false, eval x X.env) :: starEach [y] X.env) (hpl : (backTo pos (starEach [y] X.env)).any (·.1) = false) :
    PI X (.Tuple elts kk tpos) (.Call (.Name "zip" p) [x, y] [] pos) (tI X.K W fun ρ st => (m ρ st).bind itZip) :=
  PI.of (pi_zipK hg hm ha hs hpl) fun σ H R ⟨ρ, st, mp, he, S, q⟩ => ⟨ρ, st, mp, he, S, q.bind.mono fun vs H1 ⟨xs, st1, mp1, ex, S1, hd, q1⟩ => by
    dsimp only at q1
    unfold itZip at q1
    split at q1
    · rename_i x y
      obtain ⟨u, v, rfl, hx, hy⟩ := drs2 (X := X) hd
      by_cases hst : itSeq x st1 = .stuck
      · rw [hst] at q1; exact q1.elim
      · obtain ⟨i, e1⟩ := itSeq_ok rfl hst
        rw [e1] at q1
        simp only [M1.R.bind_ok] at q1
        by_cases hst2 : itSeq y st1 = .stuck
        · rw [hst2] at q1; exact q1.elim
        · obtain ⟨j, e2⟩ := itSeq_ok rfl hst2
          rw [e2] at q1
          obtain ⟨_, k, l, a, b, xs, ys, rfl, rfl, hq, hq2, w⟩ := walkR_zip S1 hx hy e1 e2
          exact ⟨k, l, a, b, xs, ys, rfl, hq, hq2, RP.ok q1 S1 w⟩
    · exact q1.elim⟩
theorem pi_rg1 {x : Expr} {p pos : Pos} {m : Env → Sto → R (List D)} (hg : Gl X "range") (hm : X.mg "range" = none) (ha : PA X [x] (tA X.K W m)) (hs : starEach [x] X.env = [(false, eval x X.env)]) :
    PI X tg (.Call (.Name "range" p) [x] [] pos) (tI X.K W fun ρ st => (m ρ st).bind fun xs st1 => match xs with | [.int j] => okIf (rgOk j) ⟨(List.range j.toNat).map fun i => D.int (i : Nat), []⟩ st1 | _ => .stuck) :=
  PI.of (pi_range1 hg hm ha hs) fun σ H R ⟨ρ, st, mp, he, S, q⟩ => ⟨ρ, st, mp, he, S, q.bind.mono fun vs H1 ⟨xs, st1, mp1, ex, S1, hd, q1⟩ => by
    dsimp only at q1
    split at q1
    · rename_i j
      obtain ⟨u, rfl, hx⟩ := drs1 (X := X) hd
      cases dr_int hx
      obtain ⟨hj, q1⟩ := RP.if q1
      exact ⟨j, rfl, hj.1, hj.2, RP.ok q1 S1 (walkR_range 0 _ _ fun k => by simp)⟩
    · exact q1.elim⟩
theorem pi_rg2 {x y : Expr} {p pos : Pos} {m : Env → Sto → R (List D)} (hg : Gl X "range") (hm : X.mg "range" = none) (ha : PA X [x, y] (tA X.K W m)) (hs : starEach [x, y] X.env = [(false, eval x X.env), (false, eval y X.env)]) (hs2 : starEach [y] X.env = [(false, eval y X.env)]) :
    PI X tg (.Call (.Name "range" p) [x, y] [] pos) (tI X.K W fun ρ st => (m ρ st).bind fun xs st1 => match xs with | [.int i, .int j] => okIf (rgOk i ∧ rgOk j) ⟨(List.range (j - i).toNat).map fun k => D.int (i + (k : Nat)), []⟩ st1 | _ => .stuck) :=
  PI.of (pi_range2 hg hm ha hs hs2) fun σ H R ⟨ρ, st, mp, he, S, q⟩ => ⟨ρ, st, mp, he, S, q.bind.mono fun vs H1 ⟨xs, st1, mp1, ex, S1, hd, q1⟩ => by
    dsimp only at q1
    split at q1
    · rename_i i j
      obtain ⟨u, v, rfl, hx, hy⟩ := drs2 (X := X) hd
      cases dr_int hx
      cases dr_int hy
      obtain ⟨hj, q1⟩ := RP.if q1
      exact ⟨i, j, rfl, ⟨hj.1.1, hj.1.2, hj.2.1, hj.2.2⟩, RP.ok q1 S1 (walkR_range i _ _ fun k => rfl)⟩
    · exact q1.elim⟩
end
end M1
namespace M1
open PySem PySem.Spec L2
abbrev W0 : WX := fun _ _ _ _ => False
/-- an untracked list of the abstract heap, changed -/
theorem Ext0.over {K : PySem.W.Frag} {H : Hp} {mp : List Addr} {p : Addr} {vs ws : List V} (hp : H p = some (.lst vs)) : Ext0 K H mp (upd H p (.lst ws)) mp :=
  ⟨⟨[], by simp⟩, fun a xs h => sqT_upd h (.inr ⟨_, hp, (fun _ z => nomatch z), (fun _ _ z => nomatch z)⟩), fun a o u h => by
    rw [upd_ne (ne_of h hp (fun z => by cases z))]; exact h⟩
theorem Ext.over {K : PySem.W.Frag} {H H1 : Hp} {mp mp1 : List Addr} {p : Addr} {vs ws : List V} (e : Ext K H mp H1 mp1) (h0 : H p = none) (hp : H1 p = some (.lst vs)) : Ext K H mp (upd H1 p (.lst ws)) mp1 :=
  ⟨e.pre, fun a o h hm => by rw [upd_ne (ne_of_none h h0)]; exact e.keep a o h hm, fun a xs h => (Ext0.over (K := K) (mp := mp1) hp).tup a xs (e.tup a xs h), fun a o u h => (Ext0.over (K := K) (mp := mp1) hp).frz a o u (e.frz a o u h)⟩
theorem Ext.out {K : PySem.W.Frag} {H H1 : Hp} {mp mp1 : List Addr} {p : Addr} {o : HO} (e : Ext K H mp H1 mp1) (h : H p = some o) (hp : p ∉ mp) : p ∉ mp1 := by
  obtain ⟨n, rfl, hn⟩ := e.pre
  intro z
  rcases List.mem_append.mp z with z | z
  · exact hp z
  · rw [hn p z hp] at h; cases h
/-- a list is taken into the store -/
theorem Ext0.grow {K : PySem.W.Frag} {H : Hp} {mp : List Addr} (p : Addr) : Ext0 K H mp H (mp ++ [p]) := ⟨⟨[p], rfl⟩, fun _ _ h => h, fun _ _ _ h => h⟩
theorem StoR.adopt {K : PySem.W.Frag} {H : Hp} {mp : List Addr} {st : Sto} (S : StoR K H mp st) {p : Addr} {o : O} (hp : p ∉ mp) (h : OR K H (mp ++ [p]) p o) : StoR K H (mp ++ [p]) (st ++ [o]) := by
  refine ⟨by simp [S.len], ?_, fun n ob a h1 h2 => ?_⟩
  · rw [List.nodup_append]
    refine ⟨S.nd, by simp, fun a ha b hb => ?_⟩
    simp at hb; subst hb
    intro z; subst z
    exact hp ha
  · by_cases hn : n < st.length
    · rw [List.getElem?_append_left hn] at h1
      rw [List.getElem?_append_left (S.len ▸ hn)] at h2
      exact (S.at_ n ob a h1 h2).ext0 (.grow p) rfl
    · have hn' : st.length ≤ n := Nat.le_of_not_lt hn
      rw [List.getElem?_append_right hn'] at h1
      rw [List.getElem?_append_right (by rw [S.len]; exact hn')] at h2
      rw [S.len] at h2
      cases hk : n - st.length with
      | zero => rw [hk] at h1 h2; simp at h1 h2; subst h1; subst h2; exact h
      | succ k => rw [hk] at h1; simp at h1
/-- the list of a comprehension, not in the store as yet -/
def relI (K : PySem.W.Frag) (H0 : Hp) : Hp → List Addr → List D → V → Prop := fun H mp xs v => ∃ p vs, v = .ref p ∧ H0 p = none ∧ H p = some (.lst vs) ∧ p ∉ mp ∧ DRs K H mp xs vs
def tLI (K : PySem.W.Frag) (W : WX) (m : Env → Sto → R (List D)) : TE := fun σ H Q => ∃ ρ st mp, EnvR K H mp ρ σ ∧ StoR K H mp st ∧ RP K (relI K H) H mp (m ρ st) Q fun c d H' => W c d σ H'
theorem quiet_exc {α : Type} {r : R α} {c : Nat} {x : Option D} {s : Sto} : r.quiet ≠ .exc c x s := by
  cases r <;> intro z <;> cases z
theorem bind_exc {α β : Type} {r : R α} {f : α → Sto → R β} {c : Nat} {x : Option D} {s : Sto} (h : r.bind f = .exc c x s) (h1 : ∀ c x s, r ≠ .exc c x s) : ∃ a st, r = .ok a st ∧ f a st = .exc c x s := by
  cases r with
  | ok a st => exact ⟨a, st, rfl, h⟩
  | exc c x s => exact (h1 _ _ _ rfl).elim
  | stuck => cases h
theorem compL_exc {t : T} {live : List (Nat × List D)} {mc : Env → Sto → R Bool} {me : Env → Sto → R D} {ρ : Env} : ∀ {ds : List D} {st : Sto} {c : Nat} {x : Option D} {s : Sto}, compL t live mc me ρ ds st ≠ .exc c x s
  | [], st, c, x, s => by
    unfold compL
    split <;> intro z <;> cases z
  | d :: ds, st, c, x, s => by
    intro z
    unfold compL at z
    split at z
    · split at z
      · obtain ⟨b, st1, _, z⟩ := bind_exc z fun _ _ _ => quiet_exc
        cases b with
        | true =>
          obtain ⟨y, st2, _, z⟩ := bind_exc z fun _ _ _ => quiet_exc
          obtain ⟨ys, st3, _, z⟩ := bind_exc z fun _ _ _ => compL_exc
          cases z
        | false => exact compL_exc z
      · cases z
    · cases z
section
variable {X : Cx} {W : WX} {tg iter elt : Expr} {ifs : List Expr} {scope : Scope} {own : List (Str × Nat)} {pos : Pos} {t : T} {mi : Env → Sto → R M1.Its} {mc : Env → Sto → R Bool} {me : Env → Sto → R D}
/-- the reading of a comprehension, from its meaning -/
theorem tLc_of {K : PySem.W.Frag} {σ : L2.St} {H : Hp} {Q : VK} (h : tLI K W (fun ρ st => compD t (mi ρ st) mc me ρ) σ H Q) : tLc (tI K W mi) (gT K t) (tT K W0 mc) (tE K W0 me) t.slots σ H Q := by
  obtain ⟨ρ, st, mp, hE, S, q⟩ := h
  refine ⟨ρ, st, mp, hE, S, ?_⟩
  unfold compD at q
  dsimp only at q
  generalize hmi : mi ρ st = r at q ⊢
  cases r with
  | stuck => exact q.elim
  | exc c x st1 => exact q
  | ok it st1 =>
    intro J H1 mp1 ex1 S1 wk D hD
    simp only [R.bind_ok] at q
    by_cases hlen : it.ds.length ≤ sizeLine
    case neg => rw [if_neg hlen] at q; exact q.elim
    rw [if_pos hlen] at q
    -- what is wanted of the rest
    let C : List M1.D → R (List M1.D) → Prop := fun accD r => match r with
      | .ok ys st' => ∀ H' mp' vs, Ext K H1 mp1 H' mp' → StoR K H' mp' st' → H' D = some (.lst vs) → D ∉ mp' → DRs K H' mp' (accD ++ ys) vs → Q (.ref D) H'
      | _ => False
    have hD0 : H D = none := by
      cases e : H D with
      | none => rfl
      | some o =>
        have hm : D ∉ mp := fun z => by
          obtain ⟨n, e2⟩ := List.mem_iff_getElem.mp z
          have : D ∈ mp1 := by
            obtain ⟨n1, rfl, _⟩ := ex1.pre
            exact List.mem_append_left _ z
          exact S1.free hD this
        have := ex1.keep D o e hm
        rw [hD] at this; cases this
    refine ⟨fun i m H' => m + i = it.ds.length ∧ ∃ st mp acc accD, Ext K H1 mp1 H' mp ∧ StoR K H' mp st ∧ H' D = some (.lst acc) ∧ D ∉ mp ∧ acc.length ≤ i ∧ DRs K H' mp accD acc ∧ C accD (compL t it.live mc me ρ (it.ds.drop i) st), ⟨it.ds.length, by simp, st1, mp1, [], [], Ext.fresh hD, S1.fresh hD, upd_same, S1.free hD, by simp, .nil, ?_⟩, ?_⟩
    · rw [List.drop_zero]
      generalize hr : compL t it.live mc me ρ it.ds st1 = r at q
      cases r with
      | ok ys st' => exact fun H' mp' vs e S' e2 e3 e4 => q (.ref D) H' mp' (ex1.trans e) S' ⟨D, vs, rfl, hD0, e2, e3, e4⟩
      | exc c x s => exact absurd hr compL_exc
      | stuck => exact q
    · rintro i m H2 ⟨hmi', st2, mp2, acc, accD, e2, S2, hDl, hDm, hacc, hdr, hC⟩
      by_cases hi : i < it.ds.length
      · refine .inr ?_
        rw [List.drop_eq_getElem_cons hi] at hC
        unfold compL at hC
        by_cases hlv : liveOk it.live st2
        case neg => rw [if_neg hlv] at hC; exact hC.elim
        rw [if_pos hlv] at hC
        refine ⟨wk.goes i H2 mp2 st2 e2 S2 hlv hi, fun H' => ∃ m', m' < m ∧ (m' + (i + 1) = it.ds.length ∧ ∃ st mp acc accD, Ext K H1 mp1 H' mp ∧ StoR K H' mp st ∧ H' D = some (.lst acc) ∧ D ∉ mp ∧ acc.length ≤ i + 1 ∧ DRs K H' mp accD acc ∧ C accD (compL t it.live mc me ρ (it.ds.drop (i + 1)) st)), fun H' h => h, fun x H3 hy => ?_⟩
        obtain ⟨e3, S3, d, hd, hx⟩ := wk.yields i H2 mp2 st2 x H3 e2 S2 hlv hi hy
        rw [List.getElem?_eq_getElem hi] at hd
        cases hd
        generalize ha : asg t it.ds[i] (wipeE ρ t.slots) = oρ at hC
        cases oρ with
        | none => exact hC.elim
        | some ρ' =>
          dsimp only at hC
          have hE3 : EnvR K H3 mp2 (wipeE ρ t.slots) (L2.wipe σ t.slots) := ((hE.ext ex1).ext (e2.trans e3)).wipe _
          have hDl3 := e3.keep D _ hDl hDm
          refine gT_of t _ x _ ρ' _ t.slots _ hE3 hx ha (fun _ h => h) fun σ2 hE4 hw => ⟨?_, ?_⟩
          · rw [hw]
            have aux : ∀ (vs ss : List Nat) (σ : L2.St), (∀ i ∈ vs, i ∈ ss) → L2.wipe (L2.wipe σ ss) vs = L2.wipe σ ss := by
              intro vs
              induction vs with
              | nil => intro ss σ _; rfl
              | cons v vs ih =>
                intro ss σ hs
                show (L2.wipe (L2.wipe σ ss) vs).set v none = _
                rw [ih ss σ fun i hi => hs i (by simp [hi])]
                have : ∀ (ss : List Nat) (σ : L2.St), v ∈ ss → (L2.wipe σ ss).set v none = L2.wipe σ ss := by
                  intro ss
                  induction ss with
                  | nil => intro σ h; cases h
                  | cons w ws ihw =>
                    intro σ h
                    show ((L2.wipe σ ws).set w none).set v none = (L2.wipe σ ws).set w none
                    by_cases hvw : v = w
                    · subst hvw; rw [List.set_set]
                    · rw [List.set_comm _ _ (Ne.symm hvw), ihw σ (by
                        rcases List.mem_cons.mp h with e | e
                        · exact absurd e hvw
                        · exact e)]
                exact this ss σ (hs v (by simp))
            exact aux _ _ _ fun _ h => h
          · -- the test
            generalize hc : mc ρ' st2 = rc at hC
            cases rc with
            | exc _ _ _ => exact hC.elim
            | stuck => exact hC.elim
            | ok b st3 =>
              simp only [R.quiet, R.bind_ok] at hC
              refine ⟨ρ', st2, mp2, hE4, S3, ?_⟩
              rw [hc]
              rintro b' H4 mp4 e4 S4 rfl
              have hDl4 := e4.keep D _ hDl3 hDm
              have hDm4 := e4.out hDl3 hDm
              cases b with
              | false =>
                rw [if_neg (by simp)]
                dsimp only at hC
                exact ⟨it.ds.length - (i + 1), by omega, by omega, st3, mp4, acc, accD, (e2.trans e3).trans e4, S4, hDl4, hDm4, by omega, DRs.ext (e3.trans e4) _ _ hdr, hC⟩
              | true =>
                rw [if_pos rfl]
                dsimp only at hC
                generalize hm : me ρ' st3 = rm at hC
                cases rm with
                | exc _ _ _ => exact hC.elim
                | stuck => exact hC.elim
                | ok y st4 =>
                  simp only [R.quiet, R.bind_ok] at hC
                  refine ⟨ρ', st3, mp4, hE4.ext e4, S4, ?_⟩
                  rw [hm]
                  intro v H5 mp5 e5 S5 hv
                  have hDl5 := e5.keep D _ hDl4 hDm4
                  have hDm5 := e5.out hDl4 hDm4
                  have ov : Ext0 K H5 mp5 (upd H5 D (.lst (acc ++ [v]))) mp5 := Ext0.over hDl5
                  refine ⟨acc, hDl5, by omega, it.ds.length - (i + 1), by omega, by omega, st4, mp5, acc ++ [v], accD ++ [y], (((e2.trans e3).trans e4).trans e5).over hD hDl5, S5.out hDm5 ov, upd_same, hDm5, by simp; omega, ?_, ?_⟩
                  · exact DRs.ext0 ov _ _ ((DRs.ext (e3.trans (e4.trans e5)) _ _ hdr).append (.cons hv .nil))
                  · generalize hr : compL t it.live mc me ρ (it.ds.drop (i + 1)) st4 = rr at hC
                    cases rr with
                    | ok ys st' =>
                      simp only [R.bind_ok] at hC
                      intro H' mp' vs a1 a2 a3 a4 a5
                      exact hC H' mp' vs a1 a2 a3 a4 (by rw [List.append_assoc] at a5; exact a5)
                    | exc c x s => exact absurd hr compL_exc
                    | stuck => exact hC.elim
      · refine .inl ?_
        have hin : i = it.ds.length := by omega
        subst hin
        rw [List.drop_length] at hC
        unfold compL at hC
        by_cases hlv : liveOk it.live st2
        case neg => rw [if_neg hlv] at hC; exact hC.elim
        rw [if_pos hlv] at hC
        exact ⟨wk.stops H2 mp2 st2 e2 S2 hlv, hC H2 mp2 acc e2 S2 hDl hDm (by rw [List.append_nil]; exact hdr)⟩
/-- the list taken into the store -/
theorem tLI_adopt {K : PySem.W.Frag} {m : Env → Sto → R (List D)} {σ : L2.St} {H : Hp} {Q : VK} (h : tE K W (fun ρ st => (m ρ st).bind fun xs st1 => .ok (.loc st1.length) (st1 ++ [.lst xs])) σ H Q) : tLI K W m σ H Q := by
  obtain ⟨ρ, st, mp, hE, S, q⟩ := h
  refine ⟨ρ, st, mp, hE, S, ?_⟩
  dsimp only at q
  generalize m ρ st = r at q ⊢
  cases r with
  | stuck => exact q
  | exc c x st1 => exact q
  | ok xs st1 =>
    rintro v H' mp' ex S' ⟨p, vs, rfl, h0, h1, h2, h3⟩
    obtain ⟨n, e, hn⟩ := id ex.pre
    refine q (.ref p) H' (mp' ++ [p]) ⟨⟨n ++ [p], by rw [e, List.append_assoc], fun a ha hm => ?_⟩, ex.keep, ex.tup, ex.frz⟩ (S'.adopt h2 ⟨vs, h1, DRs.ext0 (.grow p) _ _ h3⟩) (mk_loc (by rw [← S'.len]; simp))
    rcases List.mem_append.mp ha with z | z
    · exact hn a z hm
    · simp at z; subst z; exact h0
variable (hc : X.calm = true) (hN : X.N.Nodup) (hi : PI X tg iter (tI X.K W mi)) (ok : BlkOk X.N X.env.scope scope own) (hown : own.map (·.2) = t.slots)
  (hg : ∀ (s : Shared) (H : Hp) (C : Addr) (cl : List (Str × Addr)) (fp : List Addr), PG (X.blk s H scope (compEnvC scope cl C X.env) fp) tg (gT X.K t))
  (ht : ∀ (s : Shared) (H : Hp) (C : Addr) (cl : List (Str × Addr)) (fp : List Addr), PTs (X.blk s H scope (compEnvC scope cl C X.env) fp) ifs (tT X.K W0 mc))
  (he : ∀ (s : Shared) (H : Hp) (C : Addr) (cl : List (Str × Addr)) (fp : List Addr), PE (X.blk s H scope (compEnvC scope cl C X.env) fp) elt (tE X.K W0 me)) (hs : ∀ x, foldedSetIterable iter X.env x = pure x)
include hc hN hi ok hown hg ht he hs
theorem se_lc : PE X (.ListComp elt [⟨tg, iter, ifs, 0⟩] scope pos) (tLI X.K W fun ρ st => compD t (mi ρ st) mc me ρ) := by
  refine PE.of (pe_lc hc hN hi ok hg ht he hs) fun σ H Q h => ?_
  rw [hown]
  exact tLc_of h
theorem ss_setLc {i : Nat} {y : Str} {py spos : Pos} (hy : X.N[i]? = some y) (hyl : X.env.scope.names.lookup y = some .local) (hsw : swapsWith (.ListComp elt [⟨tg, iter, ifs, 0⟩] scope pos) (some (.Name y py)) spos.line X.env = pure true) :
    PS X (.Assign [.Name y py] (.ListComp elt [⟨tg, iter, ifs, 0⟩] scope pos) spos) (tAsg (tLI X.K W fun ρ st => compD t (mi ρ st) mc me ρ) (gName i)) := by
  refine PS.of (ps_setLc hc hN hy hyl hsw hi ok hg ht he hs) fun D σ H h => ?_
  show tLc _ _ _ _ (own.map (·.2)) σ H _
  rw [hown]
  exact tLc_of h
end
end M1
namespace M1
open PySem PySem.Spec L2
def FP (K : PySem.W.Frag) (H : Hp) (mp : List Addr) (f : F) (D : Ends) (W : WX) : Prop := match f with
  | .nx ρ st => ∀ σ H' mp', Ext K H mp H' mp' → EnvR K H' mp' ρ σ → StoR K H' mp' st → D.nx σ H'
  | .rt d st => ∀ v H' mp', Ext K H mp H' mp' → StoR K H' mp' st → DR K H' mp' d v → D.rt v H'
  | .bk ρ st => ∀ σ H' mp', Ext K H mp H' mp' → EnvR K H' mp' ρ σ → StoR K H' mp' st → D.bk σ H'
  | .exc c x ρ st => ∀ σ dd H' mp', Ext K H mp H' mp' → EnvR K H' mp' ρ σ → StoR K H' mp' st → ExR K H' mp' x dd → W (.ref (cA K c)) dd σ H'
  | .stuck => False
def tS (K : PySem.W.Frag) (W : WX) (m : Env → Sto → F) : TS := fun D σ H => ∃ ρ st mp, EnvR K H mp ρ σ ∧ StoR K H mp st ∧ FP K H mp (m ρ st) D W
section
variable {K : PySem.W.Frag} {H H1 : Hp} {mp mp1 : List Addr} {f : F} {D D' : Ends} {W : WX} {ρ : Env} {σ : L2.St} {st : Sto}
theorem FP.ext (h : FP K H mp f D W) (e : Ext K H mp H1 mp1) : FP K H1 mp1 f D W := by
  cases f with
  | nx ρ st => exact fun σ H' mp' e' => h σ H' mp' (e.trans e')
  | rt d st => exact fun σ H' mp' e' => h σ H' mp' (e.trans e')
  | bk ρ st => exact fun σ H' mp' e' => h σ H' mp' (e.trans e')
  | exc c x ρ st => exact fun σ dd H' mp' e' => h σ dd H' mp' (e.trans e')
  | stuck => exact h
theorem FP.nx (h : FP K H mp (.nx ρ st) D W) (he : EnvR K H mp ρ σ) (S : StoR K H mp st) : D.nx σ H := h σ H mp .refl he S
theorem FP.seq {g : Env → Sto → F} (h : FP K H mp (f.seq g) D W) : FP K H mp f { D with nx := fun σ' H' => tS K W g D σ' H' } W := by
  cases f with
  | nx ρ st => exact fun σ H' mp' e' he S => ⟨ρ, st, mp', he, S, FP.ext (f := g ρ st) h e'⟩
  | rt d st => exact h
  | bk ρ st => exact h
  | exc c x ρ st => exact h
  | stuck => exact h
/-- a step of a statement -/
theorem tG_then {α γ : Type} {r1 : Hp → List Addr → α → γ → Prop} {m1 : Env → Sto → R α} {g : α → Sto → F} {Q1 : γ → Hp → Prop} (he : EnvR K H mp ρ σ) (S : StoR K H mp st) (h : FP K H mp ((m1 ρ st).then ρ g) D W)
    (k : ∀ v H1 a st1 mp1, Ext K H mp H1 mp1 → EnvR K H1 mp1 ρ σ → StoR K H1 mp1 st1 → r1 H1 mp1 a v → FP K H1 mp1 (g a st1) D W → Q1 v H1) : tG K W r1 m1 σ H Q1 := by
  refine ⟨ρ, st, mp, he, S, ?_⟩
  generalize m1 ρ st = r at h ⊢
  cases r with
  | ok a st1 => exact fun v H' mp' e s d => k v H' a st1 mp' e (he.ext e) s d (FP.ext (f := g a st1) h e)
  | exc c x st1 => exact fun dd H' mp' e s x => h σ dd H' mp' e (he.ext e) s x
  | stuck => exact h
/-- the same for a step by values -/
theorem RP_then {α γ : Type} {r1 : Hp → List Addr → α → γ → Prop} {r : R α} {g : α → Sto → F} {Q1 : γ → Hp → Prop} (he : EnvR K H mp ρ σ) (h : FP K H mp (r.then ρ g) D W)
    (k : ∀ v H1 a st1 mp1, Ext K H mp H1 mp1 → EnvR K H1 mp1 ρ σ → StoR K H1 mp1 st1 → r1 H1 mp1 a v → FP K H1 mp1 (g a st1) D W → Q1 v H1) : RP K r1 H mp r Q1 fun c d H' => W c d σ H' := by
  cases r with
  | ok a st1 => exact fun v H' mp' e s d => k v H' a st1 mp' e (he.ext e) s d (FP.ext (f := g a st1) h e)
  | exc c x st1 => exact fun dd H' mp' e s x => h σ dd H' mp' e (he.ext e) s x
  | stuck => exact h
end
section
variable {X : Cx} {W : WX} {pos : Pos}
theorem ss_nil : PSs X [] (tS X.K W fun ρ st => .nx ρ st) := PSs.of pss_nil fun D σ H ⟨ρ, st, mp, he, S, q⟩ => q.nx he S
theorem ss_cons {s : Stmt} {r : List Stmt} {ma mr : Env → Sto → F} (ha : PS X s (tS X.K W ma)) (hr : PSs X r (tS X.K W mr)) : PSs X (s :: r) (tS X.K W fun ρ st => (ma ρ st).seq mr) :=
  PSs.of (pss_cons ha hr) fun D σ H ⟨ρ, st, mp, he, S, q⟩ => ⟨ρ, st, mp, he, S, q.seq⟩
theorem ss_pass : PS X (.Pass pos) (tS X.K W fun ρ st => .nx ρ st) := PS.of ps_pass fun D σ H ⟨ρ, st, mp, he, S, q⟩ => q.nx he S
theorem ss_brk : PS X (.Break pos) (tS X.K W fun ρ st => .bk ρ st) := PS.of ps_break fun D σ H ⟨ρ, st, mp, he, S, q⟩ => q σ H mp .refl he S
theorem ss_ret0 : PS X (.Return none pos) (tS X.K W fun _ st => .rt .non st) := PS.of ps_retN fun D σ H ⟨ρ, st, mp, he, S, q⟩ => q .non H mp .refl S mk_non
theorem ss_ret {e : Expr} {m : Env → Sto → R M1.D} (h : PE X e (tE X.K W m)) : PS X (.Return (some e) pos) (tS X.K W fun ρ st => (m ρ st).then ρ fun d st1 => .rt d st1) :=
  PS.of (ps_ret h) fun D σ H ⟨ρ, st, mp, he, S, q⟩ => tG_then he S q fun v H1 a st1 mp1 e he1 S1 d q1 => q1 v H1 mp1 .refl S1 d
theorem ss_expr {e : Expr} {m : Env → Sto → R M1.D} (h : PE X e (tE X.K W m)) (hs : swapsWith e none pos.line X.env = pure false) : PS X (.Expr e pos) (tS X.K W fun ρ st => (m ρ st).then ρ fun _ st1 => .nx ρ st1) :=
  PS.of (ps_expr h hs) fun D σ H ⟨ρ, st, mp, he, S, q⟩ => tG_then he S q fun v H1 a st1 mp1 e he1 S1 d q1 => q1.nx he1 S1
theorem ss_if {c : Expr} {a b : List Stmt} {mc : Env → Sto → R Bool} {ma mb : Env → Sto → F} (hc : PT X c (tT X.K W mc)) (ha : PSs X a (tS X.K W ma)) (hb : PSs X b (tS X.K W mb)) :
    PS X (.If c a b pos) (tS X.K W fun ρ st => (mc ρ st).then ρ fun k st1 => match k with | true => ma ρ st1 | false => mb ρ st1) :=
  PS.of (ps_if hc ha hb) fun D σ H ⟨ρ, st, mp, he, S, q⟩ => tG_then (r1 := relB) he S q fun v H1 k st1 mp1 e he1 S1 d q1 => by
    subst d
    cases k with
    | true => exact iteT ⟨ρ, st1, mp1, he1, S1, q1⟩
    | false => exact iteF ⟨ρ, st1, mp1, he1, S1, q1⟩
/-- targets, the slots alone -/
theorem asg_of {K : PySem.W.Frag} {H : Hp} {mp : List Addr} {t : T} {d : M1.D} {v : V} {ρ : Env} {σ : L2.St} {st : Sto} {D : Ends} (he : EnvR K H mp ρ σ) (S : StoR K H mp st) (hd : DR K H mp d v) (q : FP K H mp (F.asg (asg t d ρ) st) D W) : gT K t v σ H D.nx := by
  cases e : asg t d ρ with
  | none => rw [e] at q; exact q.elim
  | some ρ' =>
    rw [e] at q
    exact gT_of t d v ρ ρ' σ t.slots D.nx he hd e (fun _ h => h) fun σ' he' _ => q.nx he' S
theorem ss_set {tg e : Expr} {t : T} {m : Env → Sto → R M1.D} (h : PE X e (tE X.K W m)) (hg : PG X tg (gT X.K t)) (hs : swapsWithSole [tg] e pos.line X.env = pure false) (hw : swappedStores [tg] e X.env = pure none)
    (h1 : (assignEach [tg] X.env).map (·.2) = [assign tg X.env]) : PS X (.Assign [tg] e pos) (tS X.K W fun ρ st => (m ρ st).then ρ fun d st1 => .asg (asg t d ρ) st1) :=
  PS.of (ps_asg h hg hs hw h1) fun D σ H ⟨ρ, st, mp, he, S, q⟩ => tG_then he S q fun v H1 a st1 mp1 e he1 S1 d q1 => asg_of he1 S1 d q1
/-- name = comprehension -/
theorem ss_setL {e : Expr} {i : Nat} {y : Str} {py : Pos} {m : Env → Sto → R (List M1.D)} (h : PS X (.Assign [.Name y py] e pos) (tAsg (tLI X.K W m) (gName i))) :
    PS X (.Assign [.Name y py] e pos) (tS X.K W fun ρ st => ((m ρ st).bind fun xs st1 => .ok (.loc st1.length) (st1 ++ [.lst xs])).then ρ fun d st1 => .asg (asg (.one i) d ρ) st1) :=
  PS.of h fun D σ H ⟨ρ, st, mp, he, S, q⟩ => tLI_adopt (m := m) (tG_then (r1 := DR X.K) (Q1 := fun x H1 => gName i x σ H1 D.nx) he S q fun v H1 a st1 mp1 e he1 S1 d q1 => asg_of (t := .one i) he1 S1 d q1)
def rSet3 (K : PySem.W.Frag) : TSet := fun o i v H Q => ∃ E x y z st mp, StoR K H mp st ∧ DR K H mp x o ∧ DR K H mp y i ∧ DR K H mp z v ∧ RP K (fun _ _ _ (_ : Unit) => True) H mp (setSubD x y z st) (fun _ H' => Q H') E
theorem pset3 : PSet X (rSet3 X.K) := fun pins s σ H o i v ov iv u Q I ro ri rv ⟨E, x, y, z, st, mp, S, hx, hy, hz, q⟩ => set_subD I ro ri rv S hx hy hz q
theorem ss_setSub {o i e : Expr} {mo mi me : Env → Sto → R M1.D} {tpos : Pos} (hE : PE X e (tE X.K W me)) (hO : PE X o (tE X.K W mo)) (hI : PE X i (tE X.K W mi))
    (ha : ∀ v, assign (.Subscript o i tpos) X.env v = (do
      let ov ← holding [v] (eval o X.env)
      let iv ← holding [v, ov] (eval i X.env)
      standAt tpos
      holding [v, ov, iv] (setItem ov iv v)
      release [v, ov, iv] [])) (hs : swapsWithSole [.Subscript o i tpos] e pos.line X.env = pure false) (hw : swappedStores [.Subscript o i tpos] e X.env = pure none)
    (h1 : (assignEach [.Subscript o i tpos] X.env).map (·.2) = [assign (.Subscript o i tpos) X.env]) :
    PS X (.Assign [.Subscript o i tpos] e pos) (tS X.K W fun ρ st => (me ρ st).then ρ fun v st1 => (mo ρ st1).then ρ fun x st2 => (mi ρ st2).then ρ fun y st3 => (setSubD x y v st3).then ρ fun _ st4 => .nx ρ st4) :=
  PS.of (ps_asg hE (pg_sub hO hI pset3 ha) hs hw h1) fun D σ H ⟨ρ, st, mp, he, S, q⟩ => tG_then he S q fun v H1 a st1 mp1 e1 he1 S1 d q1 =>
    tG_then he1 S1 q1 fun u H2 x st2 mp2 e2 he2 S2 dx q2 => tG_then he2 S2 q2 fun w H3 y st3 mp3 e3 he3 S3 dy q3 =>
      ⟨_, x, y, a, st3, mp3, S3, DR.ext e3 _ _ dx, dy, DR.ext (e2.trans e3) _ _ d, RP_then he3 q3 fun _ H4 _ st4 mp4 e4 he4 S4 _ q4 => q4.nx he4 S4⟩
theorem ss_setFld {o e : Expr} {c f : Nat} {mo me : Env → Sto → R M1.D} {pos' : Pos} (hf : f < nms.length) (hcl : Cls X.K (cA X.K c)) (hno : NoAttr X.K (cA X.K c) (nm f)) (hE : PE X e (tE X.K W me)) (hO : PE X o (tE X.K W mo))
    (hs : swapsWith e (some (.Attribute o (nm f) pos')) pos.line X.env = pure false) :
    PS X (.Assign [.Attribute o (nm f) pos'] e pos) (tS X.K W fun ρ st => (me ρ st).then ρ fun v st1 => (mo ρ st1).then ρ fun x st2 => (setFldD x c f v st2).then ρ fun _ st3 => .nx ρ st3) :=
  PS.of (ps_fld hO hE hs) fun D σ H ⟨ρ, st, mp, he, S, q⟩ => tG_then he S q fun v H1 a st1 mp1 e1 he1 S1 d q1 =>
    tG_then he1 S1 q1 fun u H2 x st2 mp2 e2 he2 S2 dx q2 => by
      obtain ⟨b, dx', fs, rfl, h1, h2, h3⟩ := rp_setFld (X := X) (E := fun c d H' => W c d σ H') (Q := fun H' => D.nx σ H') hf S2 dx (DR.ext e2 _ _ d) (RP_then he2 q2 fun _ H4 _ st4 mp4 e4 he4 S4 _ q4 => q4.nx he4 S4)
      exact ⟨b, _, dx', fs, rfl, h1, hcl, hno, h2, h3⟩
/-! ### op= -/
def rAug (K : PySem.W.Frag) (o : Bop) : TIp := fun u v H Q => ∃ E x y st mp, StoR K H mp st ∧ DR K H mp x u ∧ DR K H mp y v ∧ RP K (DR K) H mp (augD o x y st) Q E
theorem pip_aug (o : Bop) : PIp X (bop o) (rAug X.K o) := by
  intro pins s σ H u v uu vv Q I ru rv h
  obtain ⟨E, x, y, st, mp, S, hx, hy, q⟩ := h
  cases o with
  | add =>
    cases x with
    | int i => cases y with
      | int j => cases dr_int hx; cases dr_int hy; exact ip_add pins s σ H _ _ uu vv Q I ru rv ⟨i, j, rfl, rfl, RP.ok q S (mk_int _)⟩
      | _ => exact q.elim
    | str a => cases y with
      | str b =>
        cases dr_str hx; cases dr_str hy
        obtain ⟨h1, q⟩ := RP.if (show RP X.K (DR X.K) H mp (okIf (a.length + b.length ≤ sizeLine) (.str (a ++ b)) st) Q E from q)
        exact iop_add_str pins s σ H _ _ uu vv Q I ru rv ⟨_, _, rfl, rfl, by rw [strOf_len, strOf_len]; exact h1, by rw [← strOf_app]; exact q.ok S (mk_str _)⟩
      | _ => exact q.elim
    | _ => exact q.elim
  | sub =>
    cases x with
    | int i => cases y with
      | int j => cases dr_int hx; cases dr_int hy; exact ip_sub pins s σ H _ _ uu vv Q I ru rv ⟨i, j, rfl, rfl, RP.ok q S (mk_int _)⟩
      | _ => exact q.elim
    | _ => exact q.elim
  | _ => exact q.elim
theorem ss_aug {i : Nat} {x : Str} {e : Expr} {o : Bop} {me : Env → Sto → R M1.D} {pos' : Pos} (hN : X.N.Nodup) (hi : X.N[i]? = some x) (hx : Loc X.env.scope x) (hE : PE X e (tE X.K W me)) (hf : X.fn x = true ∨ X.env.scope.names.lookup x = some .local) :
    PS X (.AugAssign (.Name x pos') (bop o) e pos) (tS X.K W fun ρ st => (varD i ρ st).then ρ fun x st1 => (me ρ st1).then ρ fun y st2 => (augD o x y st2).then ρ fun z st3 => .nx (ρ.set i (some z)) st3) :=
  PS.of (ps_aug hN hi hx hE (pip_aug o) hf) fun D σ H ⟨ρ, st, mp, he, S, q⟩ => by
    dsimp only at q
    unfold varD at q
    cases e : ρ[i]? with
    | none => rw [e] at q; exact q.elim
    | some od =>
      rw [e] at q
      cases od with
      | none => exact q.elim
      | some d =>
        obtain ⟨v, h1, h2⟩ := he.2 i d e
        refine ⟨v, h1, tG_then (r1 := DR X.K) he S (show FP X.K H mp ((me ρ st).then ρ fun y st2 => (augD o d y st2).then ρ fun z st3 => .nx (ρ.set i (some z)) st3) D W from q) fun u H1 y st1 mp1 e1 he1 S1 dy q1 => ?_⟩
        exact ⟨_, d, y, st1, mp1, S1, DR.ext e1 _ _ h2, dy, RP_then he1 q1 fun w H2 z st2 mp2 e2 he2 S2 dz q2 => q2.nx (he2.set dz) S2⟩
/-- o[i] by values -/
def rGet (K : PySem.W.Frag) : V → V → Hp → VK → Prop := fun u v H Q => ∃ E n k ds st mp a, StoR K H mp st ∧ mp[n]? = some a ∧ u = .ref a ∧ v = .int k ∧ lstAt st n = some ds ∧ RP K (DR K) H mp (okO (atI ds k) id st) Q E
theorem pget3 : PGet X (rGet X.K) := by
  intro pins s σ H u v uu vv Q I ru rv h
  obtain ⟨E, n, i, ds, st, mp, a, S, ha, rfl, rfl, hl, q⟩ := h
  obtain ⟨d, e2, q⟩ := RP.someO q
  obtain ⟨vs, h1, h2⟩ := lstAt_of S hl ha
  obtain ⟨w, he, h4⟩ := atI_map (P := fun d w => DR X.K H mp d w) h2.length e2 fun j hj => h2.at_ hj
  cases ru
  obtain ⟨t, rfl⟩ := rv
  obtain ⟨its, r, pl, hz⟩ := I.list (SqL.of h1)
  obtain ⟨j, g1, g2, g3, g4, g5⟩ := atI_get he
  obtain ⟨x, ew, rw'⟩ := r.get g2
  have hl := r.length
  have hn := line63
  have fin : EP X pins σ Q x s := ⟨w, H, I, rw', q.ok S h4⟩
  by_cases h0 : 0 ≤ i
  · have hj : i.toNat = j := by
      rw [seqIndex_of h0 g5] at g1
      exact Option.some.inj g1
    exact wpAny_getItem_list pl.isList h0 (by omega) (by rw [hj]; simpa using ew) fin
  · have hj : (i + (its.toArray.size : Int)).toNat = j := by
      rw [seqIndex_neg (by omega) g4] at g1
      rw [List.size_toArray, ← hl]
      exact Option.some.inj g1
    exact wpAny_getItem_list_neg pl.isList (by omega) (by rw [List.size_toArray] <;> omega) (by omega) (by rw [hj]; simpa using ew) fin
theorem rp_get {K : PySem.W.Frag} {x y : M1.D} {u v : V} {H : Hp} {mp : List Addr} {st : Sto} {Q : VK} {E : XK} (S : StoR K H mp st) (hx : DR K H mp x u) (hy : DR K H mp y v) (q : RP K (DR K) H mp (subLst x y st) Q E) : rGet K u v H Q := by
  cases x with
  | loc n =>
    cases y with
    | int k =>
      obtain ⟨a, ha, rfl⟩ := dr_loc hx
      cases dr_int hy
      unfold subLst at q
      dsimp only at q
      cases e : lstAt st n with
      | none => rw [e] at q; exact q.elim
      | some ds => rw [e] at q; exact ⟨E, n, k, ds, st, mp, a, S, ha, rfl, rfl, e, q⟩
    | _ => exact q.elim
  | _ => exact q.elim
theorem ss_augSub {o i e : Expr} {op : Bop} {mo mi me : Env → Sto → R M1.D} {tpos : Pos} (hO : PE X o (tE X.K W mo)) (hI : PE X i (tE X.K W mi)) (hE : PE X e (tE X.K W me))
    (ha : ∀ ov iv new, augStore i ov iv new = (do holding [new, ov, iv] (setItem ov iv new); release [new, ov, iv] []; pure .next)) :
    PS X (.AugAssign (.Subscript o i tpos) (bop op) e pos) (tS X.K W fun ρ st => (mo ρ st).then ρ fun a st1 => (mi ρ st1).then ρ fun k st2 => (subLst a k st2).then ρ fun x st3 => (me ρ st3).then ρ fun y st4 => (augD op x y st4).then ρ fun z st5 => (setSubD a k z st5).then ρ fun _ st6 => .nx ρ st6) :=
  PS.of (ps_augS hO hI pget3 hE (pip_aug op) pset3 ha) fun D σ H ⟨ρ, st, mp, he, S, q⟩ => tG_then he S q fun u H1 a st1 mp1 e1 he1 S1 da q1 =>
    tG_then he1 S1 q1 fun v H2 k st2 mp2 e2 he2 S2 dk q2 => rp_get (E := fun c d H' => W c d σ H') S2 (DR.ext e2 _ _ da) dk (RP_then he2 q2 fun w H3 x st3 mp3 e3 he3 S3 dx q3 =>
      tG_then he3 S3 q3 fun w2 H4 y st4 mp4 e4 he4 S4 dy q4 => ⟨_, x, y, st4, mp4, S4, DR.ext e4 _ _ dx, dy, RP_then he4 q4 fun w3 H5 z st5 mp5 e5 he5 S5 dz q5 =>
        ⟨_, a, k, z, st5, mp5, S5, DR.ext (e2.trans (e3.trans (e4.trans e5))) _ _ da, DR.ext (e3.trans (e4.trans e5)) _ _ dk, dz, RP_then he5 q5 fun _ H6 _ st6 mp6 e6 he6 S6 _ q6 => q6.nx he6 S6⟩⟩)
theorem inop_aug (o : Bop) : InOp X (bop o) (rAug X.K o) := pip_aug o
theorem ss_augFld {o e : Expr} {c f : Nat} {op : Bop} {mo me : Env → Sto → R M1.D} {tpos : Pos} (hf : f < nms.length) (hcl : Cls X.K (cA X.K c)) (hno : NoAttr X.K (cA X.K c) (nm f)) (hO : PE X o (tE X.K W mo)) (hE : PE X e (tE X.K W me)) :
    PS X (.AugAssign (.Attribute o (nm f) tpos) (bop op) e pos) (tS X.K W fun ρ st => (mo ρ st).then ρ fun a st1 => (fldD a c f st1).then ρ fun x st3 => (me ρ st3).then ρ fun y st4 => (augD op x y st4).then ρ fun z st5 => (setFldD a c f z st5).then ρ fun _ st6 => .nx ρ st6) :=
  PS.of (ps_fldaug hO hE (inop_aug op)) fun D σ H ⟨ρ, st, mp, he, S, q⟩ => tG_then he S q fun u H1 a st1 mp1 e1 he1 S1 da q1 => by
    cases a with
    | loc n =>
      obtain ⟨b, hb, rfl⟩ := dr_loc da
      obtain ⟨b', dx, fs, v, hbb, h1, h2, h3⟩ := rp_fld (X := X) (E := fun c d H' => W c d σ H') (Q := fun v H' => tE X.K W me σ H' fun y H2 => rAug X.K op v y H2 fun z H3 => ∃ dx' fs', H3 b = some (.ins (cA X.K c) dx' fs') ∧ fs'.length < 1000 ∧ D.nx σ (upd H3 b (.ins (cA X.K c) dx' (putF (nm f) z fs')))) hf S1 da
        (RP_then he1 q1 fun w H3 x st3 mp3 e3 he3 S3 dx q3 => tG_then he3 S3 q3 fun w2 H4 y st4 mp4 e4 he4 S4 dy q4 => ⟨_, x, y, st4, mp4, S4, DR.ext e4 _ _ dx, dy, RP_then he4 q4 fun w3 H5 z st5 mp5 e5 he5 S5 dz q5 => by
          obtain ⟨b2, dx', fs', h4, h5, h6, h7⟩ := rp_setFld (X := X) (E := fun c d H' => W c d σ H') (Q := fun H' => D.nx σ H') hf S5 (mk_loc (e5.get (e4.get (e3.get hb)))) dz (RP_then he5 q5 fun _ H6 _ st6 mp6 e6 he6 S6 _ q6 => q6.nx he6 S6)
          cases h4
          exact ⟨dx', fs', h5, h6, h7⟩⟩)
      cases hbb
      exact ⟨b, _, dx, fs, v, rfl, h1, hcl, hno, h2, h3⟩
    | _ => exact q1.elim
/-! ### loops -/
theorem ss_for {tg iter : Expr} {body : List Stmt} {t : T} {mi : Env → Sto → R M1.Its} {mb : Env → Sto → F} (hp : PassesOwn (model X.prog X.w) X.A X.env X.xe) (hc : X.calm = true) (hi : PI X tg iter (tI X.K W mi)) (hg : PG X tg (gT X.K t)) (hb : PSs X body (tS X.K W mb)) (hs : ∀ x, foldedSetIterable iter X.env x = pure x) :
    PS X (.For tg iter body [] pos) (tS X.K W fun ρ st => (mi ρ st).then ρ fun i st1 => forF t i.live mb i.ds ρ st1) :=
  PS.of (ps_for hp hc hi hg hb hs) fun D σ H ⟨ρ, st, mp, he, S, q⟩ => tG_then (r1 := fun H' mp' it J => WalkR X.K J it H' mp') he S q fun J H1 it st1 mp1 e1 he1 S1 wk q1 => by
    refine ⟨fun i m σ H' => m + i = it.ds.length ∧ ∃ ρ st mp, Ext X.K H1 mp1 H' mp ∧ EnvR X.K H' mp ρ σ ∧ StoR X.K H' mp st ∧ FP X.K H' mp (forF t it.live mb (it.ds.drop i) ρ st) D W, ⟨it.ds.length, by simp, ρ, st1, mp1, .refl, he1, S1, by rw [List.drop_zero]; exact q1⟩, ?_⟩
    rintro i m σ2 H2 ⟨hmi, ρ2, st2, mp2, e2, he2, S2, q2⟩
    by_cases hi : i < it.ds.length
    · refine .inr ?_
      rw [List.drop_eq_getElem_cons hi] at q2
      unfold forF at q2
      by_cases hlv : liveOk it.live st2
      case neg => rw [if_neg hlv] at q2; exact q2.elim
      rw [if_pos hlv] at q2
      refine ⟨wk.goes i H2 mp2 st2 e2 S2 hlv hi, fun σ' H' => ∃ m', m' < m ∧ (m' + (i + 1) = it.ds.length ∧ ∃ ρ st mp, Ext X.K H1 mp1 H' mp ∧ EnvR X.K H' mp ρ σ' ∧ StoR X.K H' mp st ∧ FP X.K H' mp (forF t it.live mb (it.ds.drop (i + 1)) ρ st) D W), fun _ _ h => h, fun x H3 hy => ?_⟩
      obtain ⟨e3, S3, d, hd, hx⟩ := wk.yields i H2 mp2 st2 x H3 e2 S2 hlv hi hy
      rw [List.getElem?_eq_getElem hi] at hd
      cases hd
      generalize ha : asg t it.ds[i] ρ2 = oρ at q2
      cases oρ with
      | none => exact q2.elim
      | some ρ' =>
        dsimp only at q2
        refine gT_of t _ x ρ2 ρ' σ2 t.slots _ (he2.ext e3) hx ha (fun _ h => h) fun σ3 he3 _ => ⟨ρ', st2, mp2, he3, S3, ?_⟩
        generalize mb ρ' st2 = r at q2
        cases r with
        | nx ρ4 st4 => exact fun σ4 H4 mp4 e4 he4 S4 => ⟨it.ds.length - (i + 1), by omega, by omega, ρ4, st4, mp4, (e2.trans e3).trans e4, he4, S4, FP.ext (f := forF t it.live mb (it.ds.drop (i + 1)) ρ4 st4) q2 (e3.trans e4)⟩
        | bk ρ4 st4 => exact fun σ4 H4 mp4 e4 he4 S4 => q2 σ4 H4 mp4 (e3.trans e4) he4 S4
        | rt d st4 => exact fun v H4 mp4 e4 S4 hd => q2 v H4 mp4 (e3.trans e4) S4 hd
        | exc c x ρ4 st4 => exact fun σ4 dd H4 mp4 e4 he4 S4 hx => q2 σ4 dd H4 mp4 (e3.trans e4) he4 S4 hx
        | stuck => exact q2
    · refine .inl ?_
      have hin : i = it.ds.length := by omega
      subst hin
      rw [List.drop_length] at q2
      unfold forF at q2
      by_cases hlv : liveOk it.live st2
      case neg => rw [if_neg hlv] at q2; exact q2.elim
      rw [if_pos hlv] at q2
      exact ⟨wk.stops H2 mp2 st2 e2 S2 hlv, q2.nx he2 S2⟩
theorem ss_while {c : Expr} {body : List Stmt} {mc : Env → Sto → R Bool} {mb : Env → Sto → F} (hp : PassesOwn (model X.prog X.w) X.A X.env X.xe) (hc : PT X c (tT X.K W mc)) (hb : PSs X body (tS X.K W mb)) :
    PS X (.While c body [] pos) (tS X.K W (whileF mc mb)) :=
  PS.of (ps_while hp hc hb) fun D σ H ⟨ρ, st, mp, he, S, q⟩ => by
    unfold whileF at q
    by_cases hex : ∃ n f, whileN mc mb n ρ st = some f
    case neg => rw [dif_neg hex] at q; exact q.elim
    rw [dif_pos hex] at q
    have hw := hex.choose_spec.choose_spec
    generalize hex.choose_spec.choose = f at q hw
    generalize hex.choose = n at hw
    refine ⟨fun m σ H => ∃ ρ st mp f, EnvR X.K H mp ρ σ ∧ StoR X.K H mp st ∧ whileN mc mb m ρ st = some f ∧ FP X.K H mp f D W, ⟨n, ρ, st, mp, f, he, S, hw, q⟩, ?_⟩
    rintro m σ2 H2 ⟨ρ2, st2, mp2, f2, he2, S2, hw2, q2⟩
    cases m with
    | zero => cases hw2
    | succ m =>
      unfold whileN at hw2
      refine ⟨ρ2, st2, mp2, he2, S2, ?_⟩
      generalize mc ρ2 st2 = r at hw2 ⊢
      cases r with
      | exc c x st3 =>
        cases hw2
        exact fun dd H' mp' e s x => q2 σ2 dd H' mp' e (he2.ext e) s x
      | stuck => cases hw2
      | ok b st3 =>
        rintro b' H3 mp3 e3 S3 rfl
        cases b with
        | false =>
          cases hw2
          exact iteF (q2 σ2 H3 mp3 e3 (he2.ext e3) S3)
        | true =>
          refine iteT ⟨fun σ' H' => ∃ m', m' < m + 1 ∧ ∃ ρ st mp f, EnvR X.K H' mp ρ σ' ∧ StoR X.K H' mp st ∧ whileN mc mb m' ρ st = some f ∧ FP X.K H' mp f D W, fun _ _ h => h, ρ2, st3, mp3, he2.ext e3, S3, ?_⟩
          dsimp only at hw2
          generalize mb ρ2 st3 = r at hw2 ⊢
          cases r with
          | nx ρ4 st4 => exact fun σ4 H4 mp4 e4 he4 S4 => ⟨m, Nat.lt_succ_self _, ρ4, st4, mp4, f2, he4, S4, hw2, FP.ext q2 (e3.trans e4)⟩
          | bk ρ4 st4 => cases hw2; exact fun σ4 H4 mp4 e4 he4 S4 => q2 σ4 H4 mp4 (e3.trans e4) he4 S4
          | rt d st4 => cases hw2; exact fun v H4 mp4 e4 S4 hd => q2 v H4 mp4 (e3.trans e4) S4 hd
          | exc c x ρ4 st4 => cases hw2; exact fun σ4 dd H4 mp4 e4 he4 S4 hx => q2 σ4 dd H4 mp4 (e3.trans e4) he4 S4 hx
          | stuck => cases hw2
end
end M1
namespace M1
open PySem PySem.Spec L2
/-- a def's promise -/
def spM (K : PySem.W.Frag) (np : Nat) (f : Fn) : Sp := fun vs H Q E => vs.length = np ∧ ∃ xs st mp, StoR K H mp st ∧ DRs K H mp xs vs ∧ RP K (DR K) H mp (f xs st) Q E
def Strict (np : Nat) (f : Fn) : Prop := ∀ xs st, xs.length ≠ np → f xs st = .stuck
theorem spM_of {K : PySem.W.Frag} {np : Nat} {f : Fn} (s : Strict np f) {vs : List V} {H : Hp} {Q : VK} {E : XK} {xs : List D} {st : Sto} {mp : List Addr} (S : StoR K H mp st) (hd : DRs K H mp xs vs) (q : RP K (DR K) H mp (f xs st) Q E) : spM K np f vs H Q E := by
  refine ⟨?_, xs, st, mp, S, hd, q⟩
  rw [← hd.length]
  by_cases h : xs.length = np
  · exact h
  · rw [s xs st h] at q; exact q.elim
/-- the promise of an own exception's __init__ -/
def spAt (C : Addr) : Sp := fun vs H Q _ => ∃ a v, vs = [.ref a, v] ∧ H a = some (exo a C none) ∧ ∀ dx, H dx = none → dx ≠ a → Q .non (upd (upd H dx (exd dx [(nm 9, v)])) a (exo a C (some dx)))
/-- what is asked of the program's text by a def's body -/
structure ExF (K : PySem.W.Frag) (e : Nat) : Prop where
  cls : (PySem.W.clsIn K (cA K e)).isSome = true
  ga : PySem.W.findIn K (.ref (cA K e)) "__getattribute__" = some (some (.builtin "BaseException.__getattribute__"))
  gg : PySem.W.findIn K (.ref (cA K e)) "__getattr__" = some none
  sub : PySem.W.subIn K (.ref (cA K e)) (.type "BaseException") = some true
  hd : PySem.W.hasDictIn K (cA K e) = true
  ha : PySem.W.findIn K (.ref (cA K e)) "__class__" = some (some (.builtin "object.__class__"))
  hn : PySem.W.specialIn K (.builtin "object.__class__") "__get__" = some (some (.builtin "getset_descriptor.__get__"))
  ht : PySem.W.takesIn K (.builtin "object.__class__") = some true
  hm : PySem.W.mroIn K (cA K e) (.type "object") = some true
  no : PySem.W.findIn K (.ref (cA K e)) (nm 9) = some none
  ex : ∀ c ∈ exNs, PySem.W.exmOne K (.ref (cA K e)) (.ref (cA K c)) = some (subC e c)
  ki : ∀ c ∈ exNs, PySem.W.kitOne K (.ref (cA K e)) (.ref (cA K c)) = some (subC e c)
  kv : PySem.W.kitOne K (.ref (cA K e)) (.type "ValueError") = some true
inductive Ref where
  | exs | fn (x : Str) (f : Fn) | mt (c : Nat) (m : Str) (f : Fn) | mk (c : Nat) (f : Fn) | fld (c f : Nat) | gi (x : Str) (i : Int) | gs (x : Str) (z : List Nat) | ex0 (c : Nat) | ex1 (c : Nat)
structure Cx1 where
  P : Program
  w : World
  K : PySem.W.Frag
  mg : Str → Option Value
  base : Heap
def cxX (X : Cx) : Cx1 := ⟨X.prog, X.w, X.K, X.mg, X.base⟩
def RefOk (G : Cx1) (lev : Nat) : Ref → Prop
  | .exs => (∀ c ∈ exNs, G.mg (nm c) = some (.ref (cA G.K c))) ∧ G.mg "ValueError" = none ∧ ∀ e ∈ exNs, ExF G.K e
  | .fn x f => ∃ fa fd ps, Strict ps.length f ∧ G.mg x = some (.ref fa) ∧ PySem.W.keepIn G.K (.ref fa) = true ∧ FnOk G.P G.w G.K G.mg G.base (L2.CX G.P G.w) lev fa fd ps (spM G.K ps.length f) ∧ Binds G.K fd ps []
  | .mt c m f => (∀ i, i < nms.length → nm i ≠ m) ∧ Cls G.K (cA G.K c) ∧ ∃ fa fd ps, Strict ps.length f ∧ Meth G.K (cA G.K c) m fa ∧ FnOk G.P G.w G.K G.mg G.base (L2.CX G.P G.w) lev fa fd ps (spM G.K ps.length f) ∧ Binds G.K fd ps []
  | .mk c f => G.mg (nm c) = some (.ref (cA G.K c)) ∧ ∃ fa fd ps j, j + 1 ≤ lev ∧ Strict ps.length f ∧ Mk G.K (cA G.K c) fa ∧ FnOk G.P G.w G.K G.mg G.base (L2.CX G.P G.w) j fa fd ps (spM G.K ps.length f) ∧ Binds G.K fd ps []
  | .fld c f => f < nms.length ∧ Cls G.K (cA G.K c) ∧ NoAttr G.K (cA G.K c) (nm f)
  | .gi x i => ∃ t, G.mg x = some (.int i t)
  | .gs x z => ∃ t, G.mg x = some (.str (strOf z) t)
  | .ex0 c => G.mg (nm c) = some (.ref (cA G.K c)) ∧ PySem.W.excIn G.K (cA G.K c) He.veBase "ValueError.__new__" = true ∧ PySem.W.keepIn G.K (.ref (cA G.K c)) = true ∧ PySem.W.subIn G.K (.ref (cA G.K c)) (.type "BaseException") = some true ∧ PySem.W.typeIn G.K (.ref (cA G.K c)) = some (.type "type")
  | .ex1 c => G.mg (nm c) = some (.ref (cA G.K c)) ∧ OexC G.K (cA G.K c) ∧ ∃ fI fd ps j, j + 1 ≤ lev ∧ PySem.W.findIn G.K (.ref (cA G.K c)) "__init__" = some (some (.ref fI)) ∧ PySem.W.typeIn G.K (.ref fI) = some (.type "function") ∧
      FnOk G.P G.w G.K G.mg G.base (L2.CX G.P G.w) j fI fd ps (spAt (cA G.K c)) ∧ Binds G.K fd ps []
section
variable {X : Cx} {W : WX} {pos p : Pos} {lev : Nat} {es : List Expr} {ma : Env → Sto → R (List M1.D)}
theorem run_M {np : Nat} {f : Fn} {fa : Addr} {fd : FuncData} {ps : List Str} (F : FnOk X.prog X.w X.K X.mg X.base (L2.CX X.prog X.w) lev fa fd ps (spM X.K np f)) (s : Strict np f) (hr : Room lev X.A) (hb : Binds X.K fd ps []) (tk : Takes X W)
    {pins : List (Addr × Obj)} {st : Shared} {σ : L2.St} {H : Hp} {Q : VK} {us : List Value} {vs : List V} {xs : List M1.D} {sto : Sto} {mp : List Addr} (I : Inv X pins σ H st) (r : Vals vs us) (S : StoR X.K H mp sto) (hd : DRs X.K H mp xs vs)
    (q : RP X.K (DR X.K) H mp (f xs sto) Q fun c d H' => W c d σ H') : wpAny (model X.prog X.w) X.A (call (.ref fa) us) (EP X pins σ Q) X.xe st :=
  run_fnS (E := WE W) F hr hb (passAt tk σ) I r (spM_of s S hd q)
theorem se_call {x : Str} {f : Fn} {e : Expr} (h : RefOk (cxX X) lev (.fn x f)) (hr : Room lev X.A) (tk : Takes X W) (hg : Gl X x) (ha : PA X (e :: es) (tA X.K W ma)) (hdb : (x == ("__debug__" : Str)) = false)
    (he : starEach (e :: es) X.env = (false, eval e X.env) :: starEach es X.env) (hpl : (backTo pos (starEach es X.env)).any (·.1) = false) :
    PE X (.Call (.Name x p) (e :: es) [] pos) (tE X.K W fun ρ st => (ma ρ st).bind fun xs st1 => f xs st1) := by
  obtain ⟨fa, fd, ps, s, hm, hk, F, hb⟩ := h
  refine ⟨fun pins st σ H Q I ⟨ρ, sto, mp, hE, S, q⟩ => ?_⟩
  refine wpAny_Call_Name_kw (ld_glob I hg hm ?_ hdb)
  refine PySem.W.callWith_K (h₀ := X.base) I.ok.mod.kin hk (thn (ha.run pos pins st σ H _ I ⟨ρ, sto, mp, hE, S, q.bind⟩) fun us s1 ⟨vs, H1, I1, r, xs, st1, mp1, ex, S1, hd, q1⟩ => ⟨I1.kIn, ?_⟩) he hpl
  exact run_M F s hr hb tk I1 r S1 hd q1
theorem se_call0 {x : Str} {f : Fn} (h : RefOk (cxX X) lev (.fn x f)) (hr : Room lev X.A) (tk : Takes X W) (hg : Gl X x) (hdb : (x == ("__debug__" : Str)) = false) :
    PE X (.Call (.Name x p) [] [] pos) (tE X.K W fun ρ st => f [] st) := by
  obtain ⟨fa, fd, ps, s, hm, hk, F, hb⟩ := h
  refine ⟨fun pins st σ H Q I ⟨ρ, sto, mp, hE, S, q⟩ => ?_⟩
  refine wpAny_Call_Name_kw (ld_glob I hg hm ?_ hdb)
  exact PySem.W.callWith_K0 I.kIn hk (run_M F s hr hb tk I .nil S .nil q)
/-! ### methods -/
theorem selfD_of {K : PySem.W.Frag} {c : Nat} {x : M1.D} {u : V} {H : Hp} {mp : List Addr} {st : Sto} {k : Sto → R M1.D} {Q : VK} {E : XK} (S : StoR K H mp st) (hx : DR K H mp x u) (q : RP K (DR K) H mp (selfD c x st k) Q E) :
    ∃ a dx fs fvs, u = .ref a ∧ H a = some (.ins (cA K c) dx fvs) ∧ FRs K H mp fs fvs ∧ RP K (DR K) H mp (k st) Q E := by
  cases x with
  | loc n =>
    obtain ⟨a, ha, rfl⟩ := dr_loc hx
    unfold selfD at q
    dsimp only at q
    cases e : insAt st n c with
    | none => rw [e] at q; exact q.elim
    | some fs =>
      rw [e] at q
      obtain ⟨dx, vs, h1, h2⟩ := insAt_of S e ha
      exact ⟨a, dx, fs, vs, rfl, h1, h2, q⟩
  | _ => exact q.elim
theorem se_meth {o e : Expr} {m : Str} {c : Nat} {f : Fn} {apos : Pos} {mo : Env → Sto → R M1.D} (h : RefOk (cxX X) lev (.mt c m f)) (hr : Room lev X.A) (tk : Takes X W) (hO : PE X o (tE X.K W mo)) (ha : PA X (e :: es) (tA X.K W ma))
    (he : starEach (e :: es) X.env = (false, eval e X.env) :: starEach es X.env) (hpl : (backTo pos (starEach es X.env)).any (·.1) = false)
    (hb : attributeBase o m X.env (eval o X.env) = eval o X.env) (hf : methodCallForm ((e :: es).length + ([] : List Keyword).length) (backTo pos (starEach (e :: es) X.env)) (backToKw pos (keywordEach [] X.env)) = true) (hl : (apos.endLine == pos.line) = true) :
    PE X (.Call (.Attribute o m apos) (e :: es) [] pos) (tE X.K W fun ρ st => (mo ρ st).bind fun x st1 => selfD c x st1 fun st1 => (ma ρ st1).bind fun xs st2 => f (x :: xs) st2) := by
  obtain ⟨hnm, hcl, fa, fd, ps, s, hm, F, hbn⟩ := h
  refine ⟨fun pins st σ H Q I ⟨ρ, sto, mp, hE, S, q⟩ => ?_⟩
  refine PySem.W.methodCall_KW (pl := plainOf o X.env) (thn (hO.run pins st σ H _ I ⟨ρ, sto, mp, hE, S, q.bind⟩) fun u s1 ⟨x, H1, I1, rx, d, st1, mp1, ex, S1, hd, q1⟩ => ?_) (by
    show (do let ov ← attributeBase o m X.env (eval o X.env); standAt apos.atName; methodCall o m apos pos X.env ov _ _ _) = _
    rw [hb]
    simp only [mcall_line hf hl])
  dsimp only at q1
  obtain ⟨a, dx, fs, fvs, rfl, ea, hfs, q2⟩ := selfD_of S1 hd q1
  obtain rfl : u = Value.ref a := rx
  refine getmeth_ok I1 ea hcl hm (FRs.look_none (m := m) hnm hfs) ?_
  refine PySem.W.callWith_K (first := [.ref a]) (h₀ := X.base) I.ok.mod.kin hm.kp (thn (ha.run pos pins s1 σ H1 _ I1 ⟨ρ, st1, mp1, hE.ext ex, S1, q2.bind⟩) fun us s2 ⟨vs, H2, I2, r, xs, st2, mp2, ex2, S2, hd2, q3⟩ => ⟨I2.kIn, ?_⟩) he hpl
  exact run_M (us := .ref a :: us) (vs := .ref a :: vs) F s hr hbn tk I2 (.cons rfl r) S2 (.cons (DR.ext ex2 _ _ hd) hd2) q3
theorem se_meth0 {o : Expr} {m : Str} {c : Nat} {f : Fn} {apos : Pos} {mo : Env → Sto → R M1.D} (h : RefOk (cxX X) lev (.mt c m f)) (hr : Room lev X.A) (tk : Takes X W) (hO : PE X o (tE X.K W mo))
    (hb : attributeBase o m X.env (eval o X.env) = eval o X.env) (hl : (apos.endLine == pos.line) = true) :
    PE X (.Call (.Attribute o m apos) [] [] pos) (tE X.K W fun ρ st => (mo ρ st).bind fun x st1 => selfD c x st1 fun st1 => f [x] st1) := by
  obtain ⟨hnm, hcl, fa, fd, ps, s, hm, F, hbn⟩ := h
  refine ⟨fun pins st σ H Q I ⟨ρ, sto, mp, hE, S, q⟩ => ?_⟩
  refine PySem.W.methodCall_KW (pl := plainOf o X.env) (thn (hO.run pins st σ H _ I ⟨ρ, sto, mp, hE, S, q.bind⟩) fun u s1 ⟨x, H1, I1, rx, d, st1, mp1, ex, S1, hd, q1⟩ => ?_) (by
    show (do let ov ← attributeBase o m X.env (eval o X.env); standAt apos.atName; methodCall o m apos pos X.env ov _ _ _) = _
    rw [hb]
    have hf : methodCallForm (([] : List Expr).length + ([] : List Keyword).length) (backTo pos (starEach [] X.env)) (backToKw pos (keywordEach [] X.env)) = true := by rfl
    simp only [mcall_line hf hl])
  dsimp only at q1
  obtain ⟨a, dx, fs, fvs, rfl, ea, hfs, q2⟩ := selfD_of S1 hd q1
  obtain rfl : u = Value.ref a := rx
  refine getmeth_ok I1 ea hcl hm (FRs.look_none (m := m) hnm hfs) ?_
  exact PySem.W.callWith_K0 I1.kIn hm.kp (run_M (us := [.ref a]) (vs := [.ref a]) F s hr hbn tk I1 (.cons rfl .nil) S1 (.cons hd .nil) q2)
/-! ### a new instance -/
theorem make_M {c : Nat} {f : Fn} (h : RefOk (cxX X) lev (.mk c f)) (hr : Room lev X.A) (tk : Takes X W) {pins : List (Addr × Obj)} {st : Shared} {σ : L2.St} {H : Hp} {Q : VK} {us : List Value} {vs : List V} {xs : List M1.D} {sto : Sto} {mp : List Addr}
    (I : Inv X pins σ H st) (r : Vals vs us) (S : StoR X.K H mp sto) (hd : DRs X.K H mp xs vs) (q : RP X.K (DR X.K) H mp (makeD f c xs sto) Q fun c d H' => W c d σ H') : wpAny (model X.prog X.w) X.A (call (.ref (cA X.K c)) us) (EP X pins σ Q) X.xe st := by
  obtain ⟨hm, fa, fd, ps, j, hj, s, M, F, hb⟩ := h
  -- as run_make, the wish at these slots
  have core : ∀ x dx, H x = none → H dx = none → dx ≠ x → spM X.K ps.length f (.ref x :: vs) (upd (upd H dx (.own x)) x (.ins (cA X.K c) dx [])) (fun v H2 => v = .non ∧ Q (.ref x) H2) (WE W σ) := by
    intro x dx hx hdx hne
    have e1 : Ext X.K H mp (upd H dx (.own x)) mp := Ext.fresh hdx
    have S1 := S.fresh (o := .own x) hdx
    have hx1 : upd H dx (.own x) x = none := by rw [upd_ne (Ne.symm hne)]; exact hx
    have e2 : Ext X.K (upd H dx (.own x)) mp (upd (upd H dx (.own x)) x (.ins (cA X.K c) dx [])) (mp ++ [x]) := Ext.push hx1
    have S2 : StoR X.K (upd (upd H dx (.own x)) x (.ins (cA X.K c) dx [])) (mp ++ [x]) (sto ++ [.ins c []]) := S1.push hx1 ⟨dx, [], upd_same, rfl⟩
    have hloc : (mp ++ [x])[sto.length]? = some x := by rw [← S.len]; simp
    refine spM_of s S2 (.cons (mk_loc hloc) (DRs.ext (e1.trans e2) _ _ hd)) ?_
    unfold makeD at q
    have q' := RP.ext q (e1.trans e2)
    refine (RP.bind (r1 := DR X.K) q').mono fun v H3 ⟨d, st3, mp3, e3, S3, hd3, q3⟩ => ?_
    dsimp only at q3
    cases d with
    | non =>
      cases dr_non hd3
      exact ⟨rfl, RP.ok q3 S3 (mk_loc (e3.get hloc))⟩
    | _ => exact q3.elim
  have hr1 : Room (j + 1) X.A := hr.mono hj
  have hq := core (st.heap.objs.size + 1) st.heap.objs.size (I.hok.fresh (Nat.le_succ _)) (I.hok.fresh (Nat.le_refl _)) (Nat.ne_of_lt (Nat.lt_succ_self _))
  have I2 := Inv.made (C := cA X.K c) I
  have r2 : Vals (V.ref (st.heap.objs.size + 1) :: vs) (Value.ref (st.heap.objs.size + 1) :: us) := .cons rfl r
  have hl : (Value.ref (st.heap.objs.size + 1) :: us ++ []).length = ps.length := by
    have e := r2.length
    rw [F.len _ _ _ _ hq] at e
    rw [List.append_nil]
    exact e.symm
  have hbb := hb _ (Value.ref (st.heap.objs.size + 1) :: us) I2.kIn hl
  rw [List.append_nil] at hbb
  refine wpAny_call (make_map (f := fa) I.kIn M.makes M.init (beq_iff_eq.mp M.fn) (codeAny_mono (F.run _ X.stack _ _ ⟨Value.ref (st.heap.objs.size + 1) :: us, []⟩ (Value.ref (st.heap.objs.size + 1) :: us) _ _ (WE W σ) (hr1.make (cA X.K c) us [])
    (I2.env0.make (cA X.K c) us []) hbb r2 hq) fun r s' hq' => ?_))
  cases r with
  | error e => exact passAt tk σ pins _ _ e s' I2 hq'
  | ok fl =>
    cases fl with
    | ret u =>
      obtain ⟨v, H', I3, rv, ev, q3⟩ := I2.after hq'
      subst ev
      exact ⟨rv, ⟨V.ref (st.heap.objs.size + 1), H', I3, rfl, q3⟩⟩
    | next => exact False.elim hq'
    | brk => exact False.elim hq'
    | cont => exact False.elim hq'
theorem se_make {c : Nat} {f : Fn} {e : Expr} (h : RefOk (cxX X) lev (.mk c f)) (hr : Room lev X.A) (tk : Takes X W) (hg : Gl X (nm c)) (ha : PA X (e :: es) (tA X.K W ma)) (hdb : (nm c == ("__debug__" : Str)) = false)
    (he : starEach (e :: es) X.env = (false, eval e X.env) :: starEach es X.env) (hpl : (backTo pos (starEach es X.env)).any (·.1) = false) :
    PE X (.Call (.Name (nm c) p) (e :: es) [] pos) (tE X.K W fun ρ st => (ma ρ st).bind fun xs st1 => makeD f c xs st1) := by
  obtain ⟨hm, fa, fd, ps, j, hj, s, M, F, hb⟩ := id h
  refine ⟨fun pins st σ H Q I ⟨ρ, sto, mp, hE, S, q⟩ => ?_⟩
  refine wpAny_Call_Name_kw (ld_glob I hg hm ?_ hdb)
  refine PySem.W.callWith_K (h₀ := X.base) I.ok.mod.kin M.kp (thn (ha.run pos pins st σ H _ I ⟨ρ, sto, mp, hE, S, q.bind⟩) fun us s1 ⟨vs, H1, I1, r, xs, st1, mp1, ex, S1, hd, q1⟩ => ⟨I1.kIn, ?_⟩) he hpl
  exact make_M h hr tk I1 r S1 hd q1
theorem se_make0 {c : Nat} {f : Fn} (h : RefOk (cxX X) lev (.mk c f)) (hr : Room lev X.A) (tk : Takes X W) (hg : Gl X (nm c)) (hdb : (nm c == ("__debug__" : Str)) = false) :
    PE X (.Call (.Name (nm c) p) [] [] pos) (tE X.K W fun ρ st => makeD f c [] st) := by
  obtain ⟨hm, fa, fd, ps, j, hj, s, M, F, hb⟩ := id h
  refine ⟨fun pins st σ H Q I ⟨ρ, sto, mp, hE, S, q⟩ => ?_⟩
  refine wpAny_Call_Name_kw (ld_glob I hg hm ?_ hdb)
  exact PySem.W.callWith_K0 I.kIn M.kp (make_M h hr tk I .nil S .nil q)
/-! ### raise -/
theorem raises_ex {c : Nat} (h1 : PySem.W.subIn X.K (.ref (cA X.K c)) (.type "BaseException") = some true) (h2 : PySem.W.typeIn X.K (.ref (cA X.K c)) = some (.type "type")) : Raises X (.ref (cA X.K c)) := raises_own h1 h2
/-- X(), X an own exception class without own __init__ -/
theorem pmk_own0 {C : Addr} {bmB : List Value} {B newId initId : String} {x : Str} (F : PySem.ExcBaseFacts B newId initId bmB) (q : PySem.W.excIn X.K C bmB newId = true) (gC : X.mg x = some (.ref C))
    (kC : PySem.W.keepIn X.K (.ref C) = true) (r : Raises X (.ref C)) (hg : Gl X x) (hdb : (x == ("__debug__" : Str)) = false) :
    PMk X (.Call (.Name x p) [] [] pos) (fun σ H Q => Q (.ref C) none H) := by
  intro pins s σ H Q I h
  refine wpAny_Call_Name_kw (ld_glob I hg gC ?_ hdb)
  refine PySem.W.callWith_K0 I.kIn kC ?_
  show wpAny _ _ (call (.ref C) []) _ _ _
  obtain ⟨bm, N, nm, qn, bs, hdct, sn, sub, ab, col, dd, k0, k1, k2, k3, k5, mN, hC, hN, hni, T⟩ := exc_obj I.kIn q
  refine wpAny_call_exc_subT F T hC hN hni (fun h' e hm => ?_) (Nat.zero_le _)
  exact mk_of I hm r h (I.hok.gone hm.new)
theorem ss_raise0 {c : Nat} {p2 : Pos} (h : RefOk (cxX X) lev (.ex0 c)) (hc : X.calm = true) (tk : Takes X W) (hg : Gl X (nm c)) (hdb : (nm c == ("__debug__" : Str)) = false) :
    PS X (.Raise (some (.Call (.Name (nm c) p) [] [] pos)) none p2) (tS X.K W fun ρ st => .exc c none ρ st) := by
  obtain ⟨hm, h1, h2, h3, h4⟩ := h
  exact PS.of (ps_raise hc tk (pmk_own0 PySem.F.excBase_ValueError h1 hm h2 (raises_ex h3 h4) hg hdb)) fun D σ H ⟨ρ, st, mp, he, S, q⟩ => q σ none H mp .refl he S rfl
theorem ss_raise1 {c : Nat} {e : Expr} {m : Env → Sto → R M1.D} {p2 : Pos} (h : RefOk (cxX X) lev (.ex1 c)) (hr : Room lev X.A) (hc : X.calm = true) (tk : Takes X W) (hg : Gl X (nm c)) (hdb : (nm c == ("__debug__" : Str)) = false) (hE : PE X e (tE X.K W m))
    (hs : starEach [e] X.env = (false, eval e X.env) :: starEach [] X.env) :
    PS X (.Raise (some (.Call (.Name (nm c) p) [e] [] pos)) none p2) (tS X.K W fun ρ st => (m ρ st).then ρ fun x st1 => .exc c (some x) ρ st1) := by
  obtain ⟨hm, T, fI, fd, ps, j, hj, iC, tI, F, hb⟩ := h
  have hp : PMk X (.Call (.Name (nm c) p) [e] [] pos) (tMkO (cA X.K c) (spAt (cA X.K c)) [] (tCons (tE X.K W m) tNil)) :=
    pmk_oex T iC tI F (hr.mono hj) hb .nil (fun _ _ _ _ _ _ _ h => passL (X := X) _ _ _ _ _ _ (by assumption) h) hg hm (pa_cons hE pa_nil hs) hdb hs rfl
  refine PS.of (ps_raise hc tk hp) fun D σ H ⟨ρ, st, mp, he, S, q⟩ => ?_
  refine tG_then (r1 := DR X.K) he S q fun v H1 x st1 mp1 e1 he1 S1 dx q1 => ⟨by show 1 ≤ 1000; decide, fun a ha => ?_⟩
  refine ⟨a, v, rfl, upd_same, fun dx' hdx hne => ⟨rfl, dx', [(nm 9, v)], upd_same, ?_, ?_, ?_⟩⟩
  · rw [upd_ne hne, upd_same]
  · rw [upd_ne hne] at hdx; exact hdx
  · have hdx1 : H1 dx' = none := by rw [upd_ne hne] at hdx; exact hdx
    generalize hH : upd (del (upd (upd (upd H1 a (exo a (cA X.K c) none)) dx' (exd dx' [(nm 9, v)])) a (exo a (cA X.K c) (some dx'))) a) dx' (.xd [(nm 9, v)]) = Hf
    have hf : ∀ b o, H1 b = some o → Hf b = some o := by
      intro b o hbo
      have n1 := ne_of_none hbo ha
      have n2 := ne_of_none hbo hdx1
      rw [← hH, upd_ne n2, del_ne n1, upd_ne n1, upd_ne n2, upd_ne n1]
      exact hbo
    have ex : Ext X.K H1 mp1 Hf mp1 := ⟨⟨[], by simp⟩, fun b o hbo _ => hf b o hbo, fun b xs hb => hb.imp (fun z => z.imp (hf b _) fun ⟨o, z⟩ => ⟨o, hf b _ z⟩) id, fun b o u hb => hf b _ hb⟩
    have Sf : StoR X.K Hf mp1 st1 := ⟨S1.len, S1.nd, fun n o b h1 h2 => by
      have w := S1.at_ n o b h1 h2
      obtain ⟨u, hu⟩ := w.some
      exact w.ext ex ((hf b u hu).trans hu.symm)⟩
    exact q1 σ (some dx') Hf mp1 ex (he1.ext ex) Sf ⟨dx', v, rfl, by rw [← hH, upd_same], S1.free hdx1, DR.ext ex _ _ dx⟩
end
end M1
namespace M1
open PySem PySem.Spec L2
/-! ### what the syntax must be -/
def isStar : Expr → Bool
  | .Starred .. => true
  | _ => false
def isSet : Expr → Bool
  | .Set .. => true
  | _ => false
def isSlc : Expr → Bool
  | .Slice .. => true
  | _ => false
def isLC : Expr → Bool
  | .ListComp .. => true
  | .SetComp .. => true
  | .DictComp .. => true
  | _ => false
def isTst : Expr → Bool
  | .BoolOp .. => true
  | .UnaryOp .Not _ _ => true
  | .IfExp .. => true
  | .Compare .. => true
  | _ => false
def isTup : Expr → Bool
  | .Tuple .. => true
  | .List .. => true
  | _ => false
def baseOk : Expr → Bool
  | .Call (.Name id _) [] [] _ => id != "super"
  | _ => true
theorem star_cons {e : Expr} {es : List Expr} {env : PySem.Env} (h : isStar e = false) : starEach (e :: es) env = (false, eval e env) :: starEach es env := by
  cases e <;> first | rfl | cases h
theorem star_any {env : PySem.Env} {pos : Pos} : ∀ {es : List Expr}, (es.all fun e => !isStar e) = true → (backTo pos (starEach es env)).any (·.1) = false
  | [], _ => rfl
  | e :: es, h => by
    rw [List.all_cons, Bool.and_eq_true] at h
    rw [star_cons (by simpa using h.1)]
    have ih := star_any (env := env) (pos := pos) h.2
    unfold backTo at ih ⊢
    simpa using ih
theorem star_all {env : PySem.Env} {pos : Pos} : ∀ {es : List Expr}, (es.all fun e => !isStar e) = true → (backTo pos (starEach es env)).all (fun x => !x.1) = true
  | [], _ => rfl
  | e :: es, h => by
    rw [List.all_cons, Bool.and_eq_true] at h
    rw [star_cons (by simpa using h.1)]
    have ih := star_all (env := env) (pos := pos) h.2
    unfold backTo at ih ⊢
    simpa using ih
theorem tru_plain {e : Expr} {env : PySem.Env} (h : isTst e = false) : ∀ whole, isTrue e env whole = (do let v ← whole; standAt e.pos; holding [v] (truthy v)) := by
  intro whole
  cases e with
  | UnaryOp o a p => cases o <;> first | rfl | cases h
  | _ => first | rfl | cases h
theorem base_plain {o : Expr} {attr : Str} {env : PySem.Env} (h : baseOk o = true) : attributeBase o attr env (eval o env) = eval o env := by
  cases o with
  | Call f as ks p =>
    cases f with
    | Name id q =>
      cases as with
      | nil =>
        cases ks with
        | nil =>
          unfold attributeBase
          dsimp only
          rw [if_pos (by have h' : (id != "super") = true := h; rw [h']; rfl)]
        | cons _ _ => rfl
      | cons _ _ => rfl
    | _ => rfl
  | _ => rfl
theorem ix_plain {b : Expr} (h : isSlc b = false) : PlainIx b := by
  intro o i
  cases b <;> first | rfl | cases h
theorem folded_plain {e : Expr} {env : PySem.Env} (h : isSet e = false) : ∀ x, foldedSetIterable e env x = pure x := by
  intro x
  cases e <;> first | rfl | cases h
theorem swaps_plain {e : Expr} {t : Option Expr} {l : Nat} {env : PySem.Env} (h : isLC e = false) : swapsWith e t l env = pure false := by
  cases e <;> first | rfl | cases h
theorem swapped_plain {t e : Expr} {env : PySem.Env} (h : (isTup t && isTup e) = false) : swappedStores [t] e env = pure none := by
  cases t <;> first | (cases e <;> first | rfl | cases h) | cases h
theorem each_plain {t : Expr} {es : List Expr} {env : PySem.Env} (h : isStar t = false) : assignEach (t :: es) env = (false, assign t env) :: assignEach es env := by
  cases t <;> first | rfl | cases h
theorem each_len {env : PySem.Env} : ∀ {es : List Expr}, (es.all fun e => !isStar e) = true → (assignEach es env).length = es.length ∧ (assignEach es env).findIdx? (·.1) = none
  | [], _ => ⟨rfl, rfl⟩
  | e :: es, h => by
    rw [List.all_cons, Bool.and_eq_true] at h
    rw [each_plain (by simpa using h.1)]
    obtain ⟨a, b⟩ := each_len (env := env) h.2
    refine ⟨by simp [a], ?_⟩
    rw [List.findIdx?_cons]
    simp [b]
theorem aug_plain {i : Expr} (h : isSlc i = false) : ∀ ov iv new, augStore i ov iv new = (do holding [new, ov, iv] (setItem ov iv new); release [new, ov, iv] []; pure .next) := by
  intro ov iv new
  cases i <;> first | rfl | cases h
theorem sub_plain {o i : Expr} {pos : Pos} {env : PySem.Env} (h : isSlc i = false) : ∀ v, assign (.Subscript o i pos) env v = (do
      let ov ← holding [v] (eval o env)
      let iv ← holding [v, ov] (eval i env)
      standAt pos
      holding [v, ov, iv] (setItem ov iv v)
      release [v, ov, iv] []) := by
  intro v
  cases i <;> first | rfl | cases h
/-! ### the look -/
structure Ck where
  names : List (Str × NameKind)
  N : List Str
def bopOk (o : Bop) (p : Operator) : Bool := decide (bop o = p)
def copOk (o : Cop) (p : CmpOp) : Bool := decide (cop o = p)
def nameOk (x : Str) : Bool := !(x == ("__debug__" : Str)) && !(x == ("__classdict__" : Str))
def seesK (k : Option NameKind) : Bool := match k with
  | some .local => true
  | some .cell => true
  | some .free => true
  | _ => false
def locK (k : Option NameKind) : Bool := match k with
  | some .local => true
  | some .cell => true
  | _ => false
def globK (k : Option NameKind) : Bool := match k with
  | some .globalImplicit => true
  | _ => false
def Ck.var (ck : Ck) (i : Nat) (x : Str) : Bool := decide (ck.N[i]? = some x) && seesK (ck.names.lookup x) && nameOk x
def Ck.glob (ck : Ck) (x : Str) : Bool := globK (ck.names.lookup x) && nameOk x
mutual
def chkT (ck : Ck) : T → Expr → Bool
  | .one i, .Name x _ => decide (ck.N[i]? = some x) && locK (ck.names.lookup x)
  | .tup l, .Tuple es _ _ => chkTs ck l es
  | _, _ => false
def chkTs (ck : Ck) : T → List Expr → Bool
  | .nil, [] => true
  | .cons a r, e :: es => chkT ck a e && chkTs ck r es
  | _, _ => false
end
/-- the names of a comprehension's block -/
def ownOf (N : List Str) (slots : List Nat) : List (Str × Nat) := slots.map fun i => (N.getD i "", i)
def blkK (ck : Ck) (scope : Scope) (slots : List Nat) : Bool :=
  (match scope.kind with | .function => true | _ => false) && (scope.names.all fun y => decide (scope.names.lookup y.1 = some y.2)) && (slots.all fun i => decide (i < ck.N.length)) &&
    (scope.names.all fun y => match y.2 with
      | .free => (match ck.names.lookup y.1 with | some .cell => true | some .free => true | _ => false)
      | .local => decide (y.1 ∈ (ownOf ck.N slots).map (·.1)) || decide (y.1 ∉ ck.N)
      | .cell => decide (y.1 ∈ (ownOf ck.N slots).map (·.1)) || decide (y.1 ∉ ck.N)
      | _ => true)
def isTupE : Expr → Bool
  | .Tuple .. => true
  | _ => false
def tyS : Ty → Str
  | .int => "int" | .str => "str" | .bool => "bool" | .tuple => "tuple" | .list => "list"
def isComp : E → Bool
  | .comp .. => true
  | _ => false
mutual
def chkE (ck : Ck) : E → Expr → Bool
  | .var i, pe => match pe with
    | .Name x _ => ck.var i x
    | _ => false
  | .int i, pe => match pe with
    | .Constant (.int j) _ _ => decide (i = j)
    | _ => false
  | .bl i, pe => match pe with
    | .Constant (.bool j) _ _ => decide (i = j)
    | _ => false
  | .non, pe => match pe with
    | .Constant .none _ _ => true
    | _ => false
  | .str z, pe => match pe with
    | .Constant (.str x) _ _ => decide (strOf z = x)
    | _ => false
  | .gint x _, pe => match pe with
    | .Name y _ => decide (x = y) && ck.glob y
    | _ => false
  | .gstr x _, pe => match pe with
    | .Name y _ => decide (x = y) && ck.glob y
    | _ => false
  | .bin o a b, pe => match pe with
    | .BinOp l p r _ => bopOk o p && chkE ck a l && chkE ck b r
    | _ => false
  | .neg a, pe => match pe with
    | .UnaryOp .USub x _ => chkE ck a x
    | _ => false
  | .cmp o a b, pe => match pe with
    | .Compare l [p] [r] _ => copOk o p && !behindInMarks p r && chkE ck a l && chkE ck b r
    | _ => false
  | .chain o o' a b c, pe => match pe with
    | .Compare l [p, p'] [r, s] _ => copOk o p && copOk o' p' && !lastMarks [p, p'] [r, s] && chkE ck a l && chkE ck b r && chkE ck c s
    | _ => false
  | .not_ a, pe => match pe with
    | .UnaryOp .Not x _ => chkE ck a x
    | _ => false
  | .and_ l, pe => match pe with
    | .BoolOp .And (e :: es) _ => chkA ck l (e :: es)
    | _ => false
  | .or_ l, pe => match pe with
    | .BoolOp .Or (e :: es) _ => chkA ck l (e :: es)
    | _ => false
  | .ife c a b, pe => match pe with
    | .IfExp x y z _ => chkE ck c x && chkE ck a y && chkE ck b z
    | _ => false
  | .tup l, pe => match pe with
    | .Tuple es _ _ => chkA ck l es
    | _ => false
  | .lst l, pe => match pe with
    | .List es _ => chkA ck l es
    | _ => false
  | .sub a i, pe => match pe with
    | .Subscript x y _ => !isSlc y && chkE ck a x && chkE ck i y
    | _ => false
  | .cut a lo hi, pe => match pe with
    | .Subscript x (.Slice l h none _) _ => chkE ck a x && (match l with | none => lo.isNil | some e => !lo.isNil && chkE ck lo e) && (match h with | none => hi.isNil | some e => !hi.isNil && chkE ck hi e)
    | _ => false
  | .call x _ l, pe => match pe with
    | .Call (.Name y _) es [] _ => decide (x = y) && ck.glob y && chkA ck l es
    | _ => false
  | .meth o _ m _ l, pe => match pe with
    | .Call (.Attribute x n ap) es [] p => decide (m = n) && baseOk x && (ap.endLine == p.line) && decide (es.length < 30) && chkE ck o x && chkA ck l es
    | _ => false
  | .make c _ l, pe => match pe with
    | .Call (.Name y _) es [] _ => decide (nm c = y) && ck.glob y && chkA ck l es
    | _ => false
  | .fld o _ f, pe => match pe with
    | .Attribute x n _ => decide (nm f = n) && baseOk x && chkE ck o x
    | _ => false
  | .bi b l, pe => match pe with
    | .Call (.Name y _) (e :: es) [] _ => decide (biN b = y) && ck.glob y && chkA ck l (e :: es)
    | _ => false
  | .bic b a, pe => match pe with
    | .Call (.Name y _) [e] [] _ => decide (biN b = y) && ck.glob y && isComp a && chkE ck a e
    | _ => false
  | .isi a t, pe => match pe with
    | .Call (.Name y _) [e, .Name z _] [] _ => decide (y = ("isinstance" : Str)) && ck.glob y && decide (tyS t = z) && ck.glob z && !isStar e && chkE ck a e
    | _ => false
  | .bm b o l, pe => match pe with
    | .Call (.Attribute x n ap) es [] p => decide (bmN b = n) && baseOk x && (ap.endLine == p.line) && decide (es.length < 29) && chkE ck o x && chkA ck l es
    | _ => false
  | .comp e t it c, pe => match pe with
    | .ListComp elt [⟨tg, iter, ifs, 0⟩] scope _ => blkK ck scope t.slots && !isSet iter && chkT ⟨scope.names, ck.N⟩ t tg && chkI ck it tg iter && chkE ⟨scope.names, ck.N⟩ e elt && (match ifs with | [] => c.isNil | [x] => !c.isNil && chkE ⟨scope.names, ck.N⟩ c x | _ => false)
    | _ => false
  | _, _ => false
def chkA (ck : Ck) : E → List Expr → Bool
  | .nil, [] => true
  | .cons a r, e :: es => !isStar e && chkE ck a e && chkA ck r es
  | _, _ => false
def chkI (ck : Ck) : E → Expr → Expr → Bool
  | .iVal a, _, pe => chkE ck a pe
  | .iRange l, _, pe => match pe with
    | .Call (.Name y _) [e] [] _ => decide (y = ("range" : Str)) && ck.glob y && chkA ck l [e]
    | .Call (.Name y _) [e, e2] [] _ => decide (y = ("range" : Str)) && ck.glob y && chkA ck l [e, e2]
    | _ => false
  | .iZip l, tg, pe => match pe with
    | .Call (.Name y _) [e, e2] [] _ => isTupE tg && decide (y = ("zip" : Str)) && ck.glob y && chkA ck l [e, e2]
    | _ => false
  | .iEnum l, tg, pe => match pe with
    | .Call (.Name y _) [e] [] _ => isTupE tg && decide (y = ("enumerate" : Str)) && ck.glob y && chkA ck l [e]
    | _ => false
  | _, _, _ => false
end
def refsE : E → List Ref
  | .gint x i => [.gi x i]
  | .gstr x z => [.gs x z]
  | .bin _ a b => refsE a ++ refsE b
  | .neg a => refsE a
  | .cmp _ a b => refsE a ++ refsE b
  | .chain _ _ a b c => refsE a ++ (refsE b ++ refsE c)
  | .not_ a => refsE a
  | .and_ l => refsE l
  | .or_ l => refsE l
  | .ife c a b => refsE c ++ (refsE a ++ refsE b)
  | .tup l => refsE l
  | .lst l => refsE l
  | .cons a r => refsE a ++ refsE r
  | .sub a i => refsE a ++ refsE i
  | .cut a lo hi => refsE a ++ (refsE lo ++ refsE hi)
  | .call x f l => .fn x f :: refsE l
  | .meth o c m f l => .mt c m f :: (refsE o ++ refsE l)
  | .make c f l => .mk c f :: refsE l
  | .fld o c f => .fld c f :: refsE o
  | .bi _ l => refsE l
  | .bic _ a => refsE a
  | .isi a _ => refsE a
  | .bm _ o l => refsE o ++ refsE l
  | .comp e _ it c => refsE e ++ (refsE it ++ refsE c)
  | .iVal a => refsE a
  | .iRange l => refsE l
  | .iZip l => refsE l
  | .iEnum a => refsE a
  | .iRev a => refsE a
  | _ => []
/-- the built-in names that a program must not have bound -/
def bnames : List Str := ["len", "abs", "int", "tuple", "list", "sum", "all", "any", "max", "min", "isinstance", "str", "bool", "range", "zip", "enumerate", "reversed", "set", "sorted"]
structure XOk (X : Cx) (ck : Ck) (lev : Nat) (W : WX) : Prop where
  N : X.N = ck.N
  nd : X.N.Nodup
  sees : ∀ x k, ck.names.lookup x = some k → ∃ k', X.env.scope.names.lookup x = some k' ∧ (k' = k ∨ (k = .free ∧ k' = .cell))
  cells : ∀ x, ck.names.lookup x = some .cell → X.fn x = true
  calm : X.calm = true
  room : Room lev X.A
  takes : Takes X W
  passes : PassesOwn (model X.prog X.w) X.A X.env X.xe
  free : ∀ x ∈ bnames, X.mg x = none
end M1
namespace M1
open PySem PySem.Spec L2
theorem ba {a b : Bool} (h : (a && b) = true) : a = true ∧ b = true := Bool.and_eq_true_iff.mp h
theorem bnot {a : Bool} (h : (!a) = true) : a = false := by cases a <;> first | rfl | cases h
section
variable {X : Cx} {ck : Ck} {lev : Nat} {W : WX}
theorem nameOk_of {x : Str} (h : nameOk x = true) : (x == ("__debug__" : Str)) = false ∧ (x == ("__classdict__" : Str)) = false := by
  obtain ⟨a, b⟩ := ba h
  exact ⟨bnot a, bnot b⟩
theorem XOk.vis (x : XOk X ck lev W) {n : Str} (h : seesK (ck.names.lookup n) = true) : Vis X.env.scope n := by
  cases e : ck.names.lookup n with
  | none => rw [e] at h; cases h
  | some k =>
    obtain ⟨k', h1, h2⟩ := x.sees n k e
    rw [e] at h
    cases k with
    | «local» =>
      rcases h2 with rfl | ⟨z, _⟩
      · exact .inl h1
      · cases z
    | cell =>
      rcases h2 with rfl | ⟨z, _⟩
      · exact .inr (.inl h1)
      · cases z
    | free =>
      rcases h2 with rfl | ⟨_, rfl⟩
      · exact .inr (.inr h1)
      · exact .inr (.inl h1)
    | _ => cases h
theorem XOk.loc (x : XOk X ck lev W) {n : Str} (h : locK (ck.names.lookup n) = true) : Loc X.env.scope n ∧ (X.fn n = true ∨ X.env.scope.names.lookup n = some .local) := by
  cases e : ck.names.lookup n with
  | none => rw [e] at h; cases h
  | some k =>
    obtain ⟨k', h1, h2⟩ := x.sees n k e
    rw [e] at h
    cases k with
    | «local» =>
      rcases h2 with rfl | ⟨z, _⟩
      · exact ⟨.inl h1, .inr h1⟩
      · cases z
    | cell =>
      rcases h2 with rfl | ⟨z, _⟩
      · exact ⟨.inr h1, .inl (x.cells n e)⟩
      · cases z
    | _ => cases h
theorem XOk.gl (x : XOk X ck lev W) {n : Str} (h : globK (ck.names.lookup n) = true) : Gl X n := by
  cases e : ck.names.lookup n with
  | none => rw [e] at h; cases h
  | some k =>
    obtain ⟨k', h1, h2⟩ := x.sees n k e
    rw [e] at h
    cases k with
    | globalImplicit =>
      rcases h2 with rfl | ⟨z, _⟩
      · exact h1
      · cases z
    | _ => cases h
theorem XOk.glob (x : XOk X ck lev W) {n : Str} (h : ck.glob n = true) : Gl X n ∧ (n == ("__debug__" : Str)) = false := by
  obtain ⟨a, b⟩ := ba h
  exact ⟨x.gl a, (nameOk_of b).1⟩
theorem XOk.hu (x : XOk X ck lev W) : X.A.units + 64 < cLine := x.room.units
mutual
theorem chkT_star : ∀ {t : T} {e : Expr}, chkT ck t e = true → isStar e = false
  | .one i, e, h => by cases e <;> first | rfl | cases h
  | .tup l, e, h => by cases e <;> first | rfl | cases h
  | .nil, e, h => by cases e <;> cases h
  | .cons _ _, e, h => by cases e <;> cases h
end
theorem chkTs_star : ∀ {l : T} {es : List Expr}, chkTs ck l es = true → (es.all fun e => !isStar e) = true ∧ es.length = l.len
  | .nil, [], _ => ⟨rfl, rfl⟩
  | .cons a r, e :: es, h => by
    obtain ⟨h1, h2⟩ := ba (show (chkT ck a e && chkTs ck r es) = true from h)
    obtain ⟨a1, a2⟩ := chkTs_star h2
    exact ⟨by rw [List.all_cons, chkT_star h1, a1]; rfl, by simp [T.len, a2]⟩
  | .nil, _ :: _, h => by cases h
  | .cons _ _, [], h => by cases h
  | .one _, _, h => by cases h
  | .tup _, _, h => by cases h
mutual
theorem pg_T (x : XOk X ck lev W) : ∀ {t : T} {e : Expr}, chkT ck t e = true → PG X e (gT X.K t)
  | .one i, e, h => by
    cases e with
    | Name y p =>
      obtain ⟨h1, h2⟩ := ba (show (decide (ck.N[i]? = some y) && locK (ck.names.lookup y)) = true from h)
      obtain ⟨h3, h4⟩ := x.loc h2
      exact pg_name x.nd (by rw [x.N]; exact of_decide_eq_true h1) h3 h4
    | _ => cases h
  | .tup l, e, h => by
    cases e with
    | Tuple es k p =>
      have h' : chkTs ck l es = true := h
      obtain ⟨h1, h2⟩ := chkTs_star h'
      obtain ⟨h3, h4⟩ := each_len (env := X.env) h1
      exact pg_tup x.calm (pg_Ts x h') (by rw [h3, h2]) h4
    | _ => cases h
  | .nil, e, h => by cases e <;> cases h
  | .cons _ _, e, h => by cases e <;> cases h
theorem pg_Ts (x : XOk X ck lev W) : ∀ {l : T} {es : List Expr}, chkTs ck l es = true → PGs X es (gT.gTs X.K l)
  | .nil, [], _ => pgs_nil
  | .cons a r, e :: es, h => by
    obtain ⟨h1, h2⟩ := ba (show (chkT ck a e && chkTs ck r es) = true from h)
    exact pgs_cons (pg_T x h1) (pg_Ts x h2) (by rw [each_plain (chkT_star h1)]; rfl)
  | .nil, _ :: _, h => by cases h
  | .cons _ _, [], h => by cases h
  | .one _, _, h => by cases h
  | .tup _, _, h => by cases h
end
/-- a comprehension's block -/
theorem XOk.blk (x : XOk X ck lev W) {scope : Scope} (s : Shared) (H : Hp) (C : Addr) (cl : List (Str × Addr)) (fp : List Addr) : XOk (X.blk s H scope (compEnvC scope cl C X.env) fp) ⟨scope.names, ck.N⟩ lev W0 where
  N := x.N
  nd := x.nd
  sees := fun y k e => by
    cases k with
    | free =>
      have : ∃ k', (relS scope X.env.scope).names.lookup y = some k' ∧ (k' = .free ∨ k' = .cell) := by
        show ∃ k', (scope.names.map fun (n, k) => if (k == NameKind.free && X.env.scope.kind == .function && X.env.scope.names.lookup n == some .cell) then (n, NameKind.cell) else (n, k)).lookup y = some k' ∧ _
        have aux : ∀ (l : List (Str × NameKind)), l.lookup y = some .free → ∃ k', (l.map fun (n, k) => if (k == NameKind.free && X.env.scope.kind == .function && X.env.scope.names.lookup n == some .cell) then (n, NameKind.cell) else (n, k)).lookup y = some k' ∧ (k' = .free ∨ k' = .cell) := by
          intro l
          induction l with
          | nil => intro h; cases h
          | cons p l ih =>
            obtain ⟨n, k⟩ := p
            intro h
            rw [List.lookup_cons] at h
            rw [List.map_cons]
            cases hn : (y == n) with
            | true =>
              rw [hn] at h
              cases h
              dsimp only
              split
              · exact ⟨.cell, by rw [List.lookup_cons, hn], .inr rfl⟩
              · exact ⟨.free, by rw [List.lookup_cons, hn], .inl rfl⟩
            | false =>
              rw [hn] at h
              obtain ⟨k', h1, h2⟩ := ih h
              refine ⟨k', ?_, h2⟩
              dsimp only
              split <;> (rw [List.lookup_cons, hn]; exact h1)
        exact aux _ e
      obtain ⟨k', h1, h2⟩ := this
      exact ⟨k', h1, h2.elim .inl fun z => .inr ⟨rfl, z⟩⟩
    | _ => exact ⟨_, lookup_relS_keep (sc := X.env.scope) (by intro z; cases z) e, .inl rfl⟩
  cells := fun y e => by
    show (scope.names.lookup y == some .cell) = true
    have e' : scope.names.lookup y = some .cell := e
    rw [e']; rfl
  calm := x.calm
  room := x.room
  takes := fun _ _ ⟨_, _, _, _, _, _, _, _, _, _, _, _, _, _, _, _, w⟩ => w.elim
  passes := PassesOwn.never
  free := x.free
theorem blk_ok (x : XOk X ck lev W) {scope : Scope} {slots : List Nat} (h : blkK ck scope slots = true) : BlkOk X.N X.env.scope scope (ownOf ck.N slots) := by
  obtain ⟨h, h4⟩ := ba h
  obtain ⟨h, h3⟩ := ba h
  obtain ⟨h1, h2⟩ := ba h
  refine ⟨?_, fun y hy => of_decide_eq_true (List.all_eq_true.mp h2 y hy), fun p hp => ?_, fun y hy hf => ?_, fun y hy hl => ?_⟩
  · cases e : scope.kind <;> rw [e] at h1 <;> first | rfl | cases h1
  · obtain ⟨i, hi, rfl⟩ := List.mem_map.mp hp
    have hl := of_decide_eq_true (List.all_eq_true.mp h3 i hi)
    rw [x.N]
    show ck.N[i]? = some (ck.N.getD i "")
    rw [List.getD_eq_getElem?_getD, List.getElem?_eq_getElem hl]
    rfl
  · have q := List.all_eq_true.mp h4 y hy
    rw [hf] at q
    dsimp only at q
    cases e : ck.names.lookup y.1 with
    | none => rw [e] at q; cases q
    | some k =>
      obtain ⟨k', g1, g2⟩ := x.sees y.1 k e
      rw [e] at q
      cases k with
      | cell => rcases g2 with rfl | ⟨z, _⟩; exact .inl g1; cases z
      | free => rcases g2 with rfl | ⟨_, rfl⟩; exact .inr g1; exact .inl g1
      | _ => cases q
  · have q := List.all_eq_true.mp h4 y hy
    rw [x.N]
    rcases hl with hl | hl <;> rw [hl] at q <;> dsimp only at q <;> rw [Bool.or_eq_true] at q <;> exact q.imp of_decide_eq_true of_decide_eq_true
theorem own_slots (N : List Str) (slots : List Nat) : (ownOf N slots).map (·.2) = slots := by
  unfold ownOf
  rw [List.map_map]
  show slots.map (fun i => i) = slots
  simp
end
/-! ### what each expression does -/
def GE (lev : Nat) (e : E) : Prop := ∀ X ck W pe, XOk X ck lev W → (∀ r ∈ refsE e, RefOk (cxX X) lev r) → chkE ck e pe = true → PE X pe (tE X.K W (den e).e)
def GT (lev : Nat) (e : E) : Prop := ∀ X ck W pe, XOk X ck lev W → (∀ r ∈ refsE e, RefOk (cxX X) lev r) → chkE ck e pe = true → PT X pe (tT X.K W (den e).t)
def GA (lev : Nat) (e : E) : Prop := ∀ X ck W es, XOk X ck lev W → (∀ r ∈ refsE e, RefOk (cxX X) lev r) → chkA ck e es = true → PA X es (tA X.K W (den e).a)
def GAnd (lev : Nat) (e : E) : Prop := ∀ X ck W x es pos, XOk X ck lev W → (∀ r ∈ refsE e, RefOk (cxX X) lev r) → chkA ck e (x :: es) = true → PE X (.BoolOp .And (x :: es) pos) (tE X.K W (den e).an) ∧ PW X (.BoolOp .And (x :: es) pos) (tT X.K W (den e).ta)
def GOr (lev : Nat) (e : E) : Prop := ∀ X ck W x es pos, XOk X ck lev W → (∀ r ∈ refsE e, RefOk (cxX X) lev r) → chkA ck e (x :: es) = true → PE X (.BoolOp .Or (x :: es) pos) (tE X.K W (den e).o) ∧ PW X (.BoolOp .Or (x :: es) pos) (tT X.K W (den e).to)
def GI (lev : Nat) (e : E) : Prop := ∀ X ck W tg pe, XOk X ck lev W → (∀ r ∈ refsE e, RefOk (cxX X) lev r) → chkI ck e tg pe = true → PI X tg pe (tI X.K W (den e).i)
section
variable {X : Cx} {W : WX} {a b c : Expr} {ma mb mc : Env → Sto → R D} {pos : Pos}
theorem pt_false {pe : Expr} {m : Env → Sto → R Bool} (h : ∀ ρ st, m ρ st = .stuck) : PT X pe (tT X.K W m) := ⟨fun _ _ _ _ _ _ ⟨ρ, st, mp, he, S, q⟩ => by rw [h] at q; exact q.elim⟩
theorem pe_false {pe : Expr} {m : Env → Sto → R D} (h : ∀ ρ st, m ρ st = .stuck) : PE X pe (tE X.K W m) := ⟨fun _ _ _ _ _ _ ⟨ρ, st, mp, he, S, q⟩ => by rw [h] at q; exact q.elim⟩
/-- any value's truth -/
theorem st_of (h : PE X a (tE X.K W ma)) (hp : isTst a = false) : PT X a (tT X.K W fun ρ st => (ma ρ st).bind truR) :=
  PT.of (pt_truth h (tru_plain hp)) fun σ H Q ⟨ρ, st, mp, he, S, q⟩ => tG_bind he S q fun v H1 x st1 mp1 e1 he1 S1 d q1 => by
    unfold truR at q1
    cases e : truD st1 x with
    | none => rw [e] at q1; exact q1.elim
    | some k => rw [e] at q1; exact ⟨k, truD_of S1 d e, RP.ok q1 S1 rfl⟩
theorem truR_bl {x : D} {st : Sto} {k : Bool} (h : x = .bl k) : truR x st = .ok k st := by subst h; rfl
/-- a test whose value is a truth -/
theorem st_bl {t : TE} (h : PT X a (tB t)) (ht : ∀ σ H Q, tE X.K W ma σ H Q → t σ H Q) (hm : ∀ ρ st x st1, ma ρ st = .ok x st1 → ∃ k, x = .bl k) : PT X a (tT X.K W fun ρ st => (ma ρ st).bind truR) :=
  PT.of h fun σ H Q ⟨ρ, st, mp, he, S, q⟩ => ht σ H _ ⟨ρ, st, mp, he, S, by
    dsimp only at q
    generalize hr : ma ρ st = r at q ⊢
    cases r with
    | stuck => exact q
    | exc c x st1 => exact q
    | ok x st1 =>
      obtain ⟨k, rfl⟩ := hm ρ st x st1 hr
      intro v H' mp' e S' d
      cases dr_bl d
      exact ⟨k, rfl, q k H' mp' e S' rfl⟩⟩
theorem cmpD_bl {o : Cop} {x y : D} {st st1 : Sto} {z : D} (h : cmpD o x y st = .ok z st1) : ∃ k, z = .bl k := by
  cases o with
  | eq =>
    have h' : okO (eqD st x y) D.bl st = .ok z st1 := h
    cases e : eqD st x y with
    | none => rw [e] at h'; cases h'
    | some k => rw [e] at h'; cases h'; exact ⟨_, rfl⟩
  | ne =>
    have h' : okO (eqD st x y) (fun b => D.bl !b) st = .ok z st1 := h
    cases e : eqD st x y with
    | none => rw [e] at h'; cases h'
    | some k => rw [e] at h'; cases h'; exact ⟨_, rfl⟩
  | isin =>
    have h' : okO (isinD st x y) D.bl st = .ok z st1 := h
    cases e : isinD st x y with
    | none => rw [e] at h'; cases h'
    | some k => rw [e] at h'; cases h'; exact ⟨_, rfl⟩
  | notin =>
    have h' : okO (isinD st x y) (fun b => D.bl !b) st = .ok z st1 := h
    cases e : isinD st x y with
    | none => rw [e] at h'; cases h'
    | some k => rw [e] at h'; cases h'; exact ⟨_, rfl⟩
  | isN => cases y <;> cases h <;> exact ⟨_, rfl⟩
  | notN => cases y <;> cases h <;> exact ⟨_, rfl⟩
  | _ => cases x <;> cases y <;> cases h <;> exact ⟨_, rfl⟩
theorem bind_ok_inv {α β : Type} {r : R α} {f : α → Sto → R β} {y : β} {s : Sto} (h : r.bind f = .ok y s) : ∃ a st, r = .ok a st ∧ f a st = .ok y s := by
  cases r with
  | ok a st => exact ⟨a, st, rfl, h⟩
  | exc c x s => cases h
  | stuck => cases h
end
end M1
namespace M1
open PySem PySem.Spec L2
def G (lev : Nat) (e : E) : Prop := GE lev e ∧ GT lev e ∧ GA lev e ∧ GAnd lev e ∧ GOr lev e ∧ GI lev e
section
variable {lev : Nat} {e : E}
theorem mkG (hA : ∀ ck es, chkA ck e es = false) (hI : ∀ ck tg pe, chkI ck e tg pe = false) (hE : GE lev e) (hT : GT lev e) : G lev e :=
  ⟨hE, hT, fun X ck W es x r h => (by rw [hA] at h; cases h), fun X ck W y es pos x r h => (by rw [hA] at h; cases h), fun X ck W y es pos x r h => (by rw [hA] at h; cases h), fun X ck W tg pe x r h => (by rw [hI] at h; cases h)⟩
theorem mkT (hE : GE lev e) (hd : (den e).t = fun ρ st => ((den e).e ρ st).bind truR) (hp : ∀ ck pe, chkE ck e pe = true → isTst pe = false) : GT lev e := fun X ck W pe x r h => by
  rw [hd]
  exact st_of (hE X ck W pe x r h) (hp ck pe h)
theorem mkI (hE : ∀ ck pe, chkE ck e pe = false) (hA : ∀ ck es, chkA ck e es = false) (hI : GI lev e) : G lev e :=
  ⟨fun X ck W pe x r h => (by rw [hE] at h; cases h), fun X ck W pe x r h => (by rw [hE] at h; cases h), fun X ck W es x r h => (by rw [hA] at h; cases h), fun X ck W y es pos x r h => (by rw [hA] at h; cases h), fun X ck W y es pos x r h => (by rw [hA] at h; cases h), hI⟩
end
section
variable {lev : Nat}
theorem g_var (i : Nat) : G lev (.var i) := by
  have hE : GE lev (.var i) := fun X ck W pe x r h => by
    cases pe with
    | Name y p =>
      obtain ⟨h1, h3⟩ := ba (show ck.var i y = true from h)
      obtain ⟨h1, h2⟩ := ba h1
      obtain ⟨h4, h5⟩ := nameOk_of h3
      exact se_var (by rw [x.N]; exact of_decide_eq_true h1) (x.vis h2) h4 h5
    | _ => cases h
  exact mkG (fun _ es => by cases es <;> rfl) (fun _ _ pe => by cases pe <;> rfl) hE (mkT hE rfl fun ck pe h => by cases pe <;> first | rfl | cases h)
theorem g_int (i : Int) : G lev (.int i) := by
  have hE : GE lev (.int i) := fun X ck W pe x r h => by
    cases pe with
    | Constant c j p =>
      cases c with
      | int k => cases of_decide_eq_true (show decide (i = k) = true from h); exact se_leaf pe_int fun _ _ => mk_int i
      | _ => cases h
    | _ => cases h
  exact mkG (fun _ es => by cases es <;> rfl) (fun _ _ pe => by cases pe <;> rfl) hE (mkT hE rfl fun ck pe h => by cases pe <;> first | rfl | cases h)
theorem g_bl (i : Bool) : G lev (.bl i) := by
  have hE : GE lev (.bl i) := fun X ck W pe x r h => by
    cases pe with
    | Constant c j p =>
      cases c with
      | bool k => cases of_decide_eq_true (show decide (i = k) = true from h); exact se_leaf pe_bl fun _ _ => mk_bl i
      | _ => cases h
    | _ => cases h
  exact mkG (fun _ es => by cases es <;> rfl) (fun _ _ pe => by cases pe <;> rfl) hE (mkT hE rfl fun ck pe h => by cases pe <;> first | rfl | cases h)
theorem g_non : G lev .non := by
  have hE : GE lev .non := fun X ck W pe x r h => by
    cases pe with
    | Constant c j p =>
      cases c with
      | none => exact se_leaf pe_non fun _ _ => mk_non
      | _ => cases h
    | _ => cases h
  exact mkG (fun _ es => by cases es <;> rfl) (fun _ _ pe => by cases pe <;> rfl) hE (mkT hE rfl fun ck pe h => by cases pe <;> first | rfl | cases h)
theorem g_str (z : List Nat) : G lev (.str z) := by
  have hE : GE lev (.str z) := fun X ck W pe x r h => by
    cases pe with
    | Constant c j p =>
      cases c with
      | str k => cases of_decide_eq_true (show decide (strOf z = k) = true from h); exact se_leaf pe_str fun _ _ => mk_str z
      | _ => cases h
    | _ => cases h
  exact mkG (fun _ es => by cases es <;> rfl) (fun _ _ pe => by cases pe <;> rfl) hE (mkT hE rfl fun ck pe h => by cases pe <;> first | rfl | cases h)
theorem g_gint (y : Str) (i : Int) : G lev (.gint y i) := by
  have hE : GE lev (.gint y i) := fun X ck W pe x r h => by
    cases pe with
    | Name z p =>
      obtain ⟨h1, h2⟩ := ba (show (decide (y = z) && ck.glob z) = true from h)
      cases of_decide_eq_true h1
      obtain ⟨h3, h4⟩ := x.glob h2
      obtain ⟨t, ht⟩ := r (.gi y i) (by simp [refsE])
      exact se_leaf (pe_glob h3 ht (v := .int i) ⟨t, rfl⟩ h4) fun _ _ => mk_int i
    | _ => cases h
  exact mkG (fun _ es => by cases es <;> rfl) (fun _ _ pe => by cases pe <;> rfl) hE (mkT hE rfl fun ck pe h => by cases pe <;> first | rfl | cases h)
theorem g_gstr (y : Str) (i : List Nat) : G lev (.gstr y i) := by
  have hE : GE lev (.gstr y i) := fun X ck W pe x r h => by
    cases pe with
    | Name z p =>
      obtain ⟨h1, h2⟩ := ba (show (decide (y = z) && ck.glob z) = true from h)
      cases of_decide_eq_true h1
      obtain ⟨h3, h4⟩ := x.glob h2
      obtain ⟨t, ht⟩ := r (.gs y i) (by simp [refsE])
      exact se_leaf (pe_glob h3 ht (v := .str (strOf i)) ⟨t, rfl⟩ h4) fun _ _ => mk_str i
    | _ => cases h
  exact mkG (fun _ es => by cases es <;> rfl) (fun _ _ pe => by cases pe <;> rfl) hE (mkT hE rfl fun ck pe h => by cases pe <;> first | rfl | cases h)
theorem refs_l {P : Ref → Prop} {a b : List Ref} (h : ∀ r ∈ a ++ b, P r) : (∀ r ∈ a, P r) ∧ ∀ r ∈ b, P r := ⟨fun r z => h r (List.mem_append.mpr (.inl z)), fun r z => h r (List.mem_append.mpr (.inr z))⟩
theorem refs_c {P : Ref → Prop} {a : Ref} {b : List Ref} (h : ∀ r ∈ a :: b, P r) : P a ∧ ∀ r ∈ b, P r := ⟨h a (List.mem_cons_self ..), fun r z => h r (List.mem_cons_of_mem _ z)⟩
theorem g_bin (o : Bop) (a b : E) (ha : G lev a) (hb : G lev b) : G lev (.bin o a b) := by
  have hE : GE lev (.bin o a b) := fun X ck W pe x r h => by
    cases pe with
    | BinOp l p q pos =>
      obtain ⟨h1, h3⟩ := ba (show (bopOk o p && chkE ck a l && chkE ck b q) = true from h)
      obtain ⟨h1, h2⟩ := ba h1
      cases of_decide_eq_true (show decide (bop o = p) = true from h1)
      obtain ⟨r1, r2⟩ := refs_l r
      exact se_two (pe_op (op_binD o) (ha.1 X ck W l x r1 h2) (hb.1 X ck W q x r2 h3)) fun x y u v H mp st Q E S hx hy q => ⟨E, x, y, st, mp, S, hx, hy, q⟩
    | _ => cases h
  exact mkG (fun _ es => by cases es <;> rfl) (fun _ _ pe => by cases pe <;> rfl) hE (mkT hE rfl fun ck pe h => by cases pe <;> first | rfl | cases h)
theorem g_neg (a : E) (ha : G lev a) : G lev (.neg a) := by
  have hE : GE lev (.neg a) := fun X ck W pe x r h => by
    cases pe with
    | UnaryOp o q pos =>
      cases o with
      | USub => exact se_one (pe_un un_negD (ha.1 X ck W q x r h)) fun x u H mp st Q E S hx q => ⟨E, x, st, mp, S, hx, q⟩
      | _ => cases h
    | _ => cases h
  exact mkG (fun _ es => by cases es <;> rfl) (fun _ _ pe => by cases pe <;> rfl) hE (mkT hE rfl fun ck pe h => by
    cases pe with
    | UnaryOp o q pos => cases o <;> first | rfl | cases h
    | _ => first | rfl | cases h)
theorem tTest_B {t : TE} {σ : L2.St} {H : Hp} {Q : Bool → Hp → Prop} : tTest t σ H Q = tB t σ H Q := rfl
theorem g_cmp (o : Cop) (a b : E) (ha : G lev a) (hb : G lev b) : G lev (.cmp o a b) := by
  have hE : GE lev (.cmp o a b) := fun X ck W pe x r h => by
    cases pe with
    | Compare l ps qs pos =>
      cases ps with
      | nil => cases h
      | cons p ps =>
        cases ps with
        | cons _ _ => cases h
        | nil =>
          cases qs with
          | nil => cases h
          | cons q qs =>
            cases qs with
            | cons _ _ => cases h
            | nil =>
              obtain ⟨h1, h3⟩ := ba (show (copOk o p && !behindInMarks p q && chkE ck a l && chkE ck b q) = true from h)
              obtain ⟨h1, h2⟩ := ba h1
              obtain ⟨h1, h4⟩ := ba h1
              cases of_decide_eq_true (show decide (cop o = p) = true from h1)
              obtain ⟨r1, r2⟩ := refs_l r
              exact se_two (pe_cmpR (op_cmpD x.hu o) (ha.1 X ck W l x r1 h2) (hb.1 X ck W q x r2 h3) (bnot h4)) fun x y u v H mp st Q E S hx hy q => ⟨E, x, y, st, mp, S, hx, hy, q⟩
    | _ => cases h
  have hT : GT lev (.cmp o a b) := fun X ck W pe x r h => by
    cases pe with
    | Compare l ps qs pos =>
      cases ps with
      | nil => cases h
      | cons p ps =>
        cases ps with
        | cons _ _ => cases h
        | nil =>
          cases qs with
          | nil => cases h
          | cons q qs =>
            cases qs with
            | cons _ _ => cases h
            | nil =>
              obtain ⟨h1, h3⟩ := ba (show (copOk o p && !behindInMarks p q && chkE ck a l && chkE ck b q) = true from h)
              obtain ⟨h1, h2⟩ := ba h1
              obtain ⟨h1, h4⟩ := ba h1
              cases of_decide_eq_true (show decide (cop o = p) = true from h1)
              obtain ⟨r1, r2⟩ := refs_l r
              refine st_bl (ma := fun ρ st => ((den a).e ρ st).bind fun x st1 => ((den b).e ρ st1).bind fun y st2 => cmpD o x y st2) (pt_cmpR (op_cmpD x.hu o) (ha.1 X ck W l x r1 h2) (hb.1 X ck W q x r2 h3) (bnot h4)) (fun σ H Q ⟨ρ, st, mp, he, S, q⟩ => ?_) fun ρ st z st1 hz => ?_
              · exact tG_bind he S q fun v H1 x st1 mp1 e1 he1 S1 d1 q1 => tG_bind he1 S1 q1 fun u H2 y st2 mp2 e2 he2 S2 d2 q2 => ⟨_, x, y, st2, mp2, S2, DR.ext e2 x v d1, d2, q2⟩
              · obtain ⟨_, _, _, hz⟩ := bind_ok_inv hz
                obtain ⟨_, _, _, hz⟩ := bind_ok_inv hz
                exact cmpD_bl hz
    | _ => cases h
  exact mkG (fun _ es => by cases es <;> rfl) (fun _ _ pe => by cases pe <;> rfl) hE hT
theorem chain_of {K : PySem.W.Frag} {W : WX} {o o' : Cop} {ma mb mc : Env → Sto → R D} {σ : L2.St} {H : Hp} {Q : VK}
    (h : tE K W (fun ρ st => (ma ρ st).bind fun x st1 => (mb ρ st1).bind fun y st2 => (cmpD o x y st2).bind fun z st3 => andD z st3 fun st3 => (mc ρ st3).bind fun w st4 => cmpD o' y w st4) σ H Q) :
    tChain (rD K (cmpD o)) (rD K (cmpD o')) (tE K W ma) (tE K W mb) (tE K W mc) σ H Q := by
  obtain ⟨ρ, st, mp, he, S, q⟩ := h
  refine tG_bind he S q fun v H1 x st1 mp1 e1 he1 S1 d1 q1 => tG_bind he1 S1 q1 fun u H2 y st2 mp2 e2 he2 S2 d2 q2 => ?_
  refine ⟨_, x, y, st2, mp2, S2, DR.ext e2 x v d1, d2, (RP.bind (r1 := DR K) q2).mono fun z H3 ⟨dz, st3, mp3, e3, S3, d3, q3⟩ => ?_⟩
  cases dz with
  | bl k =>
    cases dr_bl d3
    refine ⟨k, rfl, ?_⟩
    cases k with
    | true => exact tG_bind (he2.ext e3) S3 q3 fun w H4 z st4 mp4 e4 he4 S4 d4 q4 => ⟨_, y, z, st4, mp4, S4, DR.ext e4 y u (DR.ext e3 y u d2), d4, q4⟩
    | false => exact RP.ok q3 S3 (mk_bl false)
  | _ => exact q3.elim
theorem g_chain (o o' : Cop) (a b c : E) (ha : G lev a) (hb : G lev b) (hc : G lev c) : G lev (.chain o o' a b c) := by
  have key : ∀ X ck W pe, XOk X ck lev W → (∀ r ∈ refsE (.chain o o' a b c), RefOk (cxX X) lev r) → chkE ck (.chain o o' a b c) pe = true → PE X pe (tE X.K W (den (.chain o o' a b c)).e) ∧ PT X pe (tT X.K W (den (.chain o o' a b c)).t) := fun X ck W pe x r h => by
    cases pe with
    | Compare l ps qs pos =>
      cases ps with
      | nil => cases h
      | cons p ps =>
        cases ps with
        | nil => cases qs <;> cases h
        | cons p' ps =>
          cases ps with
          | cons _ _ => cases h
          | nil =>
            cases qs with
            | nil => cases h
            | cons q qs =>
              cases qs with
              | nil => cases h
              | cons s qs =>
                cases qs with
                | cons _ _ => cases h
                | nil =>
                  obtain ⟨h1, h5⟩ := ba (show (copOk o p && copOk o' p' && !lastMarks [p, p'] [q, s] && chkE ck a l && chkE ck b q && chkE ck c s) = true from h)
                  obtain ⟨h1, h4⟩ := ba h1
                  obtain ⟨h1, h3⟩ := ba h1
                  obtain ⟨h1, h6⟩ := ba h1
                  obtain ⟨h1, h2⟩ := ba h1
                  cases of_decide_eq_true (show decide (cop o = p) = true from h1)
                  cases of_decide_eq_true (show decide (cop o' = p') = true from h2)
                  obtain ⟨r1, r2⟩ := refs_l r
                  obtain ⟨r2, r3⟩ := refs_l r2
                  have A := ha.1 X ck W l x r1 h3
                  have B := hb.1 X ck W q x r2 h4
                  have C := hc.1 X ck W s x r3 h5
                  refine ⟨PE.of (pe_chain (op_cmpD x.hu o) (op_cmpD x.hu o') A B C (bnot h6)) fun σ H Q h => chain_of h, ?_⟩
                  refine st_bl (ma := (den (.chain o o' a b c)).e) (pt_chain (op_cmpD x.hu o) (op_cmpD x.hu o') A B C (bnot h6)) (fun σ H Q h => chain_of h) fun ρ st z st1 hz => ?_
                  obtain ⟨_, _, _, hz⟩ := bind_ok_inv hz
                  obtain ⟨_, _, _, hz⟩ := bind_ok_inv hz
                  obtain ⟨z1, _, _, hz⟩ := bind_ok_inv hz
                  cases z1 with
                  | bl k =>
                    cases k with
                    | true =>
                      obtain ⟨_, _, _, hz⟩ := bind_ok_inv hz
                      exact cmpD_bl hz
                    | false => cases hz; exact ⟨_, rfl⟩
                  | _ => cases hz
    | _ => cases h
  exact mkG (fun _ es => by cases es <;> rfl) (fun _ _ pe => by cases pe <;> rfl) (fun X ck W pe x r h => (key X ck W pe x r h).1) fun X ck W pe x r h => (key X ck W pe x r h).2
theorem g_not (a : E) (ha : G lev a) : G lev (.not_ a) := by
  have hE : GE lev (.not_ a) := fun X ck W pe x r h => by
    cases pe with
    | UnaryOp o q pos =>
      cases o with
      | Not =>
        refine PE.of (pe_not (ha.1 X ck W q x r h)) fun σ H Q ⟨ρ, st, mp, he, S, q⟩ => tG_bind he S q fun v H1 x st1 mp1 e1 he1 S1 d1 q1 => ?_
        cases x with
        | bl k => cases dr_bl d1; exact ⟨k, rfl, RP.ok q1 S1 (mk_bl _)⟩
        | _ => exact q1.elim
      | _ => cases h
    | _ => cases h
  have hT : GT lev (.not_ a) := fun X ck W pe x r h => by
    cases pe with
    | UnaryOp o q pos =>
      cases o with
      | Not => exact PT.of (pt_not (ha.2.1 X ck W q x r h)) fun σ H Q ⟨ρ, st, mp, he, S, q⟩ => tG_bind (r1 := relB) he S q fun v H1 k st1 mp1 e1 he1 S1 d1 q1 => by subst d1; exact RP.ok q1 S1 rfl
      | _ => cases h
    | _ => cases h
  exact mkG (fun _ es => by cases es <;> rfl) (fun _ _ pe => by cases pe <;> rfl) hE hT
theorem g_and (l : E) (hl : G lev l) : G lev (.and_ l) := by
  refine mkG (fun _ es => by cases es <;> rfl) (fun _ _ pe => by cases pe <;> rfl) (fun X ck W pe x r h => ?_) fun X ck W pe x r h => ?_
  · cases pe with
    | BoolOp o es pos =>
      cases o with
      | And => cases es with
        | nil => cases h
        | cons e es => exact (hl.2.2.2.1 X ck W e es pos x r h).1
      | _ => cases es <;> cases h
    | _ => cases h
  · cases pe with
    | BoolOp o es pos =>
      cases o with
      | And => cases es with
        | nil => cases h
        | cons e es => exact (hl.2.2.2.1 X ck W e es pos x r h).2.pt
      | _ => cases es <;> cases h
    | _ => cases h
theorem g_or (l : E) (hl : G lev l) : G lev (.or_ l) := by
  refine mkG (fun _ es => by cases es <;> rfl) (fun _ _ pe => by cases pe <;> rfl) (fun X ck W pe x r h => ?_) fun X ck W pe x r h => ?_
  · cases pe with
    | BoolOp o es pos =>
      cases o with
      | Or => cases es with
        | nil => cases h
        | cons e es => exact (hl.2.2.2.2.1 X ck W e es pos x r h).1
      | _ => cases es <;> cases h
    | _ => cases h
  · cases pe with
    | BoolOp o es pos =>
      cases o with
      | Or => cases es with
        | nil => cases h
        | cons e es => exact (hl.2.2.2.2.1 X ck W e es pos x r h).2.pt
      | _ => cases es <;> cases h
    | _ => cases h
theorem g_ife (c a b : E) (hc : G lev c) (ha : G lev a) (hb : G lev b) : G lev (.ife c a b) := by
  refine mkG (fun _ es => by cases es <;> rfl) (fun _ _ pe => by cases pe <;> rfl) (fun X ck W pe x r h => ?_) fun X ck W pe x r h => pt_false fun _ _ => rfl
  cases pe with
  | IfExp p q s pos =>
    obtain ⟨h1, h3⟩ := ba (show (chkE ck c p && chkE ck a q && chkE ck b s) = true from h)
    obtain ⟨h1, h2⟩ := ba h1
    obtain ⟨r1, r2⟩ := refs_l r
    obtain ⟨r2, r3⟩ := refs_l r2
    refine PE.of (pe_ifExp (hc.2.1 X ck W p x r1 h1) (ha.1 X ck W q x r2 h2) (hb.1 X ck W s x r3 h3)) fun σ H Q ⟨ρ, st, mp, he, S, q⟩ => tG_bind (r1 := relB) he S q fun v H1 k st1 mp1 e1 he1 S1 d1 q1 => ?_
    subst d1
    cases k with
    | true => exact ⟨ρ, st1, mp1, he1, S1, q1⟩
    | false => exact ⟨ρ, st1, mp1, he1, S1, q1⟩
  | _ => cases h
theorem g_nil : G lev .nil := by
  refine ⟨fun X ck W pe x r h => ?_, fun X ck W pe x r h => ?_, fun X ck W es x r h => ?_, fun X ck W y es pos x r h => ?_, fun X ck W y es pos x r h => ?_, fun X ck W tg pe x r h => ?_⟩
  · cases pe <;> cases h
  · cases pe <;> cases h
  · cases es with
    | nil => exact PA.of pa_nil fun σ H Q ⟨ρ, st, mp, he, S, q⟩ => RP.ok q S .nil
    | cons _ _ => cases h
  · cases h
  · cases h
  · cases h
theorem isNil_eq {r : E} (h : r.isNil = true) : r = .nil := by cases r <;> first | rfl | cases h
theorem g_cons (a r : E) (ha : G lev a) (hr : G lev r) : G lev (.cons a r) := by
  refine ⟨fun X ck W pe x r h => ?_, fun X ck W pe x r h => ?_, fun X ck W es x rr h => ?_, fun X ck W y es pos x rr h => ?_, fun X ck W y es pos x rr h => ?_, fun X ck W tg pe x r h => ?_⟩
  · cases pe <;> cases h
  · cases pe <;> cases h
  · cases es with
    | nil => cases h
    | cons e es =>
      obtain ⟨h1, h3⟩ := ba (show (!isStar e && chkE ck a e && chkA ck r es) = true from h)
      obtain ⟨h1, h2⟩ := ba h1
      obtain ⟨r1, r2⟩ := refs_l rr
      exact PA.of (pa_cons (ha.1 X ck W e x r1 h2) (hr.2.2.1 X ck W es x r2 h3) (star_cons (bnot h1))) fun σ H Q ⟨ρ, st, mp, he, S, q⟩ => tG_bind he S q fun v H1 x st1 mp1 e1 he1 S1 d1 q1 =>
        tG_bind (r1 := relL X.K) he1 S1 q1 fun vs H2 xs st2 mp2 e2 he2 S2 d2 q2 => RP.ok q2 S2 (.cons (DR.ext e2 _ _ d1) d2)
  · obtain ⟨h1, h3⟩ := ba (show (!isStar y && chkE ck a y && chkA ck r es) = true from h)
    obtain ⟨h1, h2⟩ := ba h1
    obtain ⟨r1, r2⟩ := refs_l rr
    have A := ha.1 X ck W y x r1 h2
    have AT := ha.2.1 X ck W y x r1 h2
    cases hn : r.isNil with
    | true =>
      cases isNil_eq hn
      cases es with
      | cons _ _ => cases h3
      | nil => exact ⟨pe_one A, pw_and1 AT⟩
    | false =>
      cases es with
      | nil => cases r <;> first | (cases hn; done) | (cases h3; done)
      | cons z es =>
        obtain ⟨B, BT⟩ := hr.2.2.2.1 X ck W z es pos x r2 h3
        have e1 : (den (.cons a r)).an = fun ρ st => ((den a).e ρ st).bind fun x st1 => andD x st1 ((den r).an ρ) := by funext ρ st; show (if r.isNil = true then _ else _) = _; rw [hn]; rfl
        have e2 : (den (.cons a r)).ta = fun ρ st => ((den a).t ρ st).bind fun x st1 => andT x st1 ((den r).ta ρ) := by funext ρ st; show (if r.isNil = true then _ else _) = _; rw [hn]; rfl
        rw [e1, e2]
        refine ⟨PE.of (pe_and A B) fun σ H Q ⟨ρ, st, mp, he, S, q⟩ => tG_bind he S q fun v H1 x st1 mp1 e1 he1 S1 d1 q1 => ?_, PW.of (pw_and AT BT) fun σ H Q ⟨ρ, st, mp, he, S, q⟩ => tG_bind (r1 := relB) he S q fun v H1 x st1 mp1 e1 he1 S1 d1 q1 => ?_⟩
        · cases x with
          | bl k =>
            cases dr_bl d1
            refine ⟨k, rfl, ?_⟩
            cases k with
            | true => exact ⟨ρ, st1, mp1, he1, S1, q1⟩
            | false => exact RP.ok q1 S1 (mk_bl _)
          | _ => exact q1.elim
        · subst d1
          cases x with
          | true => exact ⟨ρ, st1, mp1, he1, S1, q1⟩
          | false => exact RP.ok q1 S1 rfl
  · obtain ⟨h1, h3⟩ := ba (show (!isStar y && chkE ck a y && chkA ck r es) = true from h)
    obtain ⟨h1, h2⟩ := ba h1
    obtain ⟨r1, r2⟩ := refs_l rr
    have A := ha.1 X ck W y x r1 h2
    have AT := ha.2.1 X ck W y x r1 h2
    cases hn : r.isNil with
    | true =>
      cases isNil_eq hn
      cases es with
      | cons _ _ => cases h3
      | nil => exact ⟨pe_one A, pw_or1 AT⟩
    | false =>
      cases es with
      | nil => cases r <;> first | (cases hn; done) | (cases h3; done)
      | cons z es =>
        obtain ⟨B, BT⟩ := hr.2.2.2.2.1 X ck W z es pos x r2 h3
        have e1 : (den (.cons a r)).o = fun ρ st => ((den a).e ρ st).bind fun x st1 => orD x st1 ((den r).o ρ) := by funext ρ st; show (if r.isNil = true then _ else _) = _; rw [hn]; rfl
        have e2 : (den (.cons a r)).to = fun ρ st => ((den a).t ρ st).bind fun x st1 => orT x st1 ((den r).to ρ) := by funext ρ st; show (if r.isNil = true then _ else _) = _; rw [hn]; rfl
        rw [e1, e2]
        refine ⟨PE.of (pe_or A B) fun σ H Q ⟨ρ, st, mp, he, S, q⟩ => tG_bind he S q fun v H1 x st1 mp1 e1 he1 S1 d1 q1 => ?_, PW.of (pw_or AT BT) fun σ H Q ⟨ρ, st, mp, he, S, q⟩ => tG_bind (r1 := relB) he S q fun v H1 x st1 mp1 e1 he1 S1 d1 q1 => ?_⟩
        · cases x with
          | bl k =>
            cases dr_bl d1
            refine ⟨k, rfl, ?_⟩
            cases k with
            | false => exact ⟨ρ, st1, mp1, he1, S1, q1⟩
            | true => exact RP.ok q1 S1 (mk_bl _)
          | _ => exact q1.elim
        · subst d1
          cases x with
          | false => exact ⟨ρ, st1, mp1, he1, S1, q1⟩
          | true => exact RP.ok q1 S1 rfl
  · cases h
theorem g_tup (l : E) (hl : G lev l) : G lev (.tup l) := by
  have hE : GE lev (.tup l) := fun X ck W pe x r h => by
    cases pe with
    | Tuple es k pos =>
      exact PE.of (pe_tup (hl.2.2.1 X ck W es x r h)) fun σ H Q ⟨ρ, st, mp, he, S, q⟩ => tG_bind (r1 := relL X.K) he S q fun vs H1 xs st1 mp1 e1 he1 S1 d1 q1 => by
        obtain ⟨hz, q1⟩ := RP.if q1
        exact ⟨d1.length ▸ hz, RP.tup q1 S1 d1⟩
    | _ => cases h
  exact mkG (fun _ es => by cases es <;> rfl) (fun _ _ pe => by cases pe <;> rfl) hE (mkT hE rfl fun ck pe h => by cases pe <;> first | rfl | cases h)
theorem g_lst (l : E) (hl : G lev l) : G lev (.lst l) := by
  have hE : GE lev (.lst l) := fun X ck W pe x r h => by
    cases pe with
    | List es pos =>
      exact PE.of (pe_lst (hl.2.2.1 X ck W es x r h)) fun σ H Q ⟨ρ, st, mp, he, S, q⟩ => tG_bind (r1 := relL X.K) he S q fun vs H1 xs st1 mp1 e1 he1 S1 d1 q1 => by
        obtain ⟨hz, q1⟩ := RP.ifL q1
        exact ⟨d1.length ▸ hz, RP.lst q1 S1 d1⟩
    | _ => cases h
  exact mkG (fun _ es => by cases es <;> rfl) (fun _ _ pe => by cases pe <;> rfl) hE (mkT hE rfl fun ck pe h => by cases pe <;> first | rfl | cases h)
end
end M1
namespace M1
open PySem PySem.Spec L2
section
variable {lev : Nat}
theorem g_sub (a i : E) (ha : G lev a) (hi : G lev i) : G lev (.sub a i) := by
  have hE : GE lev (.sub a i) := fun X ck W pe x r h => by
    cases pe with
    | Subscript p q pos =>
      obtain ⟨h1, h3⟩ := ba (show (!isSlc q && chkE ck a p && chkE ck i q) = true from h)
      obtain ⟨h1, h2⟩ := ba h1
      obtain ⟨r1, r2⟩ := refs_l r
      exact se_two (pe_ix ix_subD (ha.1 X ck W p x r1 h2) (hi.1 X ck W q x r2 h3) (ix_plain (bnot h1))) fun x y u v H mp st Q E S hx hy q => ⟨E, x, y, st, mp, S, hx, hy, q⟩
    | _ => cases h
  exact mkG (fun _ es => by cases es <;> rfl) (fun _ _ pe => by cases pe <;> rfl) hE (mkT hE rfl fun ck pe h => by cases pe <;> first | rfl | cases h)
theorem den_p (e : E) (h : e.isNil = false) : (∀ ρ st, (den e).p ρ st = ((den e).e ρ st).bind partR) ∨ ∀ ρ st, (den e).p ρ st = .stuck := by
  cases e <;> first | cases h; done | exact .inl fun _ _ => rfl | exact .inr fun _ _ => rfl
theorem den_c (e : E) (h : e.isNil = false) : (den e).c = (den e).t := by
  cases e <;> first | cases h; done | rfl
theorem po_of {X : Cx} {W : WX} {pe : Expr} {e : E} (h : PE X pe (tE X.K W (den e).e)) (hn : e.isNil = false) : PO X (some pe) (tP X.K W (den e).p) := by
  refine PO.of (po_some h) fun σ H Q ⟨ρ, st, mp, he, S, q⟩ => ?_
  rcases den_p e hn with z | z
  · rw [z] at q
    refine tG_bind (m1 := (den e).e) (f := partR) (r2 := relP) he S q fun v H1 x st1 mp1 e1 he1 S1 d1 q1 => ?_
    cases x with
    | int i => cases dr_int d1; exact ⟨i, rfl, RP.ok q1 S1 rfl⟩
    | _ => exact q1.elim
  · rw [z] at q; exact q.elim
theorem g_cut (a lo hi : E) (ha : G lev a) (hl : G lev lo) (hh : G lev hi) : G lev (.cut a lo hi) := by
  have part : ∀ X ck W (o : Option Expr) (e : E), G lev e → XOk X ck lev W → (∀ r ∈ refsE e, RefOk (cxX X) lev r) → (match o with | none => e.isNil | some p => !e.isNil && chkE ck e p) = true → PO X o (tP X.K W (den e).p) := fun X ck W o e g x r h => by
    cases o with
    | none =>
      cases isNil_eq h
      exact PO.of po_none fun σ H Q ⟨ρ, st, mp, he, S, q⟩ => RP.ok q S rfl
    | some p =>
      obtain ⟨h1, h2⟩ := ba h
      exact po_of (g.1 X ck W p x r h2) (bnot h1)
  have hE : GE lev (.cut a lo hi) := fun X ck W pe x r h => by
    cases pe with
    | Subscript p q pos =>
      cases q with
      | Slice l u s p2 =>
        cases s with
        | none =>
          obtain ⟨h1, h3⟩ := ba (show (_ && _ && _) = true from h)
          obtain ⟨h1, h2⟩ := ba h1
          obtain ⟨r1, r2⟩ := refs_l r
          obtain ⟨r2, r3⟩ := refs_l r2
          refine PE.of (pe_slice sl_cutD (ha.1 X ck W p x r1 h1) (part X ck W l lo hl x r2 h2) (part X ck W u hi hh x r3 h3)) fun σ H Q ⟨ρ, st, mp, he, S, q⟩ => tG_bind he S q fun v H1 x st1 mp1 e1 he1 S1 d1 q1 =>
            tG_bind (r1 := relP) he1 S1 q1 fun vs H2 xs st2 mp2 e2 he2 S2 d2 q2 => tG_bind (r1 := relP) he2 S2 q2 fun vs H3 xs st3 mp3 e3 he3 S3 d3 q3 => ?_
          subst d2 d3
          exact ⟨_, x, st3, mp3, S3, DR.ext e3 _ _ (DR.ext e2 _ _ d1), q3⟩
        | some _ => cases h
      | _ => cases h
    | _ => cases h
  exact mkG (fun _ es => by cases es <;> rfl) (fun _ _ pe => by cases pe <;> rfl) hE (mkT hE rfl fun ck pe h => by cases pe <;> first | rfl | cases h)
theorem chkA_star {ck : Ck} : ∀ {l : E} {es : List Expr}, chkA ck l es = true → (es.all fun e => !isStar e) = true
  | .nil, [], _ => rfl
  | .cons a r, e :: es, h => by
    obtain ⟨h1, h3⟩ := ba (show (!isStar e && chkE ck a e && chkA ck r es) = true from h)
    obtain ⟨h1, h2⟩ := ba h1
    rw [List.all_cons, h1, chkA_star h3]; rfl
  | .nil, _ :: _, h => by cases h
  | .cons _ _, [], h => by cases h
  | .var _, es, h => by cases es <;> cases h
  | .int _, es, h => by cases es <;> cases h
  | .bl _, es, h => by cases es <;> cases h
  | .non, es, h => by cases es <;> cases h
  | .str _, es, h => by cases es <;> cases h
  | .gint _ _, es, h => by cases es <;> cases h
  | .gstr _ _, es, h => by cases es <;> cases h
  | .bin _ _ _, es, h => by cases es <;> cases h
  | .neg _, es, h => by cases es <;> cases h
  | .cmp _ _ _, es, h => by cases es <;> cases h
  | .chain _ _ _ _ _, es, h => by cases es <;> cases h
  | .not_ _, es, h => by cases es <;> cases h
  | .and_ _, es, h => by cases es <;> cases h
  | .or_ _, es, h => by cases es <;> cases h
  | .ife _ _ _, es, h => by cases es <;> cases h
  | .tup _, es, h => by cases es <;> cases h
  | .lst _, es, h => by cases es <;> cases h
  | .sub _ _, es, h => by cases es <;> cases h
  | .cut _ _ _, es, h => by cases es <;> cases h
  | .call _ _ _, es, h => by cases es <;> cases h
  | .meth _ _ _ _ _, es, h => by cases es <;> cases h
  | .make _ _ _, es, h => by cases es <;> cases h
  | .fld _ _ _, es, h => by cases es <;> cases h
  | .bi _ _, es, h => by cases es <;> cases h
  | .bic _ _, es, h => by cases es <;> cases h
  | .isi _ _, es, h => by cases es <;> cases h
  | .bm _ _ _, es, h => by cases es <;> cases h
  | .comp _ _ _ _, es, h => by cases es <;> cases h
  | .iVal _, es, h => by cases es <;> cases h
  | .iRange _, es, h => by cases es <;> cases h
  | .iZip _, es, h => by cases es <;> cases h
  | .iEnum _, es, h => by cases es <;> cases h
  | .iRev _, es, h => by cases es <;> cases h
theorem star_hd {e : Expr} {es : List Expr} {env : PySem.Env} {pos : Pos} (h : ((e :: es).all fun e => !isStar e) = true) : starEach (e :: es) env = (false, eval e env) :: starEach es env ∧ (backTo pos (starEach es env)).any (·.1) = false := by
  rw [List.all_cons] at h
  obtain ⟨h1, h2⟩ := ba h
  exact ⟨star_cons (bnot h1), star_any h2⟩
theorem chkA_nil {ck : Ck} {l : E} (h : chkA ck l [] = true) : l = .nil := by cases l <;> first | rfl | (cases h; done)
theorem g_call (f : Str) (g : Fn) (l : E) (hl : G lev l) : G lev (.call f g l) := by
  have hE : GE lev (.call f g l) := fun X ck W pe x r h => by
    cases pe with
    | Call fe es ks pos =>
      cases fe with
      | Name y p =>
        cases ks with
        | cons _ _ => cases h
        | nil =>
          obtain ⟨h1, h3⟩ := ba (show (decide (f = y) && ck.glob y && chkA ck l es) = true from h)
          obtain ⟨h1, h2⟩ := ba h1
          cases of_decide_eq_true h1
          obtain ⟨h4, h5⟩ := x.glob h2
          obtain ⟨r1, r2⟩ := refs_c r
          cases es with
          | nil =>
            cases chkA_nil h3
            exact se_call0 r1 x.room x.takes h4 h5
          | cons e es =>
            obtain ⟨s1, s2⟩ := star_hd (env := X.env) (pos := pos) (chkA_star h3)
            exact se_call r1 x.room x.takes h4 (hl.2.2.1 X ck W _ x r2 h3) h5 s1 s2
      | _ => cases h
    | _ => cases h
  exact mkG (fun _ es => by cases es <;> rfl) (fun _ _ pe => by cases pe <;> rfl) hE (mkT hE rfl fun ck pe h => by cases pe <;> first | rfl | cases h)
theorem few_of {es : List Expr} {env : PySem.Env} {pos : Pos} {n : Nat} (h : (es.all fun e => !isStar e) = true) (hl : es.length < n) (hn : n ≤ 30) : methodCallForm (es.length + ([] : List Keyword).length) (backTo pos (starEach es env)) (backToKw pos (keywordEach [] env)) = true := by
  unfold methodCallForm
  rw [star_all h]
  show (true && true && decide (es.length + 0 + 0 < 30)) = true
  simp; omega
theorem g_meth (o : E) (c : Nat) (m : Str) (f : Fn) (l : E) (ho : G lev o) (hl : G lev l) : G lev (.meth o c m f l) := by
  have hE : GE lev (.meth o c m f l) := fun X ck W pe x r h => by
    cases pe with
    | Call fe es ks pos =>
      cases fe with
      | Attribute p n ap =>
        cases ks with
        | cons _ _ => cases h
        | nil =>
          obtain ⟨h1, h6⟩ := ba (show (decide (m = n) && baseOk p && (ap.endLine == pos.line) && decide (es.length < 30) && chkE ck o p && chkA ck l es) = true from h)
          obtain ⟨h1, h5⟩ := ba h1
          obtain ⟨h1, h4⟩ := ba h1
          obtain ⟨h1, h3⟩ := ba h1
          obtain ⟨h1, h2⟩ := ba h1
          cases of_decide_eq_true h1
          obtain ⟨r1, r0⟩ := refs_c r
          obtain ⟨r2, r3⟩ := refs_l r0
          cases es with
          | nil =>
            cases chkA_nil h6
            exact se_meth0 r1 x.room x.takes (ho.1 X ck W p x r2 h5) (base_plain h2) h3
          | cons e es =>
            obtain ⟨s1, s2⟩ := star_hd (env := X.env) (pos := pos) (chkA_star h6)
            exact se_meth r1 x.room x.takes (ho.1 X ck W p x r2 h5) (hl.2.2.1 X ck W _ x r3 h6) s1 s2 (base_plain h2) (few_of (chkA_star h6) (of_decide_eq_true h4) (Nat.le_refl _)) h3
      | _ => cases h
    | _ => cases h
  exact mkG (fun _ es => by cases es <;> rfl) (fun _ _ pe => by cases pe <;> rfl) hE (mkT hE rfl fun ck pe h => by cases pe <;> first | rfl | cases h)
theorem g_make (c : Nat) (f : Fn) (l : E) (hl : G lev l) : G lev (.make c f l) := by
  have hE : GE lev (.make c f l) := fun X ck W pe x r h => by
    cases pe with
    | Call fe es ks pos =>
      cases fe with
      | Name y p =>
        cases ks with
        | cons _ _ => cases h
        | nil =>
          obtain ⟨h1, h3⟩ := ba (show (decide (nm c = y) && ck.glob y && chkA ck l es) = true from h)
          obtain ⟨h1, h2⟩ := ba h1
          cases of_decide_eq_true h1
          obtain ⟨h4, h5⟩ := x.glob h2
          obtain ⟨r1, r2⟩ := refs_c r
          cases es with
          | nil =>
            cases chkA_nil h3
            exact se_make0 r1 x.room x.takes h4 h5
          | cons e es =>
            obtain ⟨s1, s2⟩ := star_hd (env := X.env) (pos := pos) (chkA_star h3)
            exact se_make r1 x.room x.takes h4 (hl.2.2.1 X ck W _ x r2 h3) h5 s1 s2
      | _ => cases h
    | _ => cases h
  exact mkG (fun _ es => by cases es <;> rfl) (fun _ _ pe => by cases pe <;> rfl) hE (mkT hE rfl fun ck pe h => by cases pe <;> first | rfl | cases h)
theorem g_fld (o : E) (c f : Nat) (ho : G lev o) : G lev (.fld o c f) := by
  have hE : GE lev (.fld o c f) := fun X ck W pe x r h => by
    cases pe with
    | Attribute p n ap =>
      obtain ⟨h1, h3⟩ := ba (show (decide (nm f = n) && baseOk p && chkE ck o p) = true from h)
      obtain ⟨h1, h2⟩ := ba h1
      cases of_decide_eq_true h1
      obtain ⟨⟨r1, r2, r3⟩, r4⟩ := refs_c r
      refine PE.of (pe_fld (ho.1 X ck W p x r4 h3) (base_plain h2)) fun σ H Q ⟨ρ, st, mp, he, S, q⟩ => tG_bind he S q fun v H1 x st1 mp1 e1 he1 S1 d1 q1 => ?_
      obtain ⟨a, dx, fs, v, rfl, h5, h6, h7⟩ := rp_fld r1 S1 d1 q1
      exact ⟨a, _, dx, fs, v, rfl, h5, r2, r3, h6, h7⟩
    | _ => cases h
  exact mkG (fun _ es => by cases es <;> rfl) (fun _ _ pe => by cases pe <;> rfl) hE (mkT hE rfl fun ck pe h => by cases pe <;> first | rfl | cases h)
theorem bi_facts (b : Bi) : (biN b ∈ bnames) ∧ bootBuiltins (biN b) = some (biV b) ∧ biN b ≠ "__name__" := by
  cases b <;> exact ⟨by decide +kernel, by with_unfolding_all rfl, by decide +kernel⟩
theorem se_bi {X : Cx} {b : Bi} {x : Str} {p pos : Pos} {e : Expr} {es : List Expr} {t : TA} {r : List V → Hp → VK → Prop} (hx : biN b = x) (hc : CallR X (biV b) r) (hg : Gl X x) (hm : X.mg x = none) (ha : PA X (e :: es) t) (hdb : (x == ("__debug__" : Str)) = false)
    (he : starEach (e :: es) X.env = (false, eval e X.env) :: starEach es X.env) (hpl : (backTo pos (starEach es X.env)).any (·.1) = false) : PE X (.Call (.Name x p) (e :: es) [] pos) (tCB r t) := by
  subst hx
  have hv := (bi_facts b).2.1
  have hn := (bi_facts b).2.2
  cases b <;> first | exact pe_callB hc hg hm hv ha hn hdb he hpl | exact pe_callTy hc hg hm hv ha hn hdb he hpl
theorem g_bi (b : Bi) (l : E) (hl : G lev l) : G lev (.bi b l) := by
  have hE : GE lev (.bi b l) := fun X ck W pe x r h => by
    cases pe with
    | Call fe es ks pos =>
      cases fe with
      | Name y p =>
        cases ks with
        | cons _ _ => cases es <;> cases h
        | nil =>
          cases es with
          | nil => cases h
          | cons e es =>
            obtain ⟨h1, h3⟩ := ba (show (decide (biN b = y) && ck.glob y && chkA ck l (e :: es)) = true from h)
            obtain ⟨h1, h2⟩ := ba h1
            cases of_decide_eq_true h1
            obtain ⟨h4, h5⟩ := x.glob h2
            obtain ⟨s1, s2⟩ := star_hd (env := X.env) (pos := pos) (chkA_star h3)
            refine PE.of (se_bi rfl (call_biD x.calm b) h4 (x.free _ (bi_facts b).1) (hl.2.2.1 X ck W _ x r h3) h5 s1 s2) fun σ H Q ⟨ρ, st, mp, he, S, q⟩ => tG_bind (r1 := relL X.K) he S q fun v H1 x st1 mp1 e1 he1 S1 d1 q1 => ?_
            exact ⟨_, x, st1, mp1, S1, d1, q1⟩
      | _ => cases es <;> cases ks <;> cases h
    | _ => cases h
  exact mkG (fun _ es => by cases es <;> rfl) (fun _ _ pe => by cases pe <;> rfl) hE (mkT hE rfl fun ck pe h => by cases pe <;> first | rfl | cases h)
theorem se_isi {X : Cx} {W : WX} {y z : Str} {t : Ty} {p p2 pos : Pos} {e : Expr} {ma : Env → Sto → R M1.D} (hy : y = ("isinstance" : Str)) (hz : tyS t = z) (hg : Gl X y) (hg2 : Gl X z) (hm : X.mg y = none) (hm2 : X.mg z = none) (he : PE X e (tE X.K W ma)) (hs : isStar e = false) :
    PE X (.Call (.Name y p) [e, .Name z p2] [] pos) (tE X.K W fun ρ st => (ma ρ st).bind fun x st1 => okO (isiD x t) .bl st1) := by
  subst hy hz
  have hT : PE X (.Name (tyS t) p2) (tC (.ty (tyN t))) := pe_bltn (u := .type (tyN t)) hg2 hm2 (by cases t <;> with_unfolding_all rfl) rfl (by cases t <;> decide +kernel) (by cases t <;> decide +kernel)
  have s : ([e, Expr.Name (tyS t) p2].all fun e => !isStar e) = true := by simp [hs]; rfl
  obtain ⟨s1, s2⟩ := star_hd (env := X.env) (pos := pos) s
  refine PE.of (pe_callB call_isi hg hm (by with_unfolding_all rfl) (pa_cons he (pa_cons hT pa_nil rfl) s1) (by decide +kernel) (by decide +kernel) s1 s2) fun σ H Q ⟨ρ, st, mp, hE, S, q⟩ => tG_bind hE S q fun v H1 x st1 mp1 e1 he1 S1 d1 q1 => ?_
  obtain ⟨k, e2, q2⟩ := RP.someO q1
  obtain ⟨ty, h1, h2⟩ := isiD_of d1 e2
  exact ⟨v, .ty (tyN t), ty, .type (tyN t), k, rfl, .ty _, h1, h2, RP.ok q2 S1 (mk_bl k)⟩
theorem g_isi (a : E) (t : Ty) (ha : G lev a) : G lev (.isi a t) := by
  have hE : GE lev (.isi a t) := fun X ck W pe x r h => by
    unfold chkE at h
    split at h
    · rename_i y p e z p2 pos
      obtain ⟨h1, h5⟩ := ba h
      obtain ⟨h1, h6⟩ := ba h1
      obtain ⟨h1, h4⟩ := ba h1
      obtain ⟨h1, h3⟩ := ba h1
      obtain ⟨h1, h2⟩ := ba h1
      have hy := of_decide_eq_true h1
      have hz := of_decide_eq_true h3
      obtain ⟨g1, _⟩ := x.glob h2
      obtain ⟨g2, _⟩ := x.glob h4
      exact se_isi hy hz g1 g2 (x.free _ (by rw [hy]; decide +kernel)) (x.free _ (by rw [← hz]; cases t <;> decide +kernel)) (ha.1 X ck W e x r h5) (bnot h6)
    · cases h
  exact mkG (fun _ es => by cases es <;> rfl) (fun _ _ pe => by cases pe <;> rfl) hE (mkT hE rfl fun ck pe h => by cases pe <;> first | rfl | cases h)
theorem bm_facts (b : Bm) : Slot "list" (bmN b) (bmId b) ∧ typeOf (.builtin (bmId b)) = pure (.type "method_descriptor") := by
  cases b with
  | append => exact ⟨PySem.F.slot_list_append, PySem.F.type_list_append⟩
  | pop => exact ⟨PySem.F.slot_list_pop, PySem.F.type_list_pop⟩
  | popAt => exact ⟨PySem.F.slot_list_pop, PySem.F.type_list_pop⟩
  | insert => exact ⟨PySem.F.slot_list_insert, PySem.F.type_list_insert⟩
  | extend => exact ⟨PySem.F.slot_list_extend, PySem.F.type_list_extend⟩
theorem onLst_of {K : PySem.W.Frag} {x : M1.D} {u : V} {H : Hp} {mp : List Addr} {st : Sto} {k : Sto → R M1.D} {Q : VK} {E : XK} (S : StoR K H mp st) (hx : DR K H mp x u) (q : RP K (DR K) H mp (onLst x st k) Q E) : tyV K "list" u H ∧ RP K (DR K) H mp (k st) Q E := by
  cases x with
  | loc n =>
    obtain ⟨a, ha, rfl⟩ := dr_loc hx
    unfold onLst at q
    dsimp only at q
    cases e : lstAt st n with
    | none => rw [e] at q; exact q.elim
    | some fs =>
      rw [e] at q
      obtain ⟨vs, h1, h2⟩ := lstAt_of S e ha
      exact ⟨.inl ⟨rfl, vs, SqL.of h1⟩, q⟩
  | _ => exact q.elim
theorem g_bm (b : Bm) (o l : E) (ho : G lev o) (hl : G lev l) : G lev (.bm b o l) := by
  have hE : GE lev (.bm b o l) := fun X ck W pe x r h => by
    cases pe with
    | Call fe es ks pos =>
      cases fe with
      | Attribute p n ap =>
        cases ks with
        | cons _ _ => cases h
        | nil =>
          obtain ⟨h1, h6⟩ := ba (show (decide (bmN b = n) && baseOk p && (ap.endLine == pos.line) && decide (es.length < 29) && chkE ck o p && chkA ck l es) = true from h)
          obtain ⟨h1, h5⟩ := ba h1
          obtain ⟨h1, h4⟩ := ba h1
          obtain ⟨h1, h3⟩ := ba h1
          obtain ⟨h1, h2⟩ := ba h1
          cases of_decide_eq_true h1
          obtain ⟨r2, r3⟩ := refs_l r
          obtain ⟨f1, f2⟩ := bm_facts b
          cases es with
          | nil =>
            cases chkA_nil h6
            refine PE.of (pe_bm0 PySem.F.plainAttrs_list f1 f2 (mt_bmD b) (ho.1 X ck W p x r2 h5) (base_plain h2) h3) fun σ H Q ⟨ρ, st, mp, he, S, q⟩ => tG_bind he S q fun v H1 x st1 mp1 e1 he1 S1 d1 q1 => ?_
            obtain ⟨t1, q2⟩ := onLst_of S1 d1 q1
            exact ⟨t1, _, x, [], st1, mp1, S1, d1, .nil, q2⟩
          | cons e es =>
            obtain ⟨s1, s2⟩ := star_hd (env := X.env) (pos := pos) (chkA_star h6)
            refine PE.of (pe_bm PySem.F.plainAttrs_list f1 f2 (mt_bmD b) (ho.1 X ck W p x r2 h5) (hl.2.2.1 X ck W _ x r3 h6) (base_plain h2) ?_ h3 s1 s2) fun σ H Q ⟨ρ, st, mp, he, S, q⟩ => tG_bind he S q fun v H1 x st1 mp1 e1 he1 S1 d1 q1 => ?_
            · rw [star_all (chkA_star h6)]
              show (true && true && decide ((e :: es).length + 0 + 0 < 30)) = true
              have := of_decide_eq_true h4
              simp at this ⊢; omega
            · obtain ⟨t1, q2⟩ := onLst_of S1 d1 q1
              exact ⟨t1, tG_bind (r1 := relL X.K) he1 S1 q2 fun vs H2 xs st2 mp2 e2 he2 S2 d2 q3 => ⟨_, x, xs, st2, mp2, S2, DR.ext e2 _ _ d1, d2, q3⟩⟩
      | _ => cases h
    | _ => cases h
  exact mkG (fun _ es => by cases es <;> rfl) (fun _ _ pe => by cases pe <;> rfl) hE (mkT hE rfl fun ck pe h => by cases pe <;> first | rfl | cases h)
theorem g_iVal (a : E) (ha : G lev a) : G lev (.iVal a) :=
  mkI (fun _ pe => by cases pe <;> rfl) (fun _ es => by cases es <;> rfl) fun X ck W tg pe x r h => pi_val (ha.1 X ck W pe x r h)
theorem g_iRev (a : E) : G lev (.iRev a) :=
  mkI (fun _ pe => by cases pe <;> rfl) (fun _ es => by cases es <;> rfl) fun X ck W tg pe x r h => by cases pe <;> cases h
theorem chkA_one {ck : Ck} {l : E} {e : Expr} (h : chkA ck l [e] = true) : ∃ a, l = .cons a .nil := by
  cases l with
  | cons a r =>
    obtain ⟨_, h3⟩ := ba (show (_ && chkA ck r []) = true from h)
    exact ⟨a, by rw [chkA_nil h3]⟩
  | _ => cases h
theorem chkA_two {ck : Ck} {l : E} {e e2 : Expr} (h : chkA ck l [e, e2] = true) : ∃ a b, l = .cons a (.cons b .nil) := by
  cases l with
  | cons a r =>
    obtain ⟨_, h3⟩ := ba (show (_ && chkA ck r [e2]) = true from h)
    obtain ⟨b, rfl⟩ := chkA_one h3
    exact ⟨a, b, rfl⟩
  | _ => cases h
theorem rg1_eq (r : R D) : (r.bind fun x st1 => (R.ok [] st1).bind fun xs st2 => .ok (x :: xs) st2).bind itRange = (r.bind fun x st1 => (R.ok [] st1).bind fun xs st2 => .ok (x :: xs) st2).bind fun xs st1 => match xs with | [.int j] => okIf (rgOk j) ⟨(List.range j.toNat).map fun i => D.int (i : Nat), []⟩ st1 | _ => .stuck := by
  cases r with
  | ok a st => cases a <;> rfl
  | _ => rfl
theorem rg2_eq (r : R D) (f : Sto → R D) : (r.bind fun x st1 => ((f st1).bind fun y st2 => (R.ok [] st2).bind fun xs st3 => .ok (y :: xs) st3).bind fun xs st2 => .ok (x :: xs) st2).bind itRange = (r.bind fun x st1 => ((f st1).bind fun y st2 => (R.ok [] st2).bind fun xs st3 => .ok (y :: xs) st3).bind fun xs st2 => .ok (x :: xs) st2).bind fun xs st1 => match xs with | [.int i, .int j] => okIf (rgOk i ∧ rgOk j) ⟨(List.range (j - i).toNat).map fun k => D.int (i + (k : Nat)), []⟩ st1 | _ => .stuck := by
  cases r with
  | ok a st =>
    simp only [R.bind_ok]
    cases f st with
    | ok b st => cases a <;> cases b <;> rfl
    | _ => rfl
  | _ => rfl
theorem no_key {e : Expr} {es : List Expr} {ck : Ck} {l : E} : True := trivial
theorem g_iRange (l : E) (hl : G lev l) : G lev (.iRange l) :=
  mkI (fun _ pe => by cases pe <;> rfl) (fun _ es => by cases es <;> rfl) fun X ck W tg pe x r h => by
    unfold chkI at h
    split at h
    · rename_i y p e pos
      obtain ⟨h1, h3⟩ := ba h
      obtain ⟨h1, h2⟩ := ba h1
      obtain ⟨g1, _⟩ := x.glob h2
      cases of_decide_eq_true h1
      obtain ⟨s1, s2⟩ := star_hd (env := X.env) (pos := pos) (chkA_star h3)
      obtain ⟨a, rfl⟩ := chkA_one h3
      refine PI.of (pi_rg1 g1 (x.free _ (by decide +kernel)) (hl.2.2.1 X ck W _ x r h3) s1) fun σ H R ⟨ρ, st, mp, he, S, q⟩ => ⟨ρ, st, mp, he, S, ?_⟩
      have e := rg1_eq ((den a).e ρ st)
      exact Eq.mp (congrArg (fun r => RP X.K _ H mp r _ _) e) q
    · rename_i y p e e2 pos
      obtain ⟨h1, h3⟩ := ba h
      obtain ⟨h1, h2⟩ := ba h1
      obtain ⟨g1, _⟩ := x.glob h2
      cases of_decide_eq_true h1
      obtain ⟨s1, s2⟩ := star_hd (env := X.env) (pos := pos) (chkA_star h3)
      have h4 := chkA_star h3
      rw [List.all_cons] at h4
      obtain ⟨s3, _⟩ := star_hd (env := X.env) (pos := pos) (ba h4).2
      obtain ⟨a, b, rfl⟩ := chkA_two h3
      refine PI.of (pi_rg2 g1 (x.free _ (by decide +kernel)) (hl.2.2.1 X ck W _ x r h3) (by rw [s1, s3]; rfl) s3) fun σ H R ⟨ρ, st, mp, he, S, q⟩ => ⟨ρ, st, mp, he, S, ?_⟩
      have e := rg2_eq ((den a).e ρ st) ((den b).e ρ)
      exact Eq.mp (congrArg (fun r => RP X.K _ H mp r _ _) e) q
    · cases h
theorem tup_of {tg : Expr} (h : isTupE tg = true) : ∃ es k p, tg = .Tuple es k p := by cases tg <;> first | exact ⟨_, _, _, rfl⟩ | cases h
theorem g_iZip (l : E) (hl : G lev l) : G lev (.iZip l) :=
  mkI (fun _ pe => by cases pe <;> rfl) (fun _ es => by cases es <;> rfl) fun X ck W tg pe x r h => by
    unfold chkI at h
    split at h
    · rename_i y p e e2 pos
      obtain ⟨h1, h3⟩ := ba h
      obtain ⟨h1, h2⟩ := ba h1
      obtain ⟨h0, h1⟩ := ba h1
      obtain ⟨es, k, tp, rfl⟩ := tup_of h0
      obtain ⟨g1, _⟩ := x.glob h2
      cases of_decide_eq_true h1
      obtain ⟨s1, s2⟩ := star_hd (env := X.env) (pos := pos) (chkA_star h3)
      exact pi_zp g1 (x.free _ (by decide +kernel)) (hl.2.2.1 X ck W _ x r h3) s1 s2
    · cases h
theorem g_iEnum (l : E) (hl : G lev l) : G lev (.iEnum l) :=
  mkI (fun _ pe => by cases pe <;> rfl) (fun _ es => by cases es <;> rfl) fun X ck W tg pe x r h => by
    unfold chkI at h
    split at h
    · rename_i y p e pos
      obtain ⟨h1, h3⟩ := ba h
      obtain ⟨h1, h2⟩ := ba h1
      obtain ⟨h0, h1⟩ := ba h1
      obtain ⟨es, k, tp, rfl⟩ := tup_of h0
      obtain ⟨g1, _⟩ := x.glob h2
      cases of_decide_eq_true h1
      obtain ⟨s1, s2⟩ := star_hd (env := X.env) (pos := pos) (chkA_star h3)
      exact pi_en g1 (x.free _ (by decide +kernel)) (hl.2.2.1 X ck W _ x r h3) s1
    · cases h
/-- the list of a comprehension -/
theorem lc_of (e : E) (t : T) (it c : E) (he : G lev e) (hi : G lev it) (hc : G lev c) {X : Cx} {ck : Ck} {W : WX} {pe : Expr} (x : XOk X ck lev W) (r : ∀ r ∈ refsE (.comp e t it c), RefOk (cxX X) lev r) (h : chkE ck (.comp e t it c) pe = true) :
    PE X pe (tLI X.K W fun ρ st => compD t ((den it).i ρ st) (den c).c (den e).e ρ) := by
  unfold chkE at h
  split at h
  · rename_i elt tg iter ifs scope pos
    obtain ⟨h1, h6⟩ := ba h
    obtain ⟨h1, h5⟩ := ba h1
    obtain ⟨h1, h4⟩ := ba h1
    obtain ⟨h1, h3⟩ := ba h1
    obtain ⟨h1, h2⟩ := ba h1
    obtain ⟨r1, r0⟩ := refs_l r
    obtain ⟨r2, r3⟩ := refs_l r0
    have hl : PI X tg iter (tI X.K W (den it).i) := hi.2.2.2.2.2 X ck W tg iter x r2 h4
    refine se_lc x.calm x.nd hl (blk_ok x h1) (own_slots _ _) (fun s H C cl fp => pg_T (x.blk s H C cl fp) h3) (fun s H C cl fp => ?_) (fun s H C cl fp => he.1 _ _ W0 elt (x.blk s H C cl fp) r1 h5) (folded_plain (bnot h2))
    split at h6
    · cases isNil_eq h6
      exact ⟨fun pins s σ H Q I ⟨ρ, st, mp, he, S, q⟩ => pts_nil.run pins s σ H Q I (RP.ok q S rfl)⟩
    · obtain ⟨h7, h8⟩ := ba h6
      rw [den_c c (bnot h7)]
      exact pts_one (hc.2.1 _ _ W0 _ (x.blk s H C cl fp) r3 h8)
    · cases h6
  · cases h
end
end M1
namespace M1
open PySem PySem.Spec L2
section
variable {lev : Nat}
theorem g_comp (e : E) (t : T) (it c : E) (he : G lev e) (hi : G lev it) (hc : G lev c) : G lev (.comp e t it c) := by
  have hE : GE lev (.comp e t it c) := fun X ck W pe x r h => PE.of (lc_of e t it c he hi hc x r h) fun σ H Q h => tLI_adopt (m := fun ρ st => compD t ((den it).i ρ st) (den c).c (den e).e ρ) h
  exact mkG (fun _ es => by cases es <;> rfl) (fun _ _ pe => by cases pe <;> rfl) hE (mkT hE rfl fun ck pe h => by
    unfold chkE at h
    split at h
    · rfl
    · cases h)
def rBil (X : Cx) (b : Bi) : List V → Hp → VK → Prop := fun us H Q => ∃ a vs ds st mp E, us = [.ref a] ∧ SqL X.K H a vs ∧ StoR X.K H mp st ∧ DRs X.K H mp ds vs ∧ RP X.K (DR X.K) H mp (biL b ds st) Q E
theorem call_bil {X : Cx} (hc : X.calm = true) (b : Bi) : CallR X (biV b) (rBil X b) := by
  intro pins s σ H us uus Q I rs h
  obtain ⟨a, vs, ds, st, mp, E, rfl, hl, S, hd, q⟩ := h
  cases rs with
  | cons r t =>
    cases t
    exact call_biL hc b I r hl S hd q
theorem g_bic (b : Bi) (a : E) (key : ∀ e t it c, a = .comp e t it c → G lev e ∧ G lev it ∧ G lev c) : G lev (.bic b a) := by
  have hE : GE lev (.bic b a) := fun X ck W pe x r h => by
    unfold chkE at h
    split at h
    · rename_i y p ae pos
      obtain ⟨h1, h4⟩ := ba h
      obtain ⟨h1, h3⟩ := ba h1
      obtain ⟨h1, h2⟩ := ba h1
      cases of_decide_eq_true h1
      obtain ⟨g1, g2⟩ := x.glob h2
      cases a with
      | comp e t it c =>
        obtain ⟨k1, k2, k3⟩ := key _ _ _ _ rfl
        have L := lc_of e t it c k1 k2 k3 x r h4
        have hs : isStar ae = false := by
          unfold chkE at h4
          split at h4
          · rfl
          · cases h4
        obtain ⟨s1, s2⟩ := star_hd (e := ae) (es := []) (env := X.env) (pos := pos) (by simp [hs])
        refine PE.of (se_bi rfl (call_bil x.calm b) g1 (x.free _ (bi_facts b).1) (pa_cons L pa_nil s1) g2 s1 s2) fun σ H Q ⟨ρ, st, mp, hE, S, q⟩ => ?_
        refine ⟨ρ, st, mp, hE, S, (RP.bind (r1 := relI X.K H) q).mono fun v H1 ⟨xs, st1, mp1, e1, S1, d1, q1⟩ => ?_⟩
        obtain ⟨p, vs, rfl, _, h5, h6, h7⟩ := d1
        exact ⟨p, vs, xs, st1, mp1, _, rfl, SqL.of h5, S1, h7, q1⟩
      | _ => cases h3
    · cases h
  exact mkG (fun _ es => by cases es <;> rfl) (fun _ _ pe => by cases pe <;> rfl) hE (mkT hE rfl fun ck pe h => by cases pe <;> first | rfl | cases h)
/-- every expression -/
theorem g_all0 (e : E) : G lev e ∧ ∀ e' t it c, e = .comp e' t it c → G lev e' ∧ G lev it ∧ G lev c := by
  induction e with
  | var i => exact ⟨g_var i, fun _ _ _ _ z => nomatch z⟩
  | int i => exact ⟨g_int i, fun _ _ _ _ z => nomatch z⟩
  | bl i => exact ⟨g_bl i, fun _ _ _ _ z => nomatch z⟩
  | non => exact ⟨g_non, fun _ _ _ _ z => nomatch z⟩
  | str i => exact ⟨g_str i, fun _ _ _ _ z => nomatch z⟩
  | gint y i => exact ⟨g_gint y i, fun _ _ _ _ z => nomatch z⟩
  | gstr y i => exact ⟨g_gstr y i, fun _ _ _ _ z => nomatch z⟩
  | bin o a b ha hb => exact ⟨g_bin o a b ha.1 hb.1, fun _ _ _ _ z => nomatch z⟩
  | neg a ha => exact ⟨g_neg a ha.1, fun _ _ _ _ z => nomatch z⟩
  | cmp o a b ha hb => exact ⟨g_cmp o a b ha.1 hb.1, fun _ _ _ _ z => nomatch z⟩
  | chain o o' a b c ha hb hc => exact ⟨g_chain o o' a b c ha.1 hb.1 hc.1, fun _ _ _ _ z => nomatch z⟩
  | not_ a ha => exact ⟨g_not a ha.1, fun _ _ _ _ z => nomatch z⟩
  | and_ a ha => exact ⟨g_and a ha.1, fun _ _ _ _ z => nomatch z⟩
  | or_ a ha => exact ⟨g_or a ha.1, fun _ _ _ _ z => nomatch z⟩
  | ife c a b hc ha hb => exact ⟨g_ife c a b hc.1 ha.1 hb.1, fun _ _ _ _ z => nomatch z⟩
  | tup a ha => exact ⟨g_tup a ha.1, fun _ _ _ _ z => nomatch z⟩
  | lst a ha => exact ⟨g_lst a ha.1, fun _ _ _ _ z => nomatch z⟩
  | nil => exact ⟨g_nil, fun _ _ _ _ z => nomatch z⟩
  | cons a r ha hr => exact ⟨g_cons a r ha.1 hr.1, fun _ _ _ _ z => nomatch z⟩
  | sub a i ha hi => exact ⟨g_sub a i ha.1 hi.1, fun _ _ _ _ z => nomatch z⟩
  | cut a lo hi ha hl hh => exact ⟨g_cut a lo hi ha.1 hl.1 hh.1, fun _ _ _ _ z => nomatch z⟩
  | call y f l hl => exact ⟨g_call y f l hl.1, fun _ _ _ _ z => nomatch z⟩
  | meth o c m f l ho hl => exact ⟨g_meth o c m f l ho.1 hl.1, fun _ _ _ _ z => nomatch z⟩
  | make c f l hl => exact ⟨g_make c f l hl.1, fun _ _ _ _ z => nomatch z⟩
  | fld o c f ho => exact ⟨g_fld o c f ho.1, fun _ _ _ _ z => nomatch z⟩
  | bi b l hl => exact ⟨g_bi b l hl.1, fun _ _ _ _ z => nomatch z⟩
  | bic b a ha => exact ⟨g_bic b a fun e t it c z => ha.2 e t it c z, fun _ _ _ _ z => nomatch z⟩
  | isi a t ha => exact ⟨g_isi a t ha.1, fun _ _ _ _ z => nomatch z⟩
  | bm b o l ho hl => exact ⟨g_bm b o l ho.1 hl.1, fun _ _ _ _ z => nomatch z⟩
  | comp e t it c he hi hc => exact ⟨g_comp e t it c he.1 hi.1 hc.1, fun _ _ _ _ z => by cases z; exact ⟨he.1, hi.1, hc.1⟩⟩
  | iVal a ha => exact ⟨g_iVal a ha.1, fun _ _ _ _ z => nomatch z⟩
  | iRange a ha => exact ⟨g_iRange a ha.1, fun _ _ _ _ z => nomatch z⟩
  | iZip a ha => exact ⟨g_iZip a ha.1, fun _ _ _ _ z => nomatch z⟩
  | iEnum a ha => exact ⟨g_iEnum a ha.1, fun _ _ _ _ z => nomatch z⟩
  | iRev a ha => exact ⟨g_iRev a, fun _ _ _ _ z => nomatch z⟩
theorem g_all (e : E) : G lev e := (g_all0 e).1
end
end M1
namespace M1
open PySem PySem.Spec L2
/-! ### an except suite -/
def dOk (d : Option Addr) (H : Hp) : Prop := ∀ dd, d = some dd → ∃ fs, H dd = some (.xd fs)
def asOk (as : Option Nat) (σ : L2.St) (a : Addr) : Prop := ∀ i, as = some i → σ[i]? = some (some (.ref a))
theorem ExR.ext {K : PySem.W.Frag} {H H' : Hp} {mp mp' : List Addr} {x : Option D} {dd : Option Addr} (h : ExR K H mp x dd) (e : Ext K H mp H' mp') : ExR K H' mp' x dd := by
  cases x with
  | none => exact h
  | some d =>
    obtain ⟨a, v, h1, h2, h3, h4⟩ := h
    exact ⟨a, v, h1, e.keep a _ h2 h3, e.out h2 h3, DR.ext e _ _ h4⟩
theorem ExR.dOk {K : PySem.W.Frag} {H : Hp} {mp : List Addr} {x : Option D} {dd : Option Addr} (h : ExR K H mp x dd) : dOk dd H := by
  intro z hz
  cases x with
  | none => have h' : dd = none := h; rw [h'] at hz; cases hz
  | some d =>
    obtain ⟨a, v, h1, h2, h3, h4⟩ := h
    rw [h1] at hz; cases hz
    exact ⟨_, h2⟩
/-- isinstance(e, c), e the caught one -/
def rIsX (K : PySem.W.Frag) (C a : Addr) (d : Option Addr) : List V → Hp → VK → Prop := fun xs H Q => ∃ (c : V) (cv : Value) (b : Bool), xs = [.ref a, c] ∧ (∀ u, RelV c u → u = cv) ∧ PySem.W.kitOne K (.ref C) cv = some b ∧ dOk d H ∧ Q (.bl b) H
theorem call_isX {X : Cx} {a : Addr} {e : Nat} {oe : Obj} {d : Option Addr} {pn : List (Addr × Obj)} (F : ExF X.K e) (hz : Zc (.ref (cA X.K e)) d oe) (hf : ∃ vs, oe.data = .fields vs) : CallR (X.suite a ((a, oe) :: pn)) (.builtin "isinstance") (rIsX X.K (cA X.K e) a d) := by
  intro pins s σ H xs us Q I r h
  obtain ⟨c, cv, b, rfl, hcv, ek, hd, q⟩ := h
  cases r with
  | cons rx rr =>
    cases rr with
    | cons rt rr =>
      cases rr
      cases rx
      cases hcv _ rt
      obtain ⟨hget, _⟩ := I.pin (a, oe) (List.mem_append.mpr (.inl List.mem_cons_self))
      obtain ⟨vs, hv⟩ := hf
      have hno : PySem.W.notCls oe = true := by unfold PySem.W.notCls; rw [hv] <;> rfl
      have J : ∃ od, PySem.W.InstAt s.heap a oe (cA X.K e) od := by
        cases d with
        | none => exact ⟨none, hget, hz.1, hno, by rw [hz.2]; trivial⟩
        | some dd =>
          obtain ⟨fs, hfs⟩ := hd dd rfl
          obtain ⟨mA, hns, _⟩ := (show ObjOk X.prog X.w H s.heap dd (.xd fs) from I.hok dd _ hfs)
          obtain ⟨od, ho, _⟩ := lookIn_ns hns
          exact ⟨some od, hget, hz.1, hno, by rw [hz.2]; exact ho⟩
      obtain ⟨od, J⟩ := J
      exact PySem.W.kia_one (PySem.W.kitx_exc F.cls F.ga F.gg F.sub F.ha F.hn F.ht F.hm) I.kIn J ek (fun z => nomatch z) fun tk => ⟨.bl b, H, I.tok tk, rfl, q⟩
/-! ### the look at a suite -/
def Ck.loc (ck : Ck) (i : Nat) (x : Str) : Bool := decide (ck.N[i]? = some x) && locK (ck.names.lookup x)
def chkIs1 (ck : Ck) (as : Option Nat) (c : Option Nat) (pe : Expr) : Bool := match pe with
  | .Call (.Name y _) [.Name v _, .Name z _] [] _ => decide (y = ("isinstance" : Str)) && ck.glob y && (match as with | some k => ck.var k v | none => false) && ck.glob z && (match c with | some n => decide (nm n = z) && decide (n ∈ exNs) | none => decide (z = ("ValueError" : Str)))
  | _ => false
def chkIs (ck : Ck) (as : Option Nat) : List (Option Nat) → List Expr → Bool
  | [], [] => true
  | c :: cs, e :: es => chkIs1 ck as c e && chkIs ck as cs es
  | _, _ => false
def chkZ (ck : Ck) (as : Option Nat) (z : Option Int) (cs : List (Option Nat)) (es : List Expr) : Bool := match z with
  | none => chkIs ck as cs es
  | some k => (match es with
    | .Constant (.int j) _ _ :: es => decide (k = j) && chkIs ck as cs es
    | _ => false)
def chkHb (ck : Ck) (as : Option Nat) (h : Hb) (s : Stmt) : Bool := match s with
  | .Assign [.Name x _] pe _ => (match h with
    | .int i k => ck.loc i x && decide (as ≠ some i) && (match pe with | .Constant (.int j) _ _ => decide (k = j) | _ => false)
    | .bl i k => ck.loc i x && decide (as ≠ some i) && (match pe with | .Constant (.bool j) _ _ => decide (k = j) | _ => false)
    | .at_ i => ck.loc i x && decide (as ≠ some i) && (match pe with | .Attribute (.Name y _) n _ => decide (n = nm 9) && (match as with | some k => ck.var k y | none => false) | _ => false)
    | .isi i z cs => ck.loc i x && decide (as ≠ some i) && decide (cs.length < 29) && as.isSome && (match pe with | .List es _ => chkZ ck as z cs es | _ => false)
    | .app i cs => ck.loc i x && decide (as ≠ some i) && decide (cs.length < 29) && as.isSome && (match pe with | .BinOp (.Name y _) .Add (.List es _) _ => ck.var i y && chkIs ck as cs es | _ => false))
  | _ => false
def chkHbs (ck : Ck) (as : Option Nat) : List Hb → List Stmt → Bool
  | [], [] => true
  | h :: r, s :: ss => chkHb ck as h s && chkHbs ck as r ss
  | _, _ => false
section
variable {X : Cx} {ck : Ck} {lev : Nat} {W : WX} {a : Addr} {e : Nat} {oe : Obj} {d : Option Addr} {pn : List (Addr × Obj)} {as : Option Nat} {xx : Option M1.D}
def tH (K : PySem.W.Frag) (a : Addr) (d : Option Addr) (as : Option Nat) (xx : Option M1.D) (m : Env → Sto → Option (Env × Sto)) : TS := fun D σ H => ∃ ρ st mp, EnvR K H mp ρ σ ∧ StoR K H mp st ∧ ExR K H mp xx d ∧ asOk as σ a ∧
  match m ρ st with
  | some (ρ', st') => ∀ σ' H' mp', Ext K H mp H' mp' → EnvR K H' mp' ρ' σ' → StoR K H' mp' st' → ExR K H' mp' xx d → asOk as σ' a → D.nx σ' H'
  | none => False
/-- the list of the answers -/
def tIs (k : Nat) (a : Addr) (d : Option Addr) (vs : List V) : TA := fun σ H Q => σ[k]? = some (some (.ref a)) ∧ dOk d H ∧ Q vs H
def isV (e : Nat) (cs : List (Option Nat)) : List V := cs.map fun c => .bl (isiX e c)
theorem drs_is {K : PySem.W.Frag} {H : Hp} {mp : List Addr} (e : Nat) : ∀ cs, DRs K H mp (isiL e cs) (isV e cs)
  | [] => .nil
  | c :: cs => .cons (mk_bl _) (drs_is e cs)
theorem is1_ps (x : XOk X ck lev W) (F : RefOk (cxX X) lev .exs) (he : e ∈ exNs) (hz : Zc (.ref (cA X.K e)) d oe) (hf : ∃ vs, oe.data = .fields vs) {k : Nat} {c : Option Nat} {pe : Expr} (h : chkIs1 ck (some k) c pe = true) :
    isStar pe = false ∧ PE (X.suite a ((a, oe) :: pn)) pe (fun σ H Q => σ[k]? = some (some (.ref a)) ∧ dOk d H ∧ Q (.bl (isiX e c)) H) := by
  unfold chkIs1 at h
  split at h
  · rename_i y p v p1 z p2 pos
    obtain ⟨h, h5⟩ := ba h
    obtain ⟨h, h4⟩ := ba h
    obtain ⟨h, h3⟩ := ba h
    obtain ⟨h1, h2⟩ := ba h
    have hy := of_decide_eq_true h1
    subst hy
    obtain ⟨v1, v3⟩ := ba (show ck.var k v = true from h3)
    obtain ⟨v1, v2⟩ := ba v1
    obtain ⟨v4, v5⟩ := nameOk_of v3
    obtain ⟨g1, _⟩ := x.glob h2
    obtain ⟨g2, g3⟩ := x.glob h4
    obtain ⟨F1, F2, F3⟩ := F
    have EF := F3 e he
    have hV : PE (X.suite a ((a, oe) :: pn)) (.Name v p1) (tVar k) := pe_var (X := X.suite a ((a, oe) :: pn)) (by show X.N[k]? = _; rw [x.N]; exact of_decide_eq_true v1) (x.vis v2) v4 v5
    have hC : ∃ cv u, PE (X.suite a ((a, oe) :: pn)) (.Name z p2) (tC cv) ∧ (∀ w, RelV cv w → w = u) ∧ PySem.W.kitOne X.K (.ref (cA X.K e)) u = some (isiX e c) := by
      cases c with
      | some n =>
        obtain ⟨k1, k2⟩ := ba h5
        have hn := of_decide_eq_true k2
        cases of_decide_eq_true k1
        exact ⟨.ref (cA X.K n), .ref (cA X.K n), pe_glob (X := X.suite a ((a, oe) :: pn)) g2 (F1 n hn) rfl g3, fun w hw => hw, EF.ki n hn⟩
      | none =>
        cases of_decide_eq_true h5
        exact ⟨.ty "ValueError", .type "ValueError", pe_bltn (X := X.suite a ((a, oe) :: pn)) (u := .type "ValueError") g2 F2 (by with_unfolding_all rfl) rfl (by decide +kernel) g3, fun w hw => hw, EF.kv⟩
    obtain ⟨cv, u, hC, hu, hk⟩ := hC
    refine ⟨rfl, PE.of (pe_callB (X := X.suite a ((a, oe) :: pn)) (call_isX EF hz hf) g1 (x.free _ (by decide +kernel)) (by with_unfolding_all rfl) (pa_cons hV (pa_cons hC pa_nil rfl) rfl) (by decide +kernel) (by decide +kernel) rfl rfl) fun σ H Q ⟨q1, q2, q3⟩ => ?_⟩
    exact ⟨.ref a, q1, cv, u, _, rfl, hu, hk, q2, q3⟩
  · cases h
theorem is_ps (x : XOk X ck lev W) (F : RefOk (cxX X) lev .exs) (he : e ∈ exNs) (hz : Zc (.ref (cA X.K e)) d oe) (hf : ∃ vs, oe.data = .fields vs) {k : Nat} : ∀ {cs : List (Option Nat)} {es : List Expr}, chkIs ck (some k) cs es = true → PA (X.suite a ((a, oe) :: pn)) es (tIs k a d (isV e cs))
  | [], [], _ => PA.of pa_nil fun σ H Q ⟨_, _, q⟩ => q
  | c :: cs, pe :: es, h => by
    obtain ⟨h1, h2⟩ := ba (show (chkIs1 ck (some k) c pe && chkIs ck (some k) cs es) = true from h)
    obtain ⟨s, p⟩ := is1_ps (a := a) (pn := pn) x F he hz hf h1
    exact PA.of (pa_cons p (is_ps x F he hz hf h2) (star_cons s)) fun σ H Q ⟨q1, q2, q3⟩ => ⟨q1, q2, q1, q2, q3⟩
  | [], _ :: _, h => by cases h
  | _ :: _, [], h => by cases h
theorem z_ps (x : XOk X ck lev W) (F : RefOk (cxX X) lev .exs) (he : e ∈ exNs) (hz : Zc (.ref (cA X.K e)) d oe) (hf : ∃ vs, oe.data = .fields vs) {k : Nat} {z : Option Int} {cs : List (Option Nat)} {es : List Expr} (h : chkZ ck (some k) z cs es = true) : ∃ vs, vs.length ≤ cs.length + 1 ∧ (∀ H mp, DRs X.K H mp (preL z ++ isiL e cs) vs) ∧ PA (X.suite a ((a, oe) :: pn)) es (tIs k a d vs) := by
  unfold chkZ at h
  split at h
  · exact ⟨isV e cs, by simp [isV], fun H mp => drs_is e cs, is_ps x F he hz hf h⟩
  · rename_i j
    split at h
    · obtain ⟨h1, h2⟩ := ba h
      cases of_decide_eq_true h1
      exact ⟨.int j :: isV e cs, by simp [isV], fun H mp => .cons (mk_int _) (drs_is e cs), PA.of (pa_cons pe_int (is_ps x F he hz hf h2) rfl) fun σ H Q ⟨q1, q2, q3⟩ => ⟨q1, q2, q3⟩⟩
    · cases h
theorem as_keep {σ : L2.St} {i : Nat} {v : V} (h : asOk as σ a) (hne : as ≠ some i) : asOk as (σ.set i (some v)) a := fun j hj => by
  have : i ≠ j := fun z => hne (z ▸ hj)
  rw [List.getElem?_set_ne this]
  exact h j hj
theorem EnvR.put {K : PySem.W.Frag} {H : Hp} {mp : List Addr} {ρ : Env} {σ : L2.St} (h : EnvR K H mp ρ σ) (i : Nat) {x : M1.D} {v : V} (d : DR K H mp x v) : EnvR K H mp (ρ.set i (some x)) (σ.set i (some v)) := by
  refine ⟨by simp [h.1], fun j y hj => ?_⟩
  by_cases e : i = j
  · subst e
    by_cases hl : i < ρ.length
    · rw [List.getElem?_set_self hl] at hj
      cases hj
      exact ⟨v, List.getElem?_set_self (h.1 ▸ hl), d⟩
    · rw [List.getElem?_eq_none (by simpa using hl)] at hj; cases hj
  · rw [List.getElem?_set_ne e] at hj
    rw [List.getElem?_set_ne e]
    exact h.2 j y hj
theorem EnvR.clear {K : PySem.W.Frag} {H : Hp} {mp : List Addr} {ρ : Env} {σ : L2.St} (h : EnvR K H mp ρ σ) (i : Nat) (v : Option V) : EnvR K H mp (ρ.set i none) (σ.set i v) := by
  refine ⟨by simp [h.1], fun j y hj => ?_⟩
  by_cases e : i = j
  · subst e
    by_cases hl : i < ρ.length
    · rw [List.getElem?_set_self hl] at hj; cases hj
    · rw [List.getElem?_eq_none (by simpa using hl)] at hj; cases hj
  · rw [List.getElem?_set_ne e] at hj
    rw [List.getElem?_set_ne e]
    exact h.2 j y hj
theorem hb_ps (x : XOk X ck lev W) (F : RefOk (cxX X) lev .exs) (he : e ∈ exNs) (hz : Zc (.ref (cA X.K e)) d oe) (hf : ∃ vs, oe.data = .fields vs) {h : Hb} {s : Stmt} (hc : chkHb ck as h s = true) : PS (X.suite a ((a, oe) :: pn)) s (tH X.K a d as xx (hb1 e xx h)) := by
  have loc : ∀ {i : Nat} {y : Str} {p : Pos}, ck.loc i y = true → PG (X.suite a ((a, oe) :: pn)) (.Name y p) (gName i) := fun {i y p} hl => by
    obtain ⟨l1, l2⟩ := ba hl
    obtain ⟨l3, l4⟩ := x.loc l2
    exact pg_name (X := X.suite a ((a, oe) :: pn)) x.nd (by show X.N[i]? = _; rw [x.N]; exact of_decide_eq_true l1) l3 l4
  have vr : ∀ {k : Nat} {y : Str} {p : Pos}, ck.var k y = true → PE (X.suite a ((a, oe) :: pn)) (.Name y p) (tVar k) := fun {k y p} h3 => by
    obtain ⟨v1, v3⟩ := ba h3
    obtain ⟨v1, v2⟩ := ba v1
    obtain ⟨v4, v5⟩ := nameOk_of v3
    exact pe_var (X := X.suite a ((a, oe) :: pn)) (by show X.N[k]? = _; rw [x.N]; exact of_decide_eq_true v1) (x.vis v2) v4 v5
  unfold chkHb at hc
  split at hc
  · rename_i y p pe pos
    split at hc
    · rename_i i k
      obtain ⟨hc, h3⟩ := ba hc
      obtain ⟨h1, h2⟩ := ba hc
      split at h3
      · cases of_decide_eq_true h3
        refine PS.of (ps_asg pe_int (loc h1) rfl rfl rfl) fun D σ H ⟨ρ, st, mp, hE, S, hx, ha, q⟩ => ?_
        exact q _ H mp .refl (hE.put i (mk_int _)) S hx (as_keep ha (of_decide_eq_true h2))
      · cases h3
    · rename_i i k
      obtain ⟨hc, h3⟩ := ba hc
      obtain ⟨h1, h2⟩ := ba hc
      split at h3
      · cases of_decide_eq_true h3
        refine PS.of (ps_asg pe_bl (loc h1) rfl rfl rfl) fun D σ H ⟨ρ, st, mp, hE, S, hx, ha, q⟩ => ?_
        exact q _ H mp .refl (hE.put i (mk_bl _)) S hx (as_keep ha (of_decide_eq_true h2))
      · cases h3
    · rename_i i
      obtain ⟨hc, h3⟩ := ba hc
      obtain ⟨h1, h2⟩ := ba hc
      split at h3
      · obtain ⟨h3, h4⟩ := ba h3
        cases of_decide_eq_true h3
        cases as with
        | none => cases h4
        | some k =>
          have EF := F.2.2 e he
          refine PS.of (ps_asg (pe_xf ⟨EF.ga, EF.gg, EF.sub, EF.hd⟩ EF.no hz hf (vr h4) rfl) (loc h1) rfl rfl rfl) fun D σ H ⟨ρ, st, mp, hE, S, hx, ha, q⟩ => ?_
          cases xx with
          | none => exact q.elim
          | some dv =>
            obtain ⟨da, v, k1, k2, k3, k4⟩ := id hx
            refine ⟨.ref a, ha k rfl, rfl, rfl, da, _, v, k1, k2, by simp, ?_⟩
            exact q _ H mp .refl (hE.put i k4) S hx (as_keep ha (of_decide_eq_true h2))
      · cases h3
    · rename_i i z cs
      obtain ⟨hc, h3⟩ := ba hc
      obtain ⟨hc, h7⟩ := ba hc
      obtain ⟨hc, h5⟩ := ba hc
      obtain ⟨h1, h2⟩ := ba hc
      split at h3
      · cases as with
        | none => cases h7
        | some k =>
          obtain ⟨vs, hl, hd, hP⟩ := z_ps (a := a) (pn := pn) x F he hz hf h3
          refine PS.of (ps_asg (pe_lst hP) (loc h1) rfl rfl rfl) fun D σ H ⟨ρ, st, mp, hE, S, hx, ha, q⟩ => ?_
          refine ⟨ha k rfl, hx.dOk, ?_, fun p hp => ?_⟩
          · have := of_decide_eq_true h5
            have : (30 : Nat) ≤ sizeLine := by decide
            omega
          · have e1 : Ext X.K H mp (upd H p (.lst vs)) (mp ++ [p]) := Ext.push hp
            have S1 := S.push (o := .lst (preL z ++ isiL e cs)) hp ⟨vs, upd_same, hd _ _⟩
            exact q _ _ _ e1 ((hE.ext e1).put i (mk_loc (by rw [← S.len]; simp))) S1 (hx.ext e1) (as_keep ha (of_decide_eq_true h2))
      · cases h3
    · rename_i i cs
      obtain ⟨hc, h3⟩ := ba hc
      obtain ⟨hc, h7⟩ := ba hc
      obtain ⟨hc, h5⟩ := ba hc
      obtain ⟨h1, h2⟩ := ba hc
      split at h3
      · obtain ⟨h6, h4⟩ := ba h3
        cases as with
        | none => cases h7
        | some k =>
          have hP := is_ps (a := a) (pn := pn) x F he hz hf h4
          refine PS.of (ps_asg (pe_op (op_binD (X := X.suite a ((a, oe) :: pn)) .add) (vr h6) (pe_lst hP)) (loc h1) rfl rfl rfl) fun D σ H ⟨ρ, st, mp, hE, S, hx, ha, q⟩ => ?_
          unfold hb1 at q
          dsimp only at q
          generalize hi : ρ[i]? = w at q
          cases w with
          | none => exact q.elim
          | some w =>
            cases w with
            | none => exact q.elim
            | some dv =>
              cases dv with
              | loc n =>
                dsimp only at q
                cases e1 : lstAt st n with
                | none => rw [e1] at q; exact q.elim
                | some ds =>
                  rw [e1] at q
                  dsimp only at q
                  by_cases hsz : ds.length + cs.length ≤ sizeLine
                  case neg => rw [if_neg hsz] at q; exact q.elim
                  rw [if_pos hsz] at q
                  obtain ⟨v, hv, hdv⟩ := hE.2 i _ hi
                  refine ⟨v, hv, ha k rfl, hx.dOk, ?_, fun p hp => ?_⟩
                  · have := of_decide_eq_true h5
                    have : (30 : Nat) ≤ sizeLine := by decide
                    simp [isV]; omega
                  · have ex1 : Ext X.K H mp (upd H p (.lst (isV e cs))) (mp ++ [p]) := Ext.push hp
                    have S1 := S.push (o := .lst (isiL e cs)) hp ⟨isV e cs, upd_same, drs_is e cs⟩
                    have l1 : lstAt (st ++ [.lst (isiL e cs)]) n = some ds := by
                      unfold lstAt at e1 ⊢
                      rw [List.getElem?_append_left]
                      · exact e1
                      · by_cases hlt : n < st.length
                        · exact hlt
                        · rw [List.getElem?_eq_none (by omega)] at e1; cases e1
                    have l2 : lstAt (st ++ [.lst (isiL e cs)]) st.length = some (isiL e cs) := by unfold lstAt; simp
                    refine ⟨fun _ _ _ => False, .loc n, .loc st.length, _, _, S1, DR.ext ex1 _ _ hdv, mk_loc (by rw [← S.len]; simp), ?_⟩
                    show RP X.K (DR X.K) _ _ (match lstAt (st ++ [.lst (isiL e cs)]) n, lstAt (st ++ [.lst (isiL e cs)]) st.length with | some a, some b => okL (a.length + b.length ≤ sizeLine) (a ++ b) (st ++ [.lst (isiL e cs)]) | _, _ => .stuck) _ _
                    rw [l1, l2]
                    show RP X.K (DR X.K) _ _ (okL (ds.length + (isiL e cs).length ≤ sizeLine) (ds ++ isiL e cs) (st ++ [.lst (isiL e cs)])) _ _
                    unfold okL
                    rw [if_pos (by simpa [isiL] using hsz)]
                    intro u H' mp' ex2 S2 du
                    refine q _ _ _ (ex1.trans ex2) (((hE.ext ex1).ext ex2).put i ?_) S2 ((hx.ext ex1).ext ex2) (as_keep ha (of_decide_eq_true h2))
                    simpa using du
              | _ => exact q.elim
      · cases h3
  · cases hc
theorem hbs_ps (x : XOk X ck lev W) (F : RefOk (cxX X) lev .exs) (he : e ∈ exNs) (hz : Zc (.ref (cA X.K e)) d oe) (hf : ∃ vs, oe.data = .fields vs) : ∀ {l : List Hb} {ss : List Stmt}, chkHbs ck as l ss = true → PSs (X.suite a ((a, oe) :: pn)) ss (tH X.K a d as xx (hbs e xx l))
  | [], [], _ => PSs.of pss_nil fun D σ H ⟨ρ, st, mp, hE, S, hx, ha, q⟩ => q σ H mp .refl hE S hx ha
  | h :: l, s :: ss, hc => by
    obtain ⟨h1, h2⟩ := ba (show (chkHb ck as h s && chkHbs ck as l ss) = true from hc)
    refine PSs.of (pss_cons (hb_ps x F he hz hf h1) (hbs_ps x F he hz hf h2)) fun D σ H ⟨ρ, st, mp, hE, S, hx, ha, q⟩ => ⟨ρ, st, mp, hE, S, hx, ha, ?_⟩
    unfold hbs at q
    cases e1 : hb1 e xx h ρ st with
    | none => rw [e1] at q; exact q
    | some w =>
      obtain ⟨ρ', st'⟩ := w
      rw [e1] at q
      intro σ' H' mp' ex hE' S' hx' ha'
      refine ⟨ρ', st', mp', hE', S', hx', ha', ?_⟩
      dsimp only at q
      generalize hbs e xx l ρ' st' = w2 at q ⊢
      cases w2 with
      | none => exact q
      | some w2 => exact fun σ2 H2 mp2 ex2 => q σ2 H2 mp2 (ex.trans ex2)
  | [], _ :: _, h => by cases h
  | _ :: _, [], h => by cases h
end
end M1
namespace M1
open PySem PySem.Spec L2 PyProof.Rows
/-! ### several clauses, each with a name or without -/
structure Cl where
  c : Value
  as : Option Nat
  ts : Addr → Value → Option Addr → TS
def drop1 (as : Option Nat) (σ : L2.St) : L2.St := match as with
  | some i => σ.set i none
  | none => σ
def take1 (as : Option Nat) (a : Addr) (σ : L2.St) : L2.St := match as with
  | some i => σ.set i (some (.ref a))
  | none => σ
def endsOf (as : Option Nat) (D : Ends) : Ends := { nx := fun σ' H' => D.nx (drop1 as σ') H', rt := D.rt, bk := fun σ' H' => D.bk (drop1 as σ') H', ct := fun σ' H' => D.ct (drop1 as σ') H' }
def wMix (K : PySem.W.Frag) (Wout : WX) (D : Ends) : List Cl → WX
  | [] => Wout
  | k :: r => fun cls d σ H => ∃ b, PySem.W.exmOne K cls k.c = some b ∧ (b = true → ∀ a, H a = none → k.ts a cls d (endsOf k.as D) (take1 k.as a σ) H) ∧ (b = false → wMix K Wout D r cls d σ H)
inductive ClsOk (X : Cx) : List ExceptHandler → List Cl → Prop
  | nil : ClsOk X [] []
  | bare {x : Str} {c : Value} {ts : Addr → Value → Option Addr → TS} {b₀ : Stmt} {suite : List Stmt} {np pos' : Pos} {hds : List ExceptHandler} {l : List Cl} (hc : Names X x c)
      (hsu : ∀ (a : Addr) (oe : Obj) (cls : Value) (d : Option Addr) (pn : List (Addr × Obj)), Zc cls d oe → (∃ vs, oe.data = .fields vs) → PSs (X.suite a ((a, oe) :: pn)) (b₀ :: suite) (ts a cls d)) (r : ClsOk X hds l) :
      ClsOk X (.ExceptHandler (some (.Name x np)) none (b₀ :: suite) pos' :: hds) (⟨c, none, ts⟩ :: l)
  | named {x n : Str} {i : Nat} {c : Value} {ts : Addr → Value → Option Addr → TS} {b₀ : Stmt} {suite : List Stmt} {np pos' : Pos} {hds : List ExceptHandler} {l : List Cl} (hc : Names X x c) (hi : X.N[i]? = some n) (hln : X.env.kindOf n = some .local)
      (hsu : ∀ (a : Addr) (oe : Obj) (cls : Value) (d : Option Addr) (pn : List (Addr × Obj)), Zc cls d oe → (∃ vs, oe.data = .fields vs) → PSs (X.suite a ((a, oe) :: pn)) (b₀ :: suite) (ts a cls d)) (r : ClsOk X hds l) :
      ClsOk X (.ExceptHandler (some (.Name x np)) (some n) (b₀ :: suite) pos' :: hds) (⟨c, some i, ts⟩ :: l)
section
variable {X : Cx} {body : List Stmt} {h₀ : ExceptHandler} {hds : List ExceptHandler} {l : List Cl} {pos : Pos} {tb : WX → TS} {Wout : WX}
/-- the clauses, asked of a caught exception -/
theorem mix_handle (hN : X.N.Nodup) (hs : X.stack = X.env :: X.outer) (hf : X.env.frame = some X.env.locals) (tk : Takes X Wout) {pins : List (Addr × Obj)} {D : Ends} {a : Addr} {B : Heap} {sI s' : Shared} {σ' : L2.St} {H' : Hp} {cls : Value} {d : Option Addr} {h3 : Heap}
    (J : Inv X pins σ' H' sI) (nb : ∀ b o, sI.heap.get? b = some o → b ∉ frs X.stack → B.get? b = some o) (up3 : sI.heap.UpToSlots h3) (fl3 : HandSPX.FlyingZ B (X.env :: X.outer) a (Zc cls d) h3) (na : H' a = none) (os : s'.os = sI.os) (ag : AllBare s'.gens)
    (hk : ClsOk X hds l) : wMix X.K Wout D l cls d σ' H' → wpAny (model X.prog X.w) X.A (handleBy (.ref a) X.env hds) (SP X pins D) X.xe { s' with heap := h3 } := by
  have J3 : Inv X pins σ' H' { s' with heap := h3 } := J.landed nb fl3.1 up3 os ag
  obtain ⟨oe3, vs3, he3, hz3, hd3⟩ := fl3.there
  have far : a ∉ frs (X.env :: X.outer) := fun hm => by
    obtain ⟨_, o', e', hnf⟩ := fl3.2.2.1.mem hm
    rw [he3] at e'
    cases e'
    exact hnf _ hd3
  have nL : a ≠ X.env.locals := fun z => far (List.mem_filterMap.mpr ⟨X.env, List.mem_cons_self, by rw [hf, z]⟩)
  have nF : a ∉ X.fs := fun hm => by
    obtain ⟨en, hen, q⟩ := List.mem_filterMap.mp hm
    exact far (List.mem_filterMap.mpr ⟨en, List.mem_cons_of_mem _ hen, q⟩)
  have S3 := J3.suite he3 hd3 na nL nF
  have test : ∀ {x : Str} {c : Value} {np : Pos} {Q : Value → Shared → Prop} {E : Value → Shared → Prop}, Names X x c → Q c { s' with heap := h3 } → wpAny (model X.prog X.w) (X.A.mark (some (.ref a))) (eval (.Name x np) X.env) Q E { s' with heap := h3 } := fun {x c np Q E} hc q => by
    obtain ⟨hg, hdbg, hm | ⟨hm, hv, hnn⟩⟩ := hc
    · exact ld_glob (X := X.suite a ((a, oe3) :: (X.pn ++ pins))) S3 hg hm q hdbg
    · exact ld_blt (X := X.suite a ((a, oe3) :: (X.pn ++ pins))) S3 hg hm hv q hnn hdbg
  have LT : PySem.W.Looks (model X.prog X.w) h3 (typeOf (.ref a)) cls := fun A Q E s k q => wpAny_typeOf_ref (k _ _ he3) (by rw [hz3.1]; exact q)
  induction hk with
  | nil =>
    intro w
    refine wpAny_handleBy_nil ?_
    obtain ⟨k1, k2, k3, oe, vs, T, oT, ts', he, hz, hd, h1, hr⟩ := id fl3
    unfold PySem.passOn
    refine wpAny_bind (wpAny_field he hd h1 ?_)
    rw [if_neg (show ¬ ((Value.ref T == Value.none) = true) from by simp)]
    have fin : wpAny (model X.prog X.w) X.A (setFlight (.ref a) X.env.frame) (fun _ s4 => wpAny (model X.prog X.w) X.A (throw (.ref a) : Sem Flow) (SP X pins D) X.xe s4) X.xe { s' with heap := h3 } := by
      rw [hf]
      refine HandSPX.setFlight_upZ fl3 fun h4 hh4 up4 => wpAny_throw (tk _ _ ?_)
      exact ⟨a, B, sI, pins, σ', H', cls, d, rfl, J, nb, up3.trans up4, .inr (.inr (by rw [hs]; exact hh4)), na, os, ag, w⟩
    first
      | exact wpAny_bind (wpAny_pure (wpAny_bind fin))
      | exact wpAny_bind fin
  | @bare x c ts b₀ suite np pos' hds2 l2 hc hsu r ih =>
    rintro ⟨b, hb1, hyes, hno⟩
    refine wpAny_handleBy_cons (codeAny_handlers_test (test hc ((PySem.W.exm_one (M := model X.prog X.w) J3.kIn LT hb1).here ?_))) (by intro q; cases q)
    cases b with
    | false =>
      show wpAny _ X.A (handleBy (.ref a) X.env hds2) _ _ _
      exact ih (hno rfl)
    | true =>
      refine codeAny_handlers_suite (HandSPX.lands_againZ fl3 fun h4 fl4 up4 => ?_)
      have J4 : Inv X pins σ' H' { s' with heap := h4 } := J.landed nb fl4.1 (up3.trans up4) os ag
      obtain ⟨oe4, vs4, he4, hz4, hd4⟩ := fl4.there
      refine wpAny_mono ((hsu a oe4 cls d (X.pn ++ pins) hz4 ⟨_, hd4⟩).run [] _ _ H' _ (J4.suite he4 hd4 na nL nF) (hyes rfl a na)) (fun f s6 hsp => ?_) (fun _ _ z => False.elim z)
      cases f with
      | ret u =>
        obtain ⟨v6, σ6, H6, S6, r6, q6⟩ := hsp
        exact ⟨_, _, _, S6.unsuite J.ok, r6, q6⟩
      | _ =>
        obtain ⟨σ6, H6, S6, q6⟩ := hsp
        exact ⟨_, _, S6.unsuite J.ok, q6⟩
  | @named x n i c ts b₀ suite np pos' hds2 l2 hc hi hln hsu r ih =>
    rintro ⟨b, hb1, hyes, hno⟩
    refine wpAny_handleBy_cons (codeAny_handlers_test (test hc ((PySem.W.exm_one (M := model X.prog X.w) J3.kIn LT hb1).here ?_))) (by intro q; cases q)
    cases b with
    | false =>
      show wpAny _ X.A (handleBy (.ref a) X.env hds2) _ _ _
      exact ih (hno rfl)
    | true =>
      refine codeAny_handlers_suite_as (HandSPX.lands_againZ fl3 fun h4 fl4 up4 => ?_)
      have J4 : Inv X pins σ' H' { s' with heap := h4 } := J.landed nb fl4.1 (up3.trans up4) os ag
      obtain ⟨oe4, vs4, he4, hz4, hd4⟩ := fl4.there
      refine store_ok (X := X.suite a ((a, oe4) :: (X.pn ++ pins))) (v := .ref a) (J4.suite he4 hd4 na nL nF) hN hi (.inl hln) rfl (fun s5 S5 => ?_) (.inr hln)
      refine wpAny_mono ((hsu a oe4 cls d (X.pn ++ pins) hz4 ⟨_, hd4⟩).run [] s5 _ H' _ S5 (hyes rfl a na)) (fun f s6 hsp => ?_) (fun _ _ z => False.elim z)
      cases f with
      | ret u =>
        obtain ⟨v6, σ6, H6, S6, r6, q6⟩ := hsp
        exact gone_ok (S6.unsuite J.ok) hN hi hln fun s7 J7 => ⟨_, _, _, J7, r6, q6⟩
      | _ =>
        obtain ⟨σ6, H6, S6, q6⟩ := hsp
        exact gone_ok (S6.unsuite J.ok) hN hi hln fun s7 J7 => ⟨_, _, J7, q6⟩
theorem ps_try_mix (hN : X.N.Nodup) (hs : X.stack = X.env :: X.outer) (hf : X.env.frame = some X.env.locals) (tk : Takes X Wout)
    (hb : ∀ (W : WX) (pn : List (Addr × Obj)) (xe : Value → Shared → Prop), Takes (X.tr pn xe) W → PassesOwn (model X.prog X.w) X.A X.env xe → PSs (X.tr pn xe) body (tb W))
    (hh : ClsOk X (h₀ :: hds) l) : PS X (.Try body (h₀ :: hds) [] [] pos) (fun D σ H => tb (wMix X.K Wout D l) D σ H) := by
  refine ⟨fun pins s σ H D I h => ?_⟩
  have hfr : X.A.frames = some (X.env :: X.outer) := by rw [I.ok.frames, hs]
  refine wpAny_Try_except (wpAny_mono ((hb (wMix X.K Wout D l) (X.pn ++ pins) (fun e s₁ => wpAny (model X.prog X.w) X.A (noteFrame e X.env) (fun _ s₂ => wpAny (model X.prog X.w) X.A (setFlight e none)
    (fun _ s₃ => wpAny (model X.prog X.w) X.A (handleBy e X.env (h₀ :: hds)) (SP X pins D) X.xe s₃) X.xe s₂) X.xe s₁) (fun u s' xx => ?_) PassesOwn.looking).run [] s σ H D (I.toTry _) h) (fun f s1 hsp => ?_) (fun e s1 he => he))
  · obtain ⟨a, B, sI, pins', σ', H', cls, d, rfl, J', nb, up, sky, na, os, ag, w⟩ := xx
    have sky' : Sky B (X.env :: X.outer) a (Zc cls d) X.env.locals s'.heap := by rw [← hs]; exact sky
    exact Sky.land Zc.steady hfr hf sky' fun h3 fl3 up3 => mix_handle hN hs hf tk (J'.ofTry I.ok) nb (up.trans up3) fl3 na os ag hh w
  · cases f with
    | next =>
      obtain ⟨σ', H', J', q⟩ := hsp
      exact wpAny_execs_nil ⟨σ', H', J'.ofTry I.ok, q⟩
    | ret u =>
      obtain ⟨v, σ', H', J', r, q⟩ := hsp
      exact ⟨v, σ', H', J'.ofTry I.ok, r, q⟩
    | _ =>
      obtain ⟨σ', H', J', q⟩ := hsp
      exact ⟨σ', H', J'.ofTry I.ok, q⟩
end
end M1
namespace M1
open PySem PySem.Spec L2
/-! ### the look at a statement -/
def chkHc (ck : Ck) (h : Hc) (eh : ExceptHandler) : Bool := match eh with
  | .ExceptHandler (some (.Name x _)) n (b₀ :: suite) _ => decide (nm h.c = x) && ck.glob x && decide (h.c ∈ exNs) && chkHbs ck h.as h.b (b₀ :: suite) && (match n, h.as with
    | none, none => true
    | some y, some i => decide (ck.N[i]? = some y) && decide (ck.names.lookup y = some .local)
    | _, _ => false)
  | _ => false
def chkHcs (ck : Ck) : List Hc → List ExceptHandler → Bool
  | [], [] => true
  | h :: r, e :: es => chkHc ck h e && chkHcs ck r es
  | _, _ => false
def lcSet (ck : Ck) (tg pe : Expr) : Bool := match tg, pe with
  | .Name y py, .ListComp _ _ scope pos => decide (ck.names.lookup y = some .local) && (py.line == pos.line) && !(scope.names.any fun p => p.1 == y && (p.2 == .local || p.2 == .cell))
  | _, _ => false
def isOne : T → Bool
  | .one _ => true
  | _ => false
def addOk (o : Bop) : Bool := match o with
  | .add => true
  | .sub => true
  | _ => false
mutual
def chkS (ck : Ck) : S → Stmt → Bool
  | .set t e, s => match s with
    | .Assign [tg] pe _ => chkT ck t tg && chkE ck e pe && (if isLC pe then lcSet ck tg pe && isComp e && isOne t else !(isTup tg && isTup pe))
    | _ => false
  | .setSub o i e, s => match s with
    | .Assign [.Subscript x y _] pe _ => !isSlc y && chkE ck o x && chkE ck i y && chkE ck e pe
    | _ => false
  | .setFld o _ f e, s => match s with
    | .Assign [.Attribute x n _] pe _ => decide (nm f = n) && chkE ck o x && chkE ck e pe
    | _ => false
  | .aug i o e, s => match s with
    | .AugAssign (.Name x _) p pe _ => ck.loc i x && bopOk o p && chkE ck e pe
    | _ => false
  | .augSub o i p e, s => match s with
    | .AugAssign (.Subscript x y _) q pe _ => !isSlc y && bopOk p q && chkE ck o x && chkE ck i y && chkE ck e pe
    | _ => false
  | .augFld o _ f p e, s => match s with
    | .AugAssign (.Attribute x n _) q pe _ => decide (nm f = n) && bopOk p q && chkE ck o x && chkE ck e pe
    | _ => false
  | .expr e, s => match s with
    | .Expr pe _ => !isLC pe && chkE ck e pe
    | _ => false
  | .ret e, s => match s with
    | .Return (some pe) _ => chkE ck e pe
    | _ => false
  | .ret0, s => match s with
    | .Return none _ => true
    | _ => false
  | .if_ c a b, s => match s with
    | .If pe sa sb _ => chkE ck c pe && chkB ck a sa && chkB ck b sb
    | _ => false
  | .for_ t it b, s => match s with
    | .For tg iter body [] _ => chkT ck t tg && chkI ck it tg iter && !isSet iter && chkB ck b body
    | _ => false
  | .while_ c b, s => match s with
    | .While pe body [] _ => chkE ck c pe && chkB ck b body
    | _ => false
  | .brk, s => match s with
    | .Break _ => true
    | _ => false
  | .pass, s => match s with
    | .Pass _ => true
    | _ => false
  | .raise c l, s => match s with
    | .Raise (some (.Call (.Name y _) es [] _)) none _ => decide (nm c = y) && ck.glob y && chkA ck l es && decide (es.length ≤ 1)
    | _ => false
  | .try_ b hs, s => match s with
    | .Try body (h₀ :: hds) [] [] _ => chkB ck b body && chkHcs ck hs (h₀ :: hds)
    | _ => false
  | _, _ => false
def chkB (ck : Ck) : S → List Stmt → Bool
  | .nil, [] => true
  | .cons a r, s :: ss => chkS ck a s && chkB ck r ss
  | _, _ => false
end
def refsS : S → List Ref
  | .cons a r => refsS a ++ refsS r
  | .set _ e => refsE e
  | .setSub o i e => refsE o ++ (refsE i ++ refsE e)
  | .setFld o c f e => .fld c f :: (refsE o ++ refsE e)
  | .aug _ _ e => refsE e
  | .augSub o i _ e => refsE o ++ (refsE i ++ refsE e)
  | .augFld o c f _ e => .fld c f :: (refsE o ++ refsE e)
  | .expr e => refsE e
  | .ret e => refsE e
  | .if_ c a b => refsE c ++ (refsS a ++ refsS b)
  | .for_ _ it b => refsE it ++ refsS b
  | .while_ c b => refsE c ++ refsS b
  | .raise c l => (if l.isNil then .ex0 c else .ex1 c) :: refsE l
  | .try_ b _ => .exs :: refsS b
  | _ => []
structure SOk (X : Cx) (ck : Ck) (lev : Nat) (W : WX) : Prop extends XOk X ck lev W where
  fk : X.env.scope.kind = .function
  hs : X.stack = X.env :: X.outer
  hf : X.env.frame = some X.env.locals
def GS (lev : Nat) (b : S) : Prop := ∀ X ck W s, SOk X ck lev W → (∀ r ∈ refsS b, RefOk (cxX X) lev r) → chkS ck b s = true → PS X s (tS X.K W (denS b))
def GB (lev : Nat) (b : S) : Prop := ∀ X ck W ss, SOk X ck lev W → (∀ r ∈ refsS b, RefOk (cxX X) lev r) → chkB ck b ss = true → PSs X ss (tS X.K W (denS b))
section
variable {X : Cx} {ck : Ck} {lev : Nat} {W : WX}
theorem swaps_other {e t : Expr} {l : Nat} {env : PySem.Env} (h : ∀ n p, t ≠ .Name n p) : swapsWith e (some t) l env = pure false := by
  cases e <;> first | rfl | (cases t <;> first | rfl | exact absurd rfl (h _ _))
theorem se {lev : Nat} {X : Cx} {ck : Ck} {W : WX} (x : SOk X ck lev W) {e : E} {pe : Expr} (r : ∀ r ∈ refsE e, RefOk (cxX X) lev r) (h : chkE ck e pe = true) : PE X pe (tE X.K W (den e).e) := (g_all e).1 X ck W pe x.toXOk r h
theorem st {lev : Nat} {X : Cx} {ck : Ck} {W : WX} (x : SOk X ck lev W) {e : E} {pe : Expr} (r : ∀ r ∈ refsE e, RefOk (cxX X) lev r) (h : chkE ck e pe = true) : PT X pe (tT X.K W (den e).t) := (g_all e).2.1 X ck W pe x.toXOk r h
theorem comp_inv {ck : Ck} {e it c : E} {t : T} {pe : Expr} (h : chkE ck (.comp e t it c) pe = true) : ∃ elt tg iter ifs scope pos, pe = .ListComp elt [⟨tg, iter, ifs, 0⟩] scope pos ∧ blkK ck scope t.slots = true ∧ isSet iter = false ∧ chkT ⟨scope.names, ck.N⟩ t tg = true ∧ chkI ck it tg iter = true ∧
    chkE ⟨scope.names, ck.N⟩ e elt = true ∧ ((ifs = [] ∧ c = .nil) ∨ ∃ x, ifs = [x] ∧ c.isNil = false ∧ chkE ⟨scope.names, ck.N⟩ c x = true) := by
  unfold chkE at h
  split at h
  · rename_i elt tg iter ifs scope pos
    obtain ⟨h1, h6⟩ := ba h
    obtain ⟨h1, h5⟩ := ba h1
    obtain ⟨h1, h4⟩ := ba h1
    obtain ⟨h1, h3⟩ := ba h1
    obtain ⟨h1, h2⟩ := ba h1
    refine ⟨elt, tg, iter, ifs, scope, pos, rfl, h1, bnot h2, h3, h4, h5, ?_⟩
    split at h6
    · exact .inl ⟨rfl, isNil_eq h6⟩
    · obtain ⟨h7, h8⟩ := ba h6
      exact .inr ⟨_, rfl, bnot h7, h8⟩
    · cases h6
  · cases h
theorem s_set {t : T} {e : E} : GS lev (.set t e) := fun X ck W s x r h => by
  unfold chkS at h
  split at h
  · rename_i tg pe pos
    obtain ⟨h, h3⟩ := ba h
    obtain ⟨h1, h2⟩ := ba h
    by_cases hl : isLC pe = true
    · rw [if_pos hl] at h3
      obtain ⟨h3a, h5⟩ := ba h3
      obtain ⟨h3b, h4⟩ := ba h3a
      cases t with
      | one i =>
        cases e with
        | comp e t it c =>
          obtain ⟨elt, tg2, iter, ifs, scope, pos', rfl, k1, k2, k3, k4, k5, k6⟩ := comp_inv h2
          obtain ⟨r1, r0⟩ := refs_l r
          obtain ⟨r2, r3⟩ := refs_l r0
          cases tg with
          | Name y py =>
            obtain ⟨h3, h8⟩ := ba (show (decide (ck.names.lookup y = some .local) && (py.line == pos'.line) && !(scope.names.any fun p => p.1 == y && (p.2 == .local || p.2 == .cell))) = true from h3b)
            obtain ⟨h6, h7⟩ := ba h3
            obtain ⟨n1, n2⟩ := ba (show (decide (ck.N[i]? = some y) && locK (ck.names.lookup y)) = true from h1)
            obtain ⟨k', hk1, hk2⟩ := x.sees y _ (of_decide_eq_true h6)
            have hyl : X.env.scope.names.lookup y = some .local := by
              rcases hk2 with rfl | ⟨z, _⟩
              · exact hk1
              · cases z
            refine ss_setL (ss_setLc x.calm x.nd ((g_all it).2.2.2.2.2 X ck W tg2 iter x.toXOk r2 k4) (blk_ok x.toXOk k1) (own_slots _ _) (fun s H C cl fp => pg_T (x.toXOk.blk s H C cl fp) k3) (fun s H C cl fp => ?_) (fun s H C cl fp => (g_all e).1 _ _ W0 elt (x.toXOk.blk s H C cl fp) r1 k5) (folded_plain k2) (by rw [x.N]; exact of_decide_eq_true n1) hyl (sw_true x.fk hyl h7 (bnot h8)))
            rcases k6 with ⟨rfl, rfl⟩ | ⟨pc, rfl, h7, h8⟩
            · exact ⟨fun pins s σ H Q I ⟨ρ, st, mp, he, S, q⟩ => pts_nil.run pins s σ H Q I (RP.ok q S rfl)⟩
            · rw [den_c c h7]
              exact pts_one ((g_all c).2.1 _ _ W0 _ (x.toXOk.blk s H C cl fp) r3 h8)
          | _ => cases h3b
        | _ => cases h4
      | _ => cases h5
    · rw [if_neg hl] at h3
      refine ss_set (se x r h2) (pg_T x.toXOk h1) ?_ (swapped_plain (bnot h3)) ?_
      · exact swaps_plain (by simpa using hl)
      · rw [each_plain (chkT_star h1)]; rfl
  · cases h
theorem s_setSub {o i e : E} : GS lev (.setSub o i e) := fun X ck W s x r h => by
  unfold chkS at h
  split at h
  · rename_i xe ye p pe pos
    obtain ⟨h, h4⟩ := ba h
    obtain ⟨h, h3⟩ := ba h
    obtain ⟨h1, h2⟩ := ba h
    obtain ⟨r1, r0⟩ := refs_l r
    obtain ⟨r2, r3⟩ := refs_l r0
    exact ss_setSub (se x r3 h4) (se x r1 h2) (se x r2 h3) (sub_plain (bnot h1)) (show swapsWith pe (some (.Subscript xe ye p)) pos.line X.env = pure false from swaps_other (by intro _ _ z; cases z)) (swapped_plain rfl) rfl
  · cases h
theorem s_setFld {o : E} {c f : Nat} {e : E} : GS lev (.setFld o c f e) := fun X ck W s x r h => by
  unfold chkS at h
  split at h
  · rename_i xe n p pe pos
    obtain ⟨h, h3⟩ := ba h
    obtain ⟨h1, h2⟩ := ba h
    cases of_decide_eq_true h1
    obtain ⟨⟨a1, a2, a3⟩, r0⟩ := refs_c r
    obtain ⟨r1, r2⟩ := refs_l r0
    exact ss_setFld a1 a2 a3 (se x r2 h3) (se x r1 h2) (swaps_other (by intro _ _ z; cases z))
  · cases h
theorem s_aug {i : Nat} {o : Bop} {e : E} : GS lev (.aug i o e) := fun X ck W s x r h => by
  unfold chkS at h
  split at h
  · rename_i y p q pe pos
    obtain ⟨h, h3⟩ := ba h
    obtain ⟨h1, h2⟩ := ba h
    cases of_decide_eq_true (show decide (bop o = q) = true from h2)
    obtain ⟨l1, l2⟩ := ba h1
    obtain ⟨l3, l4⟩ := x.toXOk.loc l2
    exact ss_aug x.nd (by rw [x.N]; exact of_decide_eq_true l1) l3 (se x r h3) l4
  · cases h
theorem s_augSub {o i : E} {p : Bop} {e : E} : GS lev (.augSub o i p e) := fun X ck W s x r h => by
  unfold chkS at h
  split at h
  · rename_i xe ye tp q pe pos
    obtain ⟨h, h5⟩ := ba h
    obtain ⟨h, h4⟩ := ba h
    obtain ⟨h, h3⟩ := ba h
    obtain ⟨h1, h2⟩ := ba h
    cases of_decide_eq_true (show decide (bop p = q) = true from h2)
    obtain ⟨r1, r0⟩ := refs_l r
    obtain ⟨r2, r3⟩ := refs_l r0
    exact ss_augSub (se x r1 h3) (se x r2 h4) (se x r3 h5) (aug_plain (bnot h1))
  · cases h
theorem s_augFld {o : E} {c f : Nat} {p : Bop} {e : E} : GS lev (.augFld o c f p e) := fun X ck W s x r h => by
  unfold chkS at h
  split at h
  · rename_i xe n tp q pe pos
    obtain ⟨h, h4⟩ := ba h
    obtain ⟨h, h3⟩ := ba h
    obtain ⟨h1, h2⟩ := ba h
    cases of_decide_eq_true h1
    cases of_decide_eq_true (show decide (bop p = q) = true from h2)
    obtain ⟨⟨a1, a2, a3⟩, r0⟩ := refs_c r
    obtain ⟨r1, r2⟩ := refs_l r0
    exact ss_augFld a1 a2 a3 (se x r1 h3) (se x r2 h4)
  · cases h
theorem s_expr {e : E} : GS lev (.expr e) := fun X ck W s x r h => by
  unfold chkS at h
  split at h
  · obtain ⟨h1, h2⟩ := ba h
    exact ss_expr (se x r h2) (swaps_plain (bnot h1))
  · cases h
theorem s_ret {e : E} : GS lev (.ret e) := fun X ck W s x r h => by
  unfold chkS at h
  split at h
  · exact ss_ret (se x r h)
  · cases h
theorem s_ret0 : GS lev .ret0 := fun X ck W s x r h => by
  unfold chkS at h
  split at h
  · exact ss_ret0
  · cases h
theorem s_brk : GS lev .brk := fun X ck W s x r h => by
  unfold chkS at h
  split at h
  · exact ss_brk
  · cases h
theorem s_pass : GS lev .pass := fun X ck W s x r h => by
  unfold chkS at h
  split at h
  · exact ss_pass
  · cases h
theorem s_if {c : E} {a b : S} (ha : GB lev a) (hb : GB lev b) : GS lev (.if_ c a b) := fun X ck W s x r h => by
  unfold chkS at h
  split at h
  · obtain ⟨h, h3⟩ := ba h
    obtain ⟨h1, h2⟩ := ba h
    obtain ⟨r1, r0⟩ := refs_l r
    obtain ⟨r2, r3⟩ := refs_l r0
    refine PS.of (ss_if (st x r1 h1) (ha X ck W _ x r2 h2) (hb X ck W _ x r3 h3)) fun D σ H h => h
  · cases h
theorem s_for {t : T} {it : E} {b : S} (hb : GB lev b) : GS lev (.for_ t it b) := fun X ck W s x r h => by
  unfold chkS at h
  split at h
  · obtain ⟨h, h4⟩ := ba h
    obtain ⟨h, h3⟩ := ba h
    obtain ⟨h1, h2⟩ := ba h
    obtain ⟨r1, r2⟩ := refs_l r
    exact ss_for x.passes x.calm ((g_all it).2.2.2.2.2 X ck W _ _ x.toXOk r1 h2) (pg_T x.toXOk h1) (hb X ck W _ x r2 h4) (folded_plain (bnot h3))
  · cases h
theorem s_while {c : E} {b : S} (hb : GB lev b) : GS lev (.while_ c b) := fun X ck W s x r h => by
  unfold chkS at h
  split at h
  · obtain ⟨h1, h2⟩ := ba h
    obtain ⟨r1, r2⟩ := refs_l r
    exact ss_while x.passes (st x r1 h1) (hb X ck W _ x r2 h2)
  · cases h
theorem s_raise {c : Nat} {l : E} : GS lev (.raise c l) := fun X ck W s x r h => by
  unfold chkS at h
  split at h
  · rename_i y p es cp pos
    obtain ⟨h, h4⟩ := ba h
    obtain ⟨h, h3⟩ := ba h
    obtain ⟨h1, h2⟩ := ba h
    cases of_decide_eq_true h1
    obtain ⟨g1, g2⟩ := x.toXOk.glob h2
    obtain ⟨r1, r2⟩ := refs_c r
    cases es with
    | nil =>
      cases chkA_nil h3
      exact ss_raise0 r1 x.calm x.takes g1 g2
    | cons e es =>
      cases es with
      | cons _ _ => simp at h4
      | nil =>
        obtain ⟨a, rfl⟩ := chkA_one h3
        obtain ⟨h5, h6⟩ := ba (show (!isStar e && chkE ck a e && chkA ck .nil []) = true from h3)
        obtain ⟨h5, h7⟩ := ba h5
        obtain ⟨r3, _⟩ := refs_l r2
        refine PS.of (ss_raise1 r1 x.room x.calm x.takes g1 g2 (se x r3 h7) (star_cons (bnot h5))) fun D σ H ⟨ρ, st, mp, he, S, q⟩ => ⟨ρ, st, mp, he, S, ?_⟩
        have e1 : (((den a).e ρ st).bind fun x st1 => (M1.R.ok [] st1).bind fun xs st2 => M1.R.ok (x :: xs) st2).then ρ (fun xs st1 => match xs with
          | [] => .exc c none ρ st1
          | [x] => .exc c (some x) ρ st1
          | _ => .stuck) = ((den a).e ρ st).then ρ fun x st1 => .exc c (some x) ρ st1 := by cases (den a).e ρ st <;> rfl
        exact Eq.mp (congrArg (fun f => FP X.K H mp f D W) e1) q
  · cases h
theorem SOk.tr (x : SOk X ck lev W) {W' : WX} {pn : List (Addr × Obj)} {xe : Value → Shared → Prop} (tk : Takes (X.tr pn xe) W') (hp : PassesOwn (model X.prog X.w) X.A X.env xe) : SOk (X.tr pn xe) ck lev W' :=
  { N := x.N, nd := x.nd, sees := x.sees, cells := x.cells, calm := x.calm, room := x.room, takes := tk, passes := hp, free := x.free, fk := x.fk, hs := x.hs, hf := x.hf }
def tsOf (K : PySem.W.Frag) (h : Hc) : Addr → Value → Option Addr → TS := fun a cls d D σ H => ∃ e xx, e ∈ exNs ∧ cls = .ref (cA K e) ∧ tH K a d h.as xx (hbs e xx h.b) D σ H
def clOf (K : PySem.W.Frag) (h : Hc) : Cl := ⟨.ref (cA K h.c), h.as, tsOf K h⟩
theorem cls_ok (x : SOk X ck lev W) (F : RefOk (cxX X) lev .exs) : ∀ {hs : List Hc} {hds : List ExceptHandler}, chkHcs ck hs hds = true → ClsOk X hds (hs.map (clOf X.K)) ∧ ∀ h ∈ hs, h.c ∈ exNs
  | [], [], _ => ⟨.nil, fun _ h => nomatch h⟩
  | h :: hs, eh :: hds, hc => by
    obtain ⟨h1, h2⟩ := ba (show (chkHc ck h eh && chkHcs ck hs hds) = true from hc)
    obtain ⟨ih, im⟩ := cls_ok x F h2
    unfold chkHc at h1
    split at h1
    · rename_i y py n b₀ suite pos
      obtain ⟨h1, k5⟩ := ba h1
      obtain ⟨h1, k4⟩ := ba h1
      obtain ⟨h1, k3⟩ := ba h1
      obtain ⟨k1, k2⟩ := ba h1
      cases of_decide_eq_true k1
      obtain ⟨g1, g2⟩ := x.toXOk.glob k2
      have hin := of_decide_eq_true k3
      have hN : Names X (nm h.c) (.ref (cA X.K h.c)) := ⟨g1, g2, .inl (F.1 _ hin)⟩
      have hsu : ∀ (a : Addr) (oe : Obj) (cls : Value) (d : Option Addr) (pn : List (Addr × Obj)), Zc cls d oe → (∃ vs, oe.data = .fields vs) → PSs (X.suite a ((a, oe) :: pn)) (b₀ :: suite) (tsOf X.K h a cls d) := fun a oe cls d pn hz hf =>
        ⟨fun pins s σ H D I ⟨e, xx, he, hcl, q⟩ => by subst hcl; exact (hbs_ps x.toXOk F he hz hf k4).run pins s σ H D I q⟩
      refine ⟨?_, fun h' hm => by rcases List.mem_cons.mp hm with rfl | z; exact hin; exact im h' z⟩
      show ClsOk X _ (clOf X.K h :: _)
      unfold clOf
      cases n with
      | none =>
        generalize ha : h.as = as at k5 ⊢
        cases as with
        | none => exact .bare hN hsu ih
        | some _ => cases k5
      | some y =>
        generalize ha : h.as = as at k5 ⊢
        cases as with
        | none => cases k5
        | some i =>
          obtain ⟨k6, k7⟩ := ba k5
          obtain ⟨k', hk1, hk2⟩ := x.sees y _ (of_decide_eq_true k7)
          have hyl : X.env.scope.names.lookup y = some .local := by
            rcases hk2 with rfl | ⟨z, _⟩
            · exact hk1
            · cases z
          exact .named hN (by rw [x.N]; exact of_decide_eq_true k6) hyl hsu ih
    · cases h1
  | [], _ :: _, h => by cases h
  | _ :: _, [], h => by cases h
theorem catch_of {K : PySem.W.Frag} (F : ∀ e ∈ exNs, ExF K e) {D : Ends} {e : Nat} (he : e ∈ exNs) {xx : Option M1.D} {ρ : Env} {st : Sto} {H : Hp} {mp : List Addr} : ∀ {hs : List Hc}, (∀ h ∈ hs, h.c ∈ exNs) → FP K H mp (catchF e xx ρ st hs) D W →
    ∀ σ dd H' mp', Ext K H mp H' mp' → EnvR K H' mp' ρ σ → StoR K H' mp' st → ExR K H' mp' xx dd → wMix K W D (hs.map (clOf K)) (.ref (cA K e)) dd σ H'
  | [], _, q => q
  | h :: hs, hm, q => fun σ dd H' mp' ex hE S hx => by
    refine ⟨subC e h.c, (F e he).ex _ (hm h (List.mem_cons_self ..)), fun hb a na => ?_, fun hb => ?_⟩
    · unfold catchF at q
      rw [if_pos hb] at q
      by_cases hin : asIn h.as ρ = true
      case neg => rw [if_neg hin] at q; exact q.elim
      rw [if_pos hin] at q
      refine ⟨e, xx, he, rfl, clr h.as ρ, st, mp', ?_, S, hx, ?_, ?_⟩
      · show EnvR K H' mp' (clr h.as ρ) (take1 h.as a σ)
        cases h.as with
        | none => exact hE
        | some i => exact hE.clear i _
      · intro i hi
        have hi' : h.as = some i := hi
        show (take1 h.as a σ)[i]? = _
        rw [hi'] at hin ⊢
        exact List.getElem?_set_self (hE.1 ▸ of_decide_eq_true hin)
      · generalize hbs e xx h.b (clr h.as ρ) st = w at q ⊢
        cases w with
        | none => exact q
        | some w =>
          intro σ2 H2 mp2 ex2 hE2 S2 hx2 _
          refine q (drop1 h.as σ2) H2 mp2 (ex.trans ex2) ?_ S2
          cases h.as with
          | none => exact hE2
          | some i => exact hE2.clear i _
    · unfold catchF at q
      rw [if_neg (by rw [hb]; exact Bool.false_ne_true)] at q
      exact catch_of F he (fun h' z => hm h' (List.mem_cons_of_mem _ z)) q σ dd H' mp' ex hE S hx
theorem try_of {K : PySem.W.Frag} (FF : ∀ e ∈ exNs, ExF K e) {D : Ends} {hs : List Hc} (hm : ∀ h ∈ hs, h.c ∈ exNs) {f : F} {H : Hp} {mp : List Addr} (q : FP K H mp (tryF hs f) D W) : FP K H mp f D (wMix K W D (hs.map (clOf K))) := by
  cases f with
  | exc e xx ρ st =>
    unfold tryF at q
    dsimp only at q
    by_cases he : e ∈ exNs
    · rw [if_pos he] at q
      exact fun σ dd H' mp' ex hE S hx => catch_of FF he hm q σ dd H' mp' ex hE S hx
    · rw [if_neg he] at q; exact q.elim
  | _ => exact q
theorem s_try {b : S} {hs : List Hc} (hb : GB lev b) : GS lev (.try_ b hs) := fun X ck W s x r h => by
  unfold chkS at h
  split at h
  · rename_i body h₀ hds pos
    obtain ⟨h1, h2⟩ := ba h
    obtain ⟨r1, r2⟩ := refs_c r
    obtain ⟨c1, c2⟩ := cls_ok x r1 h2
    refine PS.of (ps_try_mix (tb := fun W' => tS X.K W' (denS b)) x.nd x.hs x.hf x.takes (fun W' pn xe tk hp => hb (X.tr pn xe) ck W' body (x.tr tk hp) r2 h1) c1) fun D σ H ⟨ρ, st, mp, hE, S, q⟩ => ⟨ρ, st, mp, hE, S, try_of r1.2.2 c2 q⟩
  · cases h
theorem s_none {b : S} (h : ∀ ck s, chkS ck b s = false) : GS lev b := fun X ck W s x r hc => by rw [h] at hc; cases hc
theorem b_none {b : S} (h : ∀ ck s, chkB ck b s = false) : GB lev b := fun X ck W s x r hc => by rw [h] at hc; cases hc
theorem s_all (lev : Nat) (b : S) : GS lev b ∧ GB lev b := by
  induction b with
  | nil => exact ⟨s_none fun _ s => by cases s <;> rfl, fun X ck W ss x r h => by
      cases ss with
      | nil => exact ss_nil
      | cons _ _ => cases h⟩
  | cons a r ha hr => exact ⟨s_none fun _ s => by cases s <;> rfl, fun X ck W ss x rr h => by
      cases ss with
      | nil => cases h
      | cons s ss =>
        obtain ⟨h1, h2⟩ := ba (show (chkS ck a s && chkB ck r ss) = true from h)
        obtain ⟨r1, r2⟩ := refs_l rr
        exact ss_cons (ha.1 X ck W s x r1 h1) (hr.2 X ck W ss x r2 h2)⟩
  | set t e => exact ⟨s_set, b_none fun _ s => by cases s <;> rfl⟩
  | setSub o i e => exact ⟨s_setSub, b_none fun _ s => by cases s <;> rfl⟩
  | setFld o c f e => exact ⟨s_setFld, b_none fun _ s => by cases s <;> rfl⟩
  | aug i o e => exact ⟨s_aug, b_none fun _ s => by cases s <;> rfl⟩
  | augSub o i p e => exact ⟨s_augSub, b_none fun _ s => by cases s <;> rfl⟩
  | augFld o c f p e => exact ⟨s_augFld, b_none fun _ s => by cases s <;> rfl⟩
  | expr e => exact ⟨s_expr, b_none fun _ s => by cases s <;> rfl⟩
  | ret e => exact ⟨s_ret, b_none fun _ s => by cases s <;> rfl⟩
  | ret0 => exact ⟨s_ret0, b_none fun _ s => by cases s <;> rfl⟩
  | if_ c a b ha hb => exact ⟨s_if ha.2 hb.2, b_none fun _ s => by cases s <;> rfl⟩
  | for_ t it b hb => exact ⟨s_for hb.2, b_none fun _ s => by cases s <;> rfl⟩
  | while_ c b hb => exact ⟨s_while hb.2, b_none fun _ s => by cases s <;> rfl⟩
  | brk => exact ⟨s_brk, b_none fun _ s => by cases s <;> rfl⟩
  | pass => exact ⟨s_pass, b_none fun _ s => by cases s <;> rfl⟩
  | raise c l => exact ⟨s_raise, b_none fun _ s => by cases s <;> rfl⟩
  | try_ b hs hb => exact ⟨s_try hb.2, b_none fun _ s => by cases s <;> rfl⟩
end
end M1
namespace M1
open PySem PySem.Spec L2
/-! ### behind a def -/
section
variable {K : PySem.W.Frag} {H H' : Hp} {mp mp' : List Addr}
mutual
theorem DR.closed : ∀ (d : D) (v : V), DR K H mp d v → closedD mp.length d = true
  | .non, _, _ => rfl
  | .bl _, _, _ => rfl
  | .int _, _, _ => rfl
  | .str _, _, _ => rfl
  | .tup ds, _, h => by
    unfold DR at h
    obtain ⟨a, vs, _, _, q⟩ := h
    exact DRs.closed ds vs q
  | .frz ds, _, h => by
    unfold DR at h
    obtain ⟨a, vs, _, _, q⟩ := h
    exact DRs.closed ds vs q
  | .loc n, _, h => by
    unfold DR at h
    obtain ⟨a, r, _⟩ := h
    exact decide_eq_true (List.getElem?_eq_some_iff.mp r).1
theorem DRs.closed : ∀ (ds : List D) (vs : List V), DRs K H mp ds vs → closedDs mp.length ds = true
  | [], _, _ => rfl
  | d :: ds, _, h => by
    unfold DRs at h
    obtain ⟨v, r, _, h1, h2⟩ := h
    show (closedD mp.length d && closedDs mp.length ds) = true
    rw [DR.closed d v h1, DRs.closed ds r h2]; rfl
end
theorem FRs.closed : ∀ (fs : List (Nat × D)) (vs : List (Str × V)), FRs K H mp fs vs → closedDs mp.length (fs.map (·.2)) = true
  | [], _, _ => rfl
  | d :: ds, _, h => by
    unfold FRs at h
    obtain ⟨v, r, _, _, h1, h2⟩ := h
    show (closedD mp.length d.2 && closedDs mp.length (ds.map (·.2))) = true
    rw [DR.closed _ v h1, FRs.closed ds r h2]; rfl
theorem OR.closed {a : Addr} {o : O} (h : OR K H mp a o) : closedO mp.length o = true := by
  cases o with
  | lst ds => obtain ⟨vs, _, h⟩ := h; exact DRs.closed ds vs h
  | ins c fs => obtain ⟨_, vs, _, h⟩ := h; exact FRs.closed fs vs h
mutual
theorem DR.less (new : List Addr) : ∀ (d : D) (v : V), closedD mp.length d = true → DR K H (mp ++ new) d v → DR K H mp d v
  | .non, _, _, h => by unfold DR at h ⊢; exact h
  | .bl _, _, _, h => by unfold DR at h ⊢; exact h
  | .int _, _, _, h => by unfold DR at h ⊢; exact h
  | .str _, _, _, h => by unfold DR at h ⊢; exact h
  | .tup ds, _, c, h => by
    unfold DR at h ⊢
    obtain ⟨a, vs, r, s, q⟩ := h
    exact ⟨a, vs, r, s, DRs.less new ds vs c q⟩
  | .frz ds, _, c, h => by
    unfold DR at h ⊢
    obtain ⟨a, vs, r, s, q⟩ := h
    exact ⟨a, vs, r, s, DRs.less new ds vs c q⟩
  | .loc n, _, c, h => by
    unfold DR at h ⊢
    obtain ⟨a, r, s⟩ := h
    have hn : n < mp.length := of_decide_eq_true c
    rw [List.getElem?_append_left hn] at r
    exact ⟨a, r, s⟩
theorem DRs.less (new : List Addr) : ∀ (ds : List D) (vs : List V), closedDs mp.length ds = true → DRs K H (mp ++ new) ds vs → DRs K H mp ds vs
  | [], _, _, h => by unfold DRs at h ⊢; exact h
  | d :: ds, _, c, h => by
    unfold DRs at h ⊢
    obtain ⟨v, r, e, h1, h2⟩ := h
    obtain ⟨c1, c2⟩ := ba (show (closedD mp.length d && closedDs mp.length ds) = true from c)
    exact ⟨v, r, e, DR.less new d v c1 h1, DRs.less new ds r c2 h2⟩
end
theorem FRs.less (new : List Addr) : ∀ (fs : List (Nat × D)) (vs : List (Str × V)), closedDs mp.length (fs.map (·.2)) = true → FRs K H (mp ++ new) fs vs → FRs K H mp fs vs
  | [], _, _, h => by unfold FRs at h ⊢; exact h
  | d :: ds, _, c, h => by
    unfold FRs at h ⊢
    obtain ⟨v, r, e, e0, h1, h2⟩ := h
    obtain ⟨c1, c2⟩ := ba (show (closedD mp.length d.2 && closedDs mp.length (ds.map (·.2))) = true from c)
    exact ⟨v, r, e, e0, DR.less new _ v c1 h1, FRs.less new ds r c2 h2⟩
theorem OR.less {new : List Addr} {a : Addr} {o : O} (c : closedO mp.length o = true) (h : OR K H (mp ++ new) a o) : OR K H mp a o := by
  cases o with
  | lst ds => obtain ⟨vs, e, h⟩ := h; exact ⟨vs, e, DRs.less new ds vs c h⟩
  | ins cc fs => obtain ⟨dx, vs, e, h⟩ := h; exact ⟨dx, vs, e, FRs.less new fs vs c h⟩
/-- the places that were, behind a def that kept them -/
theorem StoR.less {st st' : Sto} (S : StoR K H mp st) (e : Ext K H mp H' mp') (S' : StoR K H' mp' st') (k : Keep st st') : StoR K H' mp (st'.take st.length) ∧ Ext K H mp H' mp ∧ ∃ new, mp' = mp ++ new := by
  obtain ⟨new, rfl, hn⟩ := id e.pre
  have hl : mp.length + new.length = st'.length := by rw [← S'.len, List.length_append]
  have hle : mp.length ≤ st'.length := by omega
  refine ⟨⟨?_, S.nd, fun n o a h1 h2 => ?_⟩, ⟨⟨[], by simp⟩, e.keep, e.tup, e.frz⟩, new, rfl⟩
  · rw [List.length_take, ← S.len]; omega
  · have hn : n < mp.length := (List.getElem?_eq_some_iff.mp h2).1
    rw [List.getElem?_take_of_lt (by rw [← S.len]; exact hn)] at h1
    have h3 := S'.at_ n o a h1 (by rw [List.getElem?_append_left hn]; exact h2)
    refine OR.less ?_ h3
    rcases k n (by rw [← S.len]; exact hn) with k | ⟨o', k, c⟩
    · rw [h1] at k
      exact (S.at_ n o a k.symm h2).closed
    · rw [h1] at k
      cases k
      rw [S.len]; exact c
theorem gc_of {st st' : Sto} (S : StoR K H mp st) {d : D} {Q : VK} {E : XK} (q : RP K (DR K) H mp (gc st d st') Q E) : ∀ v H' mp', Ext K H mp H' mp' → StoR K H' mp' st' → DR K H' mp' d v → Q v H' := by
  intro v H' mp' e S' hd
  unfold gc at q
  by_cases hk : Keep st st'
  case neg => rw [if_neg hk] at q; exact q v H' mp' e S' hd
  rw [if_pos hk] at q
  obtain ⟨S2, e2, new, rfl⟩ := S.less e S' hk
  by_cases hc : closedD st.length d = true
  · rw [if_pos hc] at q
    exact q v H' mp e2 S2 (DR.less new d v (by rw [S.len]; exact hc) hd)
  rw [if_neg hc] at q
  cases d with
  | loc k =>
    dsimp only at q
    cases e1 : lstAt st' k with
    | none => rw [e1] at q; exact q v H' _ e S' hd
    | some ds =>
      rw [e1] at q
      dsimp only at q
      by_cases hcl : closedDs st.length ds = true
      case neg => rw [if_neg hcl] at q; exact q v H' _ e S' hd
      rw [if_pos hcl] at q
      obtain ⟨a, ha, rfl⟩ := dr_loc hd
      obtain ⟨vs, h1, h2⟩ := lstAt_of S' e1 ha
      have hk2 : mp.length ≤ k := by
        have : ¬ (k < st.length) := fun z => hc (decide_eq_true z)
        rw [← S.len] at this; omega
      have hin : a ∈ new := by
        rw [List.getElem?_append_right hk2] at ha
        exact List.mem_of_getElem? ha
      have hnot : a ∉ mp := by
        have := List.nodup_append.mp S'.nd
        exact fun z => this.2.2 a z a hin rfl
      have h0 : H a = none := by
        obtain ⟨n2, e3, e4⟩ := e.pre
        rw [List.append_cancel_left_eq] at e3
        subst e3
        exact e4 a hin hnot
      have h3 : DRs K H' mp ds vs := DRs.less new ds vs (by rw [S.len]; exact hcl) h2
      have g : Ext0 K H' mp H' (mp ++ [a]) := ⟨⟨[a], rfl⟩, fun _ _ h => h, fun _ _ _ h => h⟩
      refine q (.ref a) H' (mp ++ [a]) ⟨⟨[a], rfl, fun b hb _ => by simp at hb; subst hb; exact h0⟩, e.keep, e.tup, e.frz⟩ (S2.adopt hnot ⟨vs, h1, DRs.ext0 g _ _ h3⟩) (mk_loc (by rw [← S.len]; simp))
  | _ => exact q v H' _ e S' hd
theorem gcx_of {st st' : Sto} (S : StoR K H mp st) {c : Nat} {x : Option D} {Q : VK} {E : XK} (q : RP K (DR K) H mp (gcx st c x st') Q E) : ∀ dd H' mp', Ext K H mp H' mp' → StoR K H' mp' st' → ExR K H' mp' x dd → E (.ref (cA K c)) dd H' := by
  intro dd H' mp' e S' hx
  unfold gcx at q
  by_cases hk : Keep st st' ∧ (∀ d, x = some d → closedD st.length d = true)
  case neg => rw [if_neg hk] at q; exact q dd H' mp' e S' hx
  rw [if_pos hk] at q
  obtain ⟨S2, e2, new, rfl⟩ := S.less e S' hk.1
  refine q dd H' mp e2 S2 ?_
  cases x with
  | none => exact hx
  | some d =>
    obtain ⟨a, v, h1, h2, h3, h4⟩ := hx
    exact ⟨a, v, h1, h2, fun z => h3 (List.mem_append.mpr (.inl z)), DR.less new d v (by rw [S.len]; exact hk.2 d rfl) h4⟩
theorem finish_of {st : Sto} (S : StoR K H mp st) {f : F} {Q : VK} {E : XK} {W : WX} (hW : ∀ c d σ H, E c d H → W c d σ H) (q : RP K (DR K) H mp (finish st f) Q E) : FP K H mp f { nx := fun _ H' => Q .non H', rt := Q } W := by
  cases f with
  | nx ρ st' => exact fun σ H' mp' e he S' => gc_of S q .non H' mp' e S' mk_non
  | rt d st' => exact fun v H' mp' e S' hd => gc_of S q v H' mp' e S' hd
  | exc c x ρ st' => exact fun σ dd H' mp' e he S' hx => hW _ _ _ _ (gcx_of S q dd H' mp' e S' hx)
  | bk ρ st' => exact q.elim
  | stuck => exact q.elim
theorem strict_den (np n : Nat) (b : S) : Strict np (denDef np n b) := fun xs st h => if_neg h
theorem env_start {N : List Str} {xs : List D} {vs : List V} (hd : DRs K H mp xs vs) : EnvR K H mp (xs.map some ++ List.replicate (N.length - xs.length) none) (L2.start N vs) := by
  have hl := hd.length
  refine ⟨by unfold L2.start; simp [hl], fun i d hi => ?_⟩
  by_cases h : i < xs.length
  · rw [List.getElem?_append_left (by simpa using h), List.getElem?_map] at hi
    cases e : xs[i]? with
    | none => rw [e] at hi; cases hi
    | some y =>
      rw [e] at hi
      cases hi
      obtain ⟨v, h1, h2⟩ := hd.at_ e
      refine ⟨v, ?_, h2⟩
      unfold L2.start
      rw [List.getElem?_append_left (by simpa [← hl] using h), List.getElem?_map, h1]
      rfl
  · rw [List.getElem?_append_right (by simpa using h), List.getElem?_replicate] at hi
    split at hi <;> cases hi
end
/-- a def keeps its promise -/
theorem fn_M {P : Program} {w : World} {K : PySem.W.Frag} {mg : Str → Option Value} {base : Heap} {x qual : Str} {params : Arguments} {body : List Stmt} {scope : Scope} {dvs : List V} {kws : List (Str × V)} {f : Addr} {fd : FuncData} {N ps : List Str} {b : S} {lev np n : Nat}
    (F : FunD K x qual params body scope dvs kws f fd) (hS : FnScope N ps scope) (hn : N.length = n) (hp : ps.length = np) (hc : chkB ⟨scope.names, N⟩ b body = true) (hr : ∀ r ∈ refsS b, RefOk ⟨P, w, K, mg, base⟩ lev r) (hfree : ∀ x ∈ bnames, mg x = none) :
    FnOk P w K mg base (L2.CX P w) (lev + 1) f fd ps (spM K np (denDef np n b)) := by
  subst hn hp
  refine F.ok hS (fun vs H Q E h => h.1) fun cdv A outer s H vs Q E room h => ⟨_, (s_all lev b).2 _ ⟨scope.names, N⟩ (fun cls d _ H => E cls d H) body ?_ hr hc, ?_⟩
  · exact { N := rfl, nd := hS.nd, sees := fun y k e => ⟨k, e, .inl rfl⟩, cells := fun _ _ => rfl, calm := rfl, room := room, takes := takes_of rfl rfl rfl (E₁ := fun e' s'' => L2.CX P w outer H s E e' s'') rfl, passes := passes_of (K := fun e s'' => L2.CX P w outer H s E e s'') (E₁ := fun e' s'' => L2.CX P w outer H s E e' s'') rfl, free := hfree, fk := hS.kind, hs := rfl, hf := rfl }
  · obtain ⟨hl, xs, st, mp, S, hd, q⟩ := h
    have hx : xs.length = ps.length := by rw [hd.length]; exact hl
    refine ⟨xs.map some ++ List.replicate (N.length - xs.length) none, st, mp, env_start hd, S, finish_of S (fun _ _ _ _ h => h) ?_⟩
    unfold denDef at q
    rw [if_pos hx, ← hx] at q
    exact q
theorem RefOk.mono {G : Cx1} {j k : Nat} (h : j ≤ k) : ∀ {r : Ref}, RefOk G j r → RefOk G k r
  | .exs, q => q
  | .fn x f, ⟨fa, fd, ps, s, h1, h2, F, b⟩ => ⟨fa, fd, ps, s, h1, h2, F.mono h, b⟩
  | .mt c m f, ⟨h1, h2, fa, fd, ps, s, h3, F, b⟩ => ⟨h1, h2, fa, fd, ps, s, h3, F.mono h, b⟩
  | .mk c f, ⟨h1, fa, fd, ps, j', hj, s, h3, F, b⟩ => ⟨h1, fa, fd, ps, j', Nat.le_trans hj h, s, h3, F, b⟩
  | .fld _ _, q => q
  | .gi _ _, q => q
  | .gs _ _, q => q
  | .ex0 _, q => q
  | .ex1 c, ⟨h1, h2, fI, fd, ps, j', hj, h3, h4, F, b⟩ => ⟨h1, h2, fI, fd, ps, j', Nat.le_trans hj h, h3, h4, F, b⟩
end M1
namespace M1
open PySem PySem.Spec L2
/-! ### the facts of the text -/
def fnA (K : PySem.W.Frag) (c : Nat) : Addr := He.ma K (cA K c) "__init__"
/-- an exception class with an own __init__ -/
def oexB (K : PySem.W.Frag) (c : Nat) : Bool := (match K.lookup (cA K c) with
  | some ⟨.type "type", _, .cls cd, sl⟩ => (match cd.mro, sl.toList with
    | .ref C' :: bm, [_, _, _, _, some (.builtin n), _] => C' == cA K c && n == "ValueError.__new__" && !cd.hasDel && cd.hasDict && PySem.HandSPX.refsVE bm
    | _, _ => false)
  | _ => false) && (He.eqO (PySem.W.findIn K (.ref (cA K c)) "__setattr__") (some (some (.builtin "object.__setattr__"))) && (decide (PySem.W.subIn K (.ref (cA K c)) (.type "BaseException") = some true) && (decide (PySem.W.typeIn K (.ref (cA K c)) = some (.type "type")) &&
    (PySem.W.keepIn K (.ref (cA K c)) && (He.eqO (PySem.W.findIn K (.ref (cA K c)) "__init__") (some (some (.ref (fnA K c)))) && (decide (PySem.W.typeIn K (.ref (fnA K c)) = some (.type "function")) && He.eqO (PySem.W.findIn K (.ref (cA K c)) (nm 9)) (some none)))))))
theorem oexB_ok {K : PySem.W.Frag} {c : Nat} (h : oexB K c = true) : OexC K (cA K c) ∧ PySem.W.findIn K (.ref (cA K c)) "__init__" = some (some (.ref (fnA K c))) ∧ PySem.W.typeIn K (.ref (fnA K c)) = some (.type "function") ∧ PySem.W.findIn K (.ref (cA K c)) (nm 9) = some none := by
  obtain ⟨h1, h⟩ := ba h
  obtain ⟨h2, h⟩ := ba h
  obtain ⟨h3, h⟩ := ba h
  obtain ⟨h4, h⟩ := ba h
  obtain ⟨h5, h⟩ := ba h
  obtain ⟨h6, h⟩ := ba h
  obtain ⟨h7, h8⟩ := ba h
  refine ⟨⟨?_, He.eqO_ok h2, of_decide_eq_true h3, of_decide_eq_true h4, h5⟩, He.eqO_ok h6, of_decide_eq_true h7, He.eqO_ok h8⟩
  split at h1
  · rename_i dd cd sl ho
    split at h1
    · rename_i C' bm k0 k1 k2 k3 n k5 hm hs
      obtain ⟨h1, a5⟩ := ba h1
      obtain ⟨h1, a4⟩ := ba h1
      obtain ⟨h1, a3⟩ := ba h1
      obtain ⟨a1, a2⟩ := ba h1
      have a1 := eq_of_beq a1
      have a2 := eq_of_beq a2
      obtain ⟨n1, n2, n3, n4, n5, n6, n7, n8, n9, n10, n11⟩ := cd
      obtain ⟨sl⟩ := sl
      dsimp only at hm hs a3 a4
      subst hm hs a1 a2 a4
      cases bnot a3
      exact ⟨_, _, _, _, bm, _, _, _, _, _, _, _, _, _, _, ho, a5⟩
    · cases h1
  · cases h1
/-- every exception class, for except clauses -/
def exfB (K : PySem.W.Frag) (e : Nat) : Bool := (PySem.W.clsIn K (cA K e)).isSome && (He.eqO (PySem.W.findIn K (.ref (cA K e)) "__getattribute__") (some (some (.builtin "BaseException.__getattribute__"))) && (He.eqO (PySem.W.findIn K (.ref (cA K e)) "__getattr__") (some none) &&
  (decide (PySem.W.subIn K (.ref (cA K e)) (.type "BaseException") = some true) && (PySem.W.hasDictIn K (cA K e) && (He.eqO (PySem.W.findIn K (.ref (cA K e)) "__class__") (some (some (.builtin "object.__class__"))) &&
  (He.eqO (PySem.W.specialIn K (.builtin "object.__class__") "__get__" |>.map fun z => z) (some (some (.builtin "getset_descriptor.__get__"))) && (decide (PySem.W.takesIn K (.builtin "object.__class__") = some true) && (decide (PySem.W.mroIn K (cA K e) (.type "object") = some true) &&
  (He.eqO (PySem.W.findIn K (.ref (cA K e)) (nm 9)) (some none) && (decide (PySem.W.kitOne K (.ref (cA K e)) (.type "ValueError") = some true) &&
  exNs.all fun c => decide (PySem.W.exmOne K (.ref (cA K e)) (.ref (cA K c)) = some (subC e c)) && decide (PySem.W.kitOne K (.ref (cA K e)) (.ref (cA K c)) = some (subC e c))))))))))))
theorem exfB_ok {K : PySem.W.Frag} {e : Nat} (h : exfB K e = true) : ExF K e := by
  obtain ⟨h1, h⟩ := ba h
  obtain ⟨h2, h⟩ := ba h
  obtain ⟨h3, h⟩ := ba h
  obtain ⟨h4, h⟩ := ba h
  obtain ⟨h5, h⟩ := ba h
  obtain ⟨h6, h⟩ := ba h
  obtain ⟨h7, h⟩ := ba h
  obtain ⟨h8, h⟩ := ba h
  obtain ⟨h9, h⟩ := ba h
  obtain ⟨h10, h⟩ := ba h
  obtain ⟨h11, h⟩ := ba h
  have h7' := He.eqO_ok h7
  rw [Option.map_id'] at h7'
  exact ⟨h1, He.eqO_ok h2, He.eqO_ok h3, of_decide_eq_true h4, h5, He.eqO_ok h6, h7', of_decide_eq_true h8, of_decide_eq_true h9, He.eqO_ok h10, fun c hc => of_decide_eq_true (ba (List.all_eq_true.mp h c hc)).1, fun c hc => of_decide_eq_true (ba (List.all_eq_true.mp h c hc)).2, of_decide_eq_true h11⟩
/-! ### the hook -/
/-- what a law asks of the text: its facts, its defs, its exceptions with an own __init__, whether it has except clauses -/
structure Txt where
  fa : List He.Fa
  fn : List He.DefD
  ox : List Nat
  xs : List Nat
def exB (ox xs : List Nat) (K : PySem.W.Frag) : Bool := ox.all (oexB K) && xs.all (exfB K)
abbrev AlM : Type := He.AlD × Bool
def obsM (n : Nat) (t : Txt) (g : Addr → Option Obj) : AlM := (He.obsD t.fa t.fn (He.frG g (He.asD g n)), exB t.ox t.xs (He.frG g (He.asD g n)))
def SaysM (t : Txt) (K : PySem.W.Frag) : Prop := He.SaysD t.fa t.fn K ∧ exB t.ox t.xs K = true
def hookM (n : Nat) (t : Txt) : PySem.W.Hook where
  α := AlM
  obs := fun s => obsM n t s.heap.get?
  val := fun _ => (He.valD t.fn, true)
  says := fun _ h => ∃ K : PySem.W.Frag, K.In h ∧ SaysM t K
  of := fun _ _ e => ⟨_, He.frG_in, congrArg (fun z : AlM => z.1) e, congrArg (fun z : AlM => z.2) e⟩
  keeps := fun _ _ _ ⟨K, hK, c⟩ k => ⟨K, PySem.W.Frag.In.keeps hK k, c⟩
theorem obsM_eq {n : Nat} {t : Txt} {g : Addr → Option Obj} {s : Shared} (h : ∀ a, g a = s.heap.get? a) : obsM n t g = (hookM n t).obs s := by
  have e : g = s.heap.get? := funext h
  rw [e] <;> rfl
/-! ### what a def is good for -/
/-- where the text stands -/
structure Sit (t : Txt) (G : Cx1) : Prop where
  inB : G.K.In G.base
  ns : G.base.Ns mainGlobals G.mg
  says : SaysM t G.K
section
variable {t : Txt} {G : Cx1}
theorem Sit.fact (s : Sit t G) {f : He.Fa} (h : f ∈ t.fa) : f.ok G.K = true := He.SaysD.facts s.says.1 h
theorem Sit.ox (s : Sit t G) {c : Nat} (h : c ∈ t.ox) : oexB G.K c = true := List.all_eq_true.mp (ba s.says.2).1 c h
theorem Sit.xs (s : Sit t G) {c : Nat} (h : c ∈ t.xs) : exfB G.K c = true := List.all_eq_true.mp (ba s.says.2).2 c h
theorem Sit.glo (s : Sit t G) {x : Str} (h : He.Fa.glo x ∈ t.fa) : G.mg x = some (.ref (He.ga G.K x)) := He.glo_ok s.inB s.ns (s.fact h)
theorem Sit.free (s : Sit t G) (h : ∀ x ∈ bnames, He.Fa.free x ∈ t.fa) : ∀ x ∈ bnames, G.mg x = none := fun x hx => He.free_ok s.inB s.ns (s.fact (h x hx))
structure DefOk (G : Cx1) (lev : Nat) (at_ : Str × Option Str) (np : Nat) (f : Fn) : Prop where
  ex : ∃ fd ps, ps.length = np ∧ FnOk G.P G.w G.K G.mg G.base (L2.CX G.P G.w) lev (He.fAd G.K at_) fd ps (spM G.K np f) ∧ Binds G.K fd ps []
  strict : Strict np f
  kp : PySem.W.keepIn G.K (.ref (He.fAd G.K at_)) = true
def scopeB (N ps : List Str) (sc : Scope) : Bool := (match sc.kind with | .function => true | _ => false) && (!sc.isCoroutine && (!sc.isGenerator && (decide N.Nodup && (decide (N.take ps.length = ps) && ((ps.all fun x => locK (sc.names.lookup x)) && sc.names.all fun y => match y.2 with | .free => false | _ => true)))))
theorem scopeB_ok {N ps : List Str} {sc : Scope} (h : scopeB N ps sc = true) : FnScope N ps sc := by
  obtain ⟨h1, h⟩ := ba h
  obtain ⟨h2, h⟩ := ba h
  obtain ⟨h3, h⟩ := ba h
  obtain ⟨h4, h⟩ := ba h
  obtain ⟨h5, h⟩ := ba h
  obtain ⟨h6, h7⟩ := ba h
  refine ⟨?_, bnot h2, bnot h3, of_decide_eq_true h4, of_decide_eq_true h5, fun x hx => ?_, fun y hy z => ?_⟩
  · cases e : sc.kind <;> rw [e] at h1 <;> first | rfl | cases h1
  · have q := List.all_eq_true.mp h6 x hx
    cases e : sc.names.lookup x with
    | none => rw [e] at q; cases q
    | some k =>
      rw [e] at q
      cases k with
      | «local» => exact .inl rfl
      | cell => exact .inr rfl
      | _ => cases q
  · have q := List.all_eq_true.mp h7 y hy
    rw [z] at q
    cases q
def AllR (P : Ref → Prop) : List Ref → Prop
  | [] => True
  | r :: rs => P r ∧ AllR P rs
theorem AllR.mem {P : Ref → Prop} : ∀ {l : List Ref}, AllR P l → ∀ r ∈ l, P r
  | [], _, _, h => by cases h
  | r :: rs, ⟨h1, h2⟩, r', h => by
    rcases List.mem_cons.mp h with rfl | z
    · exact h1
    · exact AllR.mem h2 r' z
def plainD (d : He.DefD) : Bool := d.dfl.isEmpty && d.kwd.isEmpty
theorem Sit.def_ (s : Sit t G) {d : He.DefD} (hd : d ∈ t.fn) {N ps : List Str} {b : S} {lev np n : Nat} (hp : plainD d = true) (hs : scopeB N ps d.scope = true) (hc : chkB ⟨d.scope.names, N⟩ b d.body = true) (hn : N.length = n) (hnp : ps.length = np)
    (hb : ∀ (kV doc pm : Value) (an : Option Addr) (cdv ct : Value) (us : List Value), us.length = ps.length → bindArgs (PySem.W.fnOf d.name d.qual d.params d.body d.scope .none kV doc pm an cdv ct) ⟨us, []⟩ = pure (ps.zip us)) (hf : ∀ x ∈ bnames, G.mg x = none) {l : List Ref} (hl : refsS b = l) (hr : AllR (RefOk G lev) l) : DefOk G (lev + 1) d.at_ np (denDef np n b) := by
  obtain ⟨p1, p2⟩ := ba hp
  obtain ⟨fd, F⟩ := He.SaysD.defs s.says.1 hd
  have e1 : d.dvs G.K = [] := by unfold He.DefD.dvs; rw [List.isEmpty_iff.mp p1]; rfl
  rw [e1] at F
  refine ⟨⟨fd, ps, hnp, ?_, F.bindsN hb⟩, strict_den _ _ _, F.kp⟩
  exact fn_M F (scopeB_ok hs) hn hnp hc (by rw [hl]; exact hr.mem) hf
theorem Sit.def0 (s : Sit t G) {d : He.DefD} (hd : d ∈ t.fn) {ps : List Str} {lev np : Nat} (hp : plainD d = true) (hnp : ps.length = np)
    (hb : ∀ (kV doc pm : Value) (an : Option Addr) (cdv ct : Value) (us : List Value), us.length = ps.length → bindArgs (PySem.W.fnOf d.name d.qual d.params d.body d.scope .none kV doc pm an cdv ct) ⟨us, []⟩ = pure (ps.zip us)) : DefOk G lev d.at_ np fun _ _ => .stuck := by
  obtain ⟨p1, p2⟩ := ba hp
  obtain ⟨fd, F⟩ := He.SaysD.defs s.says.1 hd
  have e1 : d.dvs G.K = [] := by unfold He.DefD.dvs; rw [List.isEmpty_iff.mp p1]; rfl
  rw [e1] at F
  exact ⟨⟨fd, ps, hnp, ⟨fun vs H Q E ⟨_, _, _, _, _, _, q⟩ => q.elim, fun A outer sh H args us vs Q E _ _ _ _ ⟨_, _, _, _, _, _, q⟩ => q.elim⟩, F.bindsN hb⟩, fun _ _ _ => rfl, F.kp⟩
theorem DefOk.mono {at_ : Str × Option Str} {np j k : Nat} {f : Fn} (h : DefOk G j at_ np f) (hl : j ≤ k) : DefOk G k at_ np f := by
  obtain ⟨⟨fd, ps, hp, F, b⟩, st, kp⟩ := h
  exact ⟨⟨fd, ps, hp, F.mono hl, b⟩, st, kp⟩
theorem DefOk.fn {lev np : Nat} {x : Str} {f : Fn} (s : Sit t G) (h : DefOk G lev (x, none) np f) (hg : He.Fa.glo x ∈ t.fa) : RefOk G lev (.fn x f) := by
  obtain ⟨⟨fd, ps, hp, F, b⟩, st, kp⟩ := h
  subst hp
  exact ⟨_, fd, ps, st, s.glo hg, kp, F, b⟩
theorem DefOk.mt {lev np c : Nat} {m : Str} {f : Fn} (s : Sit t G) (h : DefOk G lev (nm c, some m) np f) (hm : (nms.all fun x => !(x == m)) = true) (h1 : He.Fa.cls (nm c) ∈ t.fa) (h2 : He.Fa.meth (nm c) m ∈ t.fa) : RefOk G lev (.mt c m f) := by
  obtain ⟨⟨fd, ps, hp, F, b⟩, st, kp⟩ := h
  subst hp
  refine ⟨fun i hi z => ?_, He.cls_ok (s.fact h1), _, fd, ps, st, He.meth_ok (s.fact h2), F, b⟩
  have q := List.all_eq_true.mp hm (nm i) (by unfold nm; rw [List.getD_eq_getElem?_getD, List.getElem?_eq_getElem hi]; exact List.getElem_mem hi)
  rw [z] at q
  simp at q
theorem DefOk.make {lev np c : Nat} {f : Fn} (s : Sit t G) (h : DefOk G lev (nm c, some "__init__") np f) (h1 : He.Fa.glo (nm c) ∈ t.fa) (h2 : He.Fa.mkr (nm c) ∈ t.fa) : RefOk G (lev + 1) (.mk c f) := by
  obtain ⟨⟨fd, ps, hp, F, b⟩, st, kp⟩ := h
  subst hp
  exact ⟨s.glo h1, _, fd, ps, lev, Nat.le_refl _, st, He.mkr_ok (s.fact h2), F, b⟩
theorem Sit.fld (s : Sit t G) {lev c f : Nat} (h0 : f < nms.length) (h1 : He.Fa.cls (nm c) ∈ t.fa) (h2 : He.Fa.noat (nm c) (nm f) ∈ t.fa) : RefOk G lev (.fld c f) := ⟨h0, He.cls_ok (s.fact h1), He.noat_ok (s.fact h2)⟩
theorem Sit.gi (s : Sit t G) {lev : Nat} {x : Str} {i : Int} (h : He.Fa.int x i ∈ t.fa) : RefOk G lev (.gi x i) := He.int_ok s.inB s.ns (s.fact h)
theorem Sit.gs (s : Sit t G) {lev : Nat} {x : Str} {z : List Nat} (h : He.Fa.str x (strOf z) ∈ t.fa) : RefOk G lev (.gs x z) := He.str_ok s.inB s.ns (s.fact h)
theorem Sit.ex0 (s : Sit t G) {lev c : Nat} (h1 : He.Fa.glo (nm c) ∈ t.fa) (h2 : He.Fa.exc (nm c) ∈ t.fa) : RefOk G lev (.ex0 c) := by
  obtain ⟨a, b, c, d⟩ := He.exc_ok (s.fact h2)
  exact ⟨s.glo h1, a, b, c, d⟩
theorem Sit.exs (s : Sit t G) {lev : Nat} (h1 : ∀ c ∈ exNs, He.Fa.glo (nm c) ∈ t.fa) (h2 : ∀ c ∈ exNs, c ∈ t.xs) (h3 : He.Fa.free "ValueError" ∈ t.fa) : RefOk G lev .exs :=
  ⟨fun c hc => s.glo (h1 c hc), He.free_ok s.inB s.ns (s.fact h3), fun e he => exfB_ok (s.xs (h2 e he))⟩
/-! ### an exception's __init__(self, at): self.at = at -/
def initB (sc : Scope) : List Stmt → Bool
  | [.Assign [.Attribute (.Name x _) n _] (.Name y _) _] => decide (x = ("self" : Str)) && (decide (n = nm 9) && (decide (y = ("at" : Str)) && (seesK (sc.names.lookup x) && seesK (sc.names.lookup y))))
  | _ => false
theorem seen {sc : Scope} {x : Str} (h : seesK (sc.names.lookup x) = true) : Vis sc x := by
  cases e : sc.names.lookup x with
  | none => rw [e] at h; cases h
  | some k =>
    rw [e] at h
    cases k with
    | «local» => exact .inl e
    | cell => exact .inr (.inl e)
    | free => exact .inr (.inr e)
    | _ => cases h
theorem Sit.ex1 (s : Sit t G) {lev c : Nat} {d : He.DefD} (hd : d ∈ t.fn) (hat : d.at_ = (nm c, some ("__init__" : Str))) (hp : plainD d = true) (hs : scopeB ["self", "at"] ["self", "at"] d.scope = true) (hi : initB d.scope d.body = true) (hl : 2 ≤ lev)
    (hb : ∀ (kV doc pm : Value) (an : Option Addr) (cdv ct : Value) (us : List Value), us.length = 2 → bindArgs (PySem.W.fnOf d.name d.qual d.params d.body d.scope .none kV doc pm an cdv ct) ⟨us, []⟩ = pure ((["self", "at"] : List Str).zip us)) (hox : c ∈ t.ox) (hg : He.Fa.glo (nm c) ∈ t.fa) : RefOk G lev (.ex1 c) := by
  obtain ⟨p1, p2⟩ := ba hp
  obtain ⟨fd, F⟩ := He.SaysD.defs s.says.1 hd
  have e1 : d.dvs G.K = [] := by unfold He.DefD.dvs; rw [List.isEmpty_iff.mp p1]; rfl
  rw [e1] at F
  have e2 : He.fAd G.K d.at_ = fnA G.K c := by rw [hat]; rfl
  rw [e2] at F
  obtain ⟨o1, o2, o3, o4⟩ := oexB_ok (s.ox hox)
  refine ⟨s.glo hg, o1, _, fd, ["self", "at"], 1, hl, o2, o3, ?_, F.bindsN hb⟩
  have hsc := scopeB_ok hs
  refine F.ok hsc (fun vs H Q E h => ?_) fun cdv A outer sh H vs Q E room h => ?_
  · obtain ⟨a, v, rfl, _⟩ := h
    rfl
  · obtain ⟨a, v, rfl, ha, q⟩ := h
    generalize d.body = bd at hi ⊢
    unfold initB at hi
    split at hi
    · rename_i x p n p1 y p2 pos
      obtain ⟨k1, hi⟩ := ba hi
      obtain ⟨k2, hi⟩ := ba hi
      obtain ⟨k3, hi⟩ := ba hi
      obtain ⟨k4, k5⟩ := ba hi
      cases of_decide_eq_true k1
      cases of_decide_eq_true k2
      cases of_decide_eq_true k3
      refine ⟨_, pss_one (ps_ost (pe_var (i := 0) rfl (seen k4)) (pe_var (i := 1) rfl (seen k5)) rfl), ?_⟩
      exact ⟨v, rfl, .ref a, rfl, a, _, rfl, o1, o4, .inl ⟨ha, q⟩⟩
    · cases hi
end
/-! ### the end -/
theorem last_ {P : Program} {w : World} {K : PySem.W.Frag} {mg : Str → Option Value} {t : Txt} (c : SaysM t K) {d : He.DefD} (hd : d ∈ t.fn) {N : List Str} {x : Str} {b : S} {lev n : Nat} (hp : plainD d = true) (hs : scopeB N [x] d.scope = true) (hc : chkB ⟨d.scope.names, N⟩ b d.body = true) (hn : N.length = n)
    (hb : ∀ (kV doc pm : Value) (an : Option Addr) (cdv ct : Value) (us : List Value), us.length = [x].length → bindArgs (PySem.W.fnOf d.name d.qual d.params d.body d.scope .none kV doc pm an cdv ct) ⟨us, []⟩ = pure ([x].zip us)) {l : List Ref} (hl : refsS b = l)
    (hf : ∀ base, Sit t ⟨P, w, K, mg, base⟩ → ∀ x ∈ bnames, mg x = none) (hr : ∀ base, Sit t ⟨P, w, K, mg, base⟩ → AllR (RefOk ⟨P, w, K, mg, base⟩ lev) l) :
    ∃ fd, (∀ base, K.In base → base.Ns mainGlobals mg → FnOk P w K mg base (L2.CX P w) (lev + 1) (He.fAd K d.at_) fd [x] (spM K 1 (denDef 1 n b))) ∧ ∀ (s : Shared) (u : Value), BindsTo s fd ⟨[u], []⟩ [(x, u)] := by
  obtain ⟨p1, p2⟩ := ba hp
  obtain ⟨fd, F⟩ := He.SaysD.defs c.1 hd
  have e1 : d.dvs K = [] := by unfold He.DefD.dvs; rw [List.isEmpty_iff.mp p1]; rfl
  rw [e1] at F
  have B := FunD.bindsA (ps := [x]) F hb
  exact ⟨fd, fun base i g => fn_M F (scopeB_ok hs) hn rfl hc (by rw [hl]; exact (hr base ⟨i, g, c⟩).mem) (hf base ⟨i, g, c⟩), fun s u => B s [u] rfl⟩
theorem walk_M {l : PySem.W.OpenLaw} {n k : Nat} {q : Program} {loose : List Str} {XP : (Str → Option Value) → Heap → Prop} {d : DefRec} {x : Str} {t : Txt} {f : Fn} {j : Nat}
    (hn : l.most = some n) (hn2 : n ≤ sizeLine) (hdf : d.params.defaults = []) (hr : Room k callerA)
    (hps : ∀ (w : World) (K : PySem.W.Frag) (mg : Str → Option Value), SaysM t K → ∃ fd, (∀ base, K.In base → base.Ns mainGlobals mg → FnOk l.prog w K mg base (L2.CX l.prog w) k (He.fAd K (d.name, none)) fd [x] (spM K 1 f)) ∧ ∀ (s : Shared) (u : Value), BindsTo s fd ⟨[u], []⟩ [(x, u)])
    (hg : He.Fa.glo d.name ∈ t.fa)
    (hlaw : ∀ ns : List Int, ns.length ≤ n → (∀ z ∈ ns, Builtin.Int.intBits z ≤ 1048576) → ∃ st, f [.frz (ns.map .int)] [] = .ok (.bl true) st) :
    PySem.W.WalkO q loose XP (hookM j t).says l.row.toRowW d [] (fun f vs => PySem.call f vs) := by
  refine Att.attach_callB hn hdf fun w s₀ s₁ mg mb fa o pm cd doc a vs ns G Y ho hd hcd hmg hobj hints hlen hbits hgn => ?_
  obtain ⟨K, KX, c⟩ := Y
  obtain ⟨fd, hF, hb⟩ := hps w K mg c
  have e := hmg.symm.trans (He.glo_ok KX G.T.g (He.SaysD.facts c.1 hg))
  cases e
  refine law_call KX G.T.g G.T.b G.T.builtins G.T.nolimit hgn hobj hints (Nat.le_trans hlen hn2) hr hF hb (fun H hO hS => ?_) fun H e s' z => ?_
  · obtain ⟨st, hst⟩ := hlaw ns hlen hbits
    refine ⟨rfl, [.frz (ns.map .int)], [], [], ⟨rfl, .nil, fun n o a h => by cases h⟩, ?_, ?_⟩
    · refine .cons ?_ .nil
      unfold DR
      refine ⟨a, ns.map .int, rfl, ?_, ?_⟩
      · rcases hS with (h | ⟨o, h⟩) | h
        · rcases hO a with z | ⟨o, xs, z⟩
          · rw [h] at z; cases z
          · rw [h] at z; cases z
        · exact .inr ⟨o, h⟩
        · exact .inl (.inr h)
      · clear hS hobj hints hlen hst hbits
        induction ns with
        | nil => exact .nil
        | cons i r ih => exact .cons (mk_int i) ih
    · rw [hst]
      intro v H' mp' _ _ hv
      exact dr_bl hv
  · obtain ⟨_, _, _, _, _, _, _, _, _, _, _, _, z⟩ := z
    exact z.elim
end M1
namespace M1
open PySem PySem.Spec L2 PyProof.Rows
/-! ### the text -/
def top (i : Nat) : Stmt := PySem.Challenge.pw_cutyard_k66_a_yard_changed.main.body.getD i (.Pass ⟨0, 0, 0, 0⟩)
def inCls (s : Stmt) (j : Nat) : Stmt := match s with
  | .ClassDef (body := b) .. => b.getD j (.Pass ⟨0, 0, 0, 0⟩)
  | _ => .Pass ⟨0, 0, 0, 0⟩
abbrev st_w_pool : Stmt := top 24
noncomputable def b_w_pool : S := (.cons (.set (.one 2) (.int 0))
  (.cons (.if_ (.and_ (.cons (.cmp .lt (.var 1) (.bi .len (.cons (.var 0) .nil))) (.cons (.cmp .ge (.sub (.var 0) (.var 1)) (.bin .pow (.int 10) (.int 18))) .nil))) (.cons (.set (.one 2) (.sub (.var 0) (.var 1)))
  .nil) .nil)
  (.cons (.ret (.lst (.cons (.var 0) (.cons (.var 2) (.cons (.bin .add (.int 7) (.var 1)) (.cons (.int 0) .nil))))))
  .nil)))
noncomputable def f_w_pool : Fn := denDef 2 3 b_w_pool
def D_w_pool : He.DefD := ⟨("_law_pool", none), "_law_pool", "_law_pool", defArgs st_w_pool, defBody st_w_pool, defScope st_w_pool, [], []⟩
def N_w_pool : List Str := ["_law_script", "_law_at", "_law_rest"]
abbrev st_w_next : Stmt := top 25
noncomputable def b_w_next : S := (.cons (.if_ (.cmp .gt (.sub (.var 0) (.int 1)) (.int 0)) (.cons (.set (.one 2) (.bin .mod (.sub (.var 0) (.int 1)) (.var 1)))
  (.cons (.setSub (.var 0) (.int 1) (.bin .fdiv (.sub (.var 0) (.int 1)) (.var 1)))
  (.cons (.ret (.var 2))
  .nil))) .nil)
  (.cons (.augSub (.var 0) (.int 3) .add (.int 1))
  (.cons (.set (.one 3) (.sub (.var 0) (.int 3)))
  (.cons (.if_ (.cmp .gt (.bi .len (.cons (.sub (.var 0) (.int 0)) .nil)) (.int 0)) (.cons (.set (.one 3) (.sub (.sub (.var 0) (.int 0)) (.bin .mod (.sub (.var 0) (.int 3)) (.bi .len (.cons (.sub (.var 0) (.int 0)) .nil)))))
  .nil) .nil)
  (.cons (.set (.one 4) (.bin .add (.bin .add (.bin .add (.bin .add (.sub (.var 0) (.int 2)) (.var 3)) (.bin .mul (.bin .mul (.int 7) (.sub (.var 0) (.int 3))) (.sub (.var 0) (.int 3)))) (.bin .mul (.int 13) (.sub (.var 0) (.int 3)))) (.int 5)))
  (.cons (.setSub (.var 0) (.int 2) (.bin .mod (.bin .mul (.var 4) (.int 48271)) (.int 2147483647)))
  (.cons (.ret (.bin .mod (.bin .mod (.bin .mul (.sub (.var 0) (.int 2)) (.int 69621)) (.int 1000000007)) (.var 1)))
  .nil)))))))
noncomputable def f_w_next : Fn := denDef 2 5 b_w_next
def D_w_next : He.DefD := ⟨("_law_next", none), "_law_next", "_law_next", defArgs st_w_next, defBody st_w_next, defScope st_w_next, [], []⟩
def N_w_next : List Str := ["_law_pool_here", "_law_size", "_law_drawn", "_law_cell", "_law_stir"]
abbrev st_w_wide : Stmt := top 26
noncomputable def b_w_wide : S := (.cons (.if_ (.cmp .gt (.sub (.var 0) (.int 1)) (.int 0)) (.cons (.ret (.call "_law_next" f_w_next (.cons (.var 0) (.cons (.var 1) .nil))))
  .nil) .nil)
  (.cons (.ret (.bin .mod (.bin .pow (.bin .add (.call "_law_next" f_w_next (.cons (.var 0) (.cons (.int 1000000007) .nil))) (.int 3)) (.int 23)) (.var 1)))
  .nil))
noncomputable def f_w_wide : Fn := denDef 2 2 b_w_wide
def D_w_wide : He.DefD := ⟨("_law_wide", none), "_law_wide", "_law_wide", defArgs st_w_wide, defBody st_w_wide, defScope st_w_wide, [], []⟩
def N_w_wide : List Str := ["_law_pool_here", "_law_size"]
abbrev st_w_sized : Stmt := top 28
noncomputable def b_w_sized : S := (.cons (.if_ (.cmp .eq (.var 1) (.int 0)) (.cons (.ret (.bin .sub (.call "_law_next" f_w_next (.cons (.var 0) (.cons (.int 3) .nil))) (.int 1)))
  .nil) .nil)
  (.cons (.if_ (.cmp .eq (.var 1) (.int 1)) (.cons (.ret (.bin .sub (.call "_law_next" f_w_next (.cons (.var 0) (.cons (.int 19) .nil))) (.int 9)))
  .nil) .nil)
  (.cons (.if_ (.cmp .eq (.var 1) (.int 2)) (.cons (.ret (.call "_law_next" f_w_next (.cons (.var 0) (.cons (.int 6) .nil))))
  .nil) .nil)
  (.cons (.set (.one 2) (.bin .sub (.bin .pow (.bin .pow (.int 10) (.int 50)) (.int 4)) (.int 1)))
  (.cons (.ret (.bin .sub (.call "_law_wide" f_w_wide (.cons (.var 0) (.cons (.bin .add (.bin .mul (.int 2) (.var 2)) (.int 1)) .nil))) (.var 2)))
  .nil)))))
noncomputable def f_w_sized : Fn := denDef 2 3 b_w_sized
def D_w_sized : He.DefD := ⟨("_law_sized", none), "_law_sized", "_law_sized", defArgs st_w_sized, defBody st_w_sized, defScope st_w_sized, [], []⟩
def N_w_sized : List Str := ["_law_pool_here", "_law_way", "_law_top"]
abbrev st_w_row : Stmt := top 29
noncomputable def ce_w_row_1 : E := (.call "_law_sized" f_w_sized (.cons (.var 0) (.cons (.var 2) .nil)))
noncomputable def b_w_row : S := (.cons (.set (.one 3) (.bic .tuple (.comp (ce_w_row_1) (.one 4) (.iRange (.cons (.var 1) .nil)) .nil)))
  (.cons (.ret (.tup (.cons (.var 3) (.cons (.call "_law_sized" f_w_sized (.cons (.var 0) (.cons (.var 2) .nil))) .nil))))
  .nil))
noncomputable def f_w_row : Fn := denDef 3 5 b_w_row
def D_w_row : He.DefD := ⟨("_law_row", none), "_law_row", "_law_row", defArgs st_w_row, defBody st_w_row, defScope st_w_row, [], []⟩
def N_w_row : List Str := ["_law_pool_here", "_law_count", "_law_way", "_law_entries", "_law_k"]
abbrev st_w_plan : Stmt := top 30
noncomputable def lb_w_plan_1 : S := (.cons (.set (.one 5) (.call "_law_sized" f_w_sized (.cons (.var 0) (.cons (.var 2) .nil))))
  (.cons (.if_ (.cmp .eq (.call "_law_next" f_w_next (.cons (.var 0) (.cons (.int 2) .nil))) (.int 0)) (.cons (.expr (.bm .append (.var 3) (.cons (.tup (.cons (.var 5) (.cons .non .nil))) .nil)))
  .nil) (.cons (.expr (.bm .append (.var 3) (.cons (.tup (.cons (.var 5) (.cons (.call "_law_sized" f_w_sized (.cons (.var 0) (.cons (.var 2) .nil))) .nil))) .nil)))
  .nil))
  .nil))
noncomputable def ce_w_plan_1 : E := (.call "_law_row" f_w_row (.cons (.var 0) (.cons (.var 1) (.cons (.var 2) .nil))))
noncomputable def b_w_plan : S := (.cons (.set (.one 1) (.call "_law_next" f_w_next (.cons (.var 0) (.cons (.int 9) .nil))))
  (.cons (.set (.one 2) (.call "_law_next" f_w_next (.cons (.var 0) (.cons (.int 4) .nil))))
  (.cons (.set (.one 3) (.lst .nil))
  (.cons (.for_ (.one 4) (.iRange (.cons (.var 1) .nil)) (lb_w_plan_1))
  (.cons (.set (.one 6) (.sub (.tup (.cons (.call "_law_next" f_w_next (.cons (.var 0) (.cons (.int 13) .nil))) (.cons (.int 12) .nil))) (.call "_law_next" f_w_next (.cons (.var 0) (.cons (.int 2) .nil)))))
  (.cons (.set (.one 7) (.bic .tuple (.comp (ce_w_plan_1) (.one 4) (.iRange (.cons (.var 6) .nil)) .nil)))
  (.cons (.ret (.tup (.cons (.bi .tuple (.cons (.var 3) .nil)) (.cons (.var 7) (.cons (.sub (.call "_law_row" f_w_row (.cons (.var 0) (.cons (.var 1) (.cons (.var 2) .nil)))) (.int 0)) .nil)))))
  .nil)))))))
noncomputable def f_w_plan : Fn := denDef 1 8 b_w_plan
def D_w_plan : He.DefD := ⟨("_law_plan", none), "_law_plan", "_law_plan", defArgs st_w_plan, defBody st_w_plan, defScope st_w_plan, [], []⟩
def N_w_plan : List Str := ["_law_pool_here", "_law_count", "_law_way", "_law_bounds", "_law_k", "_law_least", "_law_many", "_law_rows"]
abbrev st_Yard_init : Stmt := inCls (top 22) 0
noncomputable def b_Yard_init : S := (.cons (.setFld (.var 0) 14 51 (.var 1))
  (.cons (.setFld (.var 0) 14 49 .non)
  (.cons (.setFld (.var 0) 14 50 (.lst .nil))
  .nil)))
noncomputable def f_Yard_init : Fn := denDef 2 2 b_Yard_init
def D_Yard_init : He.DefD := ⟨("Yard", some "__init__"), "__init__", "Yard.__init__", defArgs st_Yard_init, defBody st_Yard_init, defScope st_Yard_init, [], []⟩
def N_Yard_init : List Str := ["self", "plan"]
abbrev st_w_deed_of : Stmt := top 31
noncomputable def b_w_deed_of : S := (.cons (.set (.one 2) (.call "_law_next" f_w_next (.cons (.var 0) (.cons (.int 5) .nil))))
  (.cons (.set (.one 3) (.call "_law_next" f_w_next (.cons (.var 0) (.cons (.int 4) .nil))))
  (.cons (.set (.one 4) (.bi .len (.cons (.sub (.var 1) (.int 0)) .nil)))
  (.cons (.if_ (.or_ (.cons (.cmp .eq (.var 2) (.int 0)) (.cons (.cmp .eq (.var 2) (.int 1)) .nil))) (.cons (.set (.one 5) (.call "_law_row" f_w_row (.cons (.var 0) (.cons (.var 4) (.cons (.var 3) .nil)))))
  (.cons (.if_ (.and_ (.cons (.cmp .eq (.var 2) (.int 1)) (.cons (.cmp .gt (.bi .len (.cons (.sub (.var 1) (.int 1)) .nil)) (.int 0)) .nil))) (.cons (.set (.one 5) (.sub (.sub (.var 1) (.int 1)) (.call "_law_next" f_w_next (.cons (.var 0) (.cons (.bi .len (.cons (.sub (.var 1) (.int 1)) .nil)) .nil)))))
  .nil) .nil)
  (.cons (.ret (.tup (.cons (.int 0) (.cons (.var 5) .nil))))
  .nil))) .nil)
  (.cons (.if_ (.cmp .eq (.var 2) (.int 2)) (.cons (.ret (.tup (.cons (.int 1) (.cons (.bin .sub (.call "_law_next" f_w_next (.cons (.var 0) (.cons (.bin .add (.bi .len (.cons (.sub (.var 1) (.int 1)) .nil)) (.int 4)) .nil))) (.int 2)) .nil))))
  .nil) .nil)
  (.cons (.if_ (.cmp .eq (.var 2) (.int 3)) (.cons (.set (.one 6) (.sub (.call "_law_row" f_w_row (.cons (.var 0) (.cons (.var 4) (.cons (.var 3) .nil)))) (.int 0)))
  (.cons (.if_ (.cmp .eq (.call "_law_next" f_w_next (.cons (.var 0) (.cons (.int 4) .nil))) (.int 0)) (.cons (.set (.one 6) (.sub (.var 1) (.int 2)))
  .nil) .nil)
  (.cons (.ret (.tup (.cons (.int 2) (.cons (.var 6) .nil))))
  .nil))) .nil)
  (.cons (.ret (.tup (.cons (.int 3) (.cons .non .nil))))
  .nil)))))))
noncomputable def f_w_deed_of : Fn := denDef 2 7 b_w_deed_of
def D_w_deed_of : He.DefD := ⟨("_law_deed_of", none), "_law_deed_of", "_law_deed_of", defArgs st_w_deed_of, defBody st_w_deed_of, defScope st_w_deed_of, [], []⟩
def N_w_deed_of : List Str := ["_law_pool_here", "_law_plan_here", "_law_way", "_law_size", "_law_count", "_law_row_here", "_law_goal"]
abbrev st_w_after : Stmt := top 32
noncomputable def b_w_after : S := (.cons (.set (.one 3) (.sub (.var 0) (.int 1)))
  (.cons (.if_ (.and_ (.cons (.cmp .eq (.sub (.var 2) (.int 0)) (.int 0)) (.cons (.cmp .ge (.bi .len (.cons (.var 3) .nil)) (.int 12)) .nil))) (.cons (.ret (.tup (.cons (.int 1) (.cons (.var 0) .nil))))
  .nil) .nil)
  (.cons (.if_ (.and_ (.cons (.cmp .eq (.sub (.var 2) (.int 0)) (.int 1)) (.cons (.or_ (.cons (.cmp .lt (.sub (.var 2) (.int 1)) (.int 0)) (.cons (.cmp .ge (.sub (.var 2) (.int 1)) (.bi .len (.cons (.var 3) .nil))) .nil))) .nil))) (.cons (.ret (.tup (.cons (.int 2) (.cons (.var 0) .nil))))
  .nil) .nil)
  (.cons (.if_ (.and_ (.cons (.cmp .eq (.sub (.var 2) (.int 0)) (.int 3)) (.cons (.cmp .eq (.bi .len (.cons (.var 1) .nil)) (.int 0)) .nil))) (.cons (.ret (.tup (.cons (.int 3) (.cons (.var 0) .nil))))
  .nil) .nil)
  (.cons (.if_ (.cmp .eq (.sub (.var 2) (.int 0)) (.int 0)) (.cons (.ret (.tup (.cons (.int 0) (.cons (.tup (.cons (.sub (.var 0) (.int 0)) (.cons (.bin .add (.var 3) (.tup (.cons (.sub (.var 2) (.int 1)) .nil))) (.cons (.sub (.var 0) (.int 2)) .nil)))) .nil))))
  .nil) .nil)
  (.cons (.if_ (.cmp .eq (.sub (.var 2) (.int 0)) (.int 1)) (.cons (.ret (.tup (.cons (.int 0) (.cons (.tup (.cons (.sub (.var 0) (.int 0)) (.cons (.bin .add (.cut (.var 3) .nil (.sub (.var 2) (.int 1))) (.cut (.var 3) (.bin .add (.sub (.var 2) (.int 1)) (.int 1)) .nil)) (.cons (.sub (.var 0) (.int 2)) .nil)))) .nil))))
  .nil) .nil)
  (.cons (.if_ (.cmp .eq (.sub (.var 2) (.int 0)) (.int 2)) (.cons (.ret (.tup (.cons (.int 0) (.cons (.tup (.cons (.sub (.var 0) (.int 0)) (.cons (.var 3) (.cons (.sub (.var 2) (.int 1)) .nil)))) .nil))))
  .nil) .nil)
  (.cons (.ret (.tup (.cons (.int 0) (.cons (.sub (.var 1) (.bin .sub (.bi .len (.cons (.var 1) .nil)) (.int 1))) .nil))))
  .nil))))))))
noncomputable def f_w_after : Fn := denDef 3 4 b_w_after
def D_w_after : He.DefD := ⟨("_law_after", none), "_law_after", "_law_after", defArgs st_w_after, defBody st_w_after, defScope st_w_after, [], []⟩
def N_w_after : List Str := ["_law_plan_here", "_law_past", "_law_deed", "_law_rows"]
abbrev st_Yard_change_to : Stmt := inCls (top 22) 2
noncomputable def b_Yard_change_to : S := (.cons (.expr (.bm .append (.fld (.var 0) 14 50) (.cons (.tup (.cons (.fld (.var 0) 14 51) (.cons (.fld (.var 0) 14 49) .nil))) .nil)))
  (.cons (.setFld (.var 0) 14 51 (.tup (.cons (.sub (.fld (.var 0) 14 51) (.int 0)) (.cons (.var 1) (.cons (.var 2) .nil)))))
  (.cons (.setFld (.var 0) 14 49 (.var 3))
  .nil)))
noncomputable def f_Yard_change_to : Fn := denDef 4 4 b_Yard_change_to
def D_Yard_change_to : He.DefD := ⟨("Yard", some "change_to"), "change_to", "Yard.change_to", defArgs st_Yard_change_to, defBody st_Yard_change_to, defScope st_Yard_change_to, [], []⟩
def N_Yard_change_to : List Str := ["self", "rows", "goal", "known"]
abbrev st_left : Stmt := top 12
noncomputable def lb_left_1 : S := (.cons (.aug 2 .add (.bin .mul (.var 3) (.var 4)))
  .nil)
noncomputable def b_left : S := (.cons (.set (.one 2) (.int 0))
  (.cons (.for_ (.tup (.cons (.one 3) (.cons (.one 4) .nil))) (.iZip (.cons (.var 0) (.cons (.var 1) .nil))) (lb_left_1))
  (.cons (.ret (.var 2))
  .nil)))
noncomputable def f_left : Fn := denDef 2 5 b_left
def D_left : He.DefD := ⟨("left", none), "left", "left", defArgs st_left, defBody st_left, defScope st_left, [], []⟩
def N_left : List Str := ["entries", "spot", "total", "entry", "number"]
abbrev st_meets : Stmt := top 13
noncomputable def b_meets : S := (.cons (.ret (.cmp .ge (.call "left" f_left (.cons (.sub (.var 0) (.int 0)) (.cons (.var 1) .nil))) (.sub (.var 0) (.int 1))))
  .nil)
noncomputable def f_meets : Fn := denDef 2 2 b_meets
def D_meets : He.DefD := ⟨("meets", none), "meets", "meets", defArgs st_meets, defBody st_meets, defScope st_meets, [], []⟩
def N_meets : List Str := ["row", "spot"]
abbrev st_unit : Stmt := top 15
noncomputable def ce_unit_1 : E := (.int 0)
noncomputable def b_unit : S := (.cons (.set (.one 3) (.comp (ce_unit_1) (.one 4) (.iRange (.cons (.var 0) .nil)) .nil))
  (.cons (.setSub (.var 3) (.var 1) (.var 2))
  (.cons (.ret (.bi .tuple (.cons (.var 3) .nil)))
  .nil)))
noncomputable def f_unit : Fn := denDef 3 5 b_unit
def D_unit : He.DefD := ⟨("unit", none), "unit", "unit", defArgs st_unit, defBody st_unit, defScope st_unit, [], []⟩
def N_unit : List Str := ["count", "at", "number", "entries", "k"]
abbrev st_givens : Stmt := top 16
noncomputable def lb_givens_1 : S := (.cons (.expr (.bm .append (.var 3) (.cons (.tup (.cons (.call "unit" f_unit (.cons (.var 2) (.cons (.var 4) (.cons (.int 1) .nil)))) (.cons (.var 5) .nil))) .nil)))
  .nil)
noncomputable def lb_givens_2 : S := (.cons (.if_ (.cmp .notN (.var 6) .non) (.cons (.expr (.bm .append (.var 3) (.cons (.tup (.cons (.call "unit" f_unit (.cons (.var 2) (.cons (.var 4) (.cons (.neg (.int 1)) .nil)))) (.cons (.neg (.var 6)) .nil))) .nil)))
  .nil) .nil)
  .nil)
noncomputable def b_givens : S := (.cons (.set (.one 1) (.sub (.var 0) (.int 0)))
  (.cons (.set (.one 2) (.bi .len (.cons (.var 1) .nil)))
  (.cons (.set (.one 3) (.lst .nil))
  (.cons (.for_ (.tup (.cons (.one 4) (.cons (.tup (.cons (.one 5) (.cons (.one 6) .nil))) .nil))) (.iEnum (.cons (.var 1) .nil)) (lb_givens_1))
  (.cons (.for_ (.tup (.cons (.one 4) (.cons (.tup (.cons (.one 5) (.cons (.one 6) .nil))) .nil))) (.iEnum (.cons (.var 1) .nil)) (lb_givens_2))
  (.cons (.ret (.bi .tuple (.cons (.bin .add (.var 3) (.bi .list (.cons (.sub (.var 0) (.int 1)) .nil))) .nil)))
  .nil))))))
noncomputable def f_givens : Fn := denDef 1 7 b_givens
def D_givens : He.DefD := ⟨("givens", none), "givens", "givens", defArgs st_givens, defBody st_givens, defScope st_givens, [], []⟩
def N_givens : List Str := ["plan", "bounds", "count", "told", "at", "least", "most"]
abbrev st_moved_number : Stmt := top 19
noncomputable def b_moved_number : S := (.cons (.ret (.bin .add (.var 0) (.bi .int (.cons (.cmp .ge (.var 0) (.var 1)) .nil))))
  .nil)
noncomputable def f_moved_number : Fn := denDef 2 2 b_moved_number
def D_moved_number : He.DefD := ⟨("moved_number", none), "moved_number", "moved_number", defArgs st_moved_number, defBody st_moved_number, defScope st_moved_number, [], []⟩
def N_moved_number : List Str := ["number", "count"]
abbrev st_moved_line : Stmt := top 20
noncomputable def ce_moved_line_1 : E := (.tup (.cons (.call "moved_number" f_moved_number (.cons (.var 3) (.cons (.var 1) .nil))) (.cons (.var 4) .nil)))
noncomputable def b_moved_line : S := (.cons (.if_ (.cmp .eq (.sub (.var 0) (.int 0)) (.str [99, 117, 116])) (.cons (.set (.one 2) (.comp (ce_moved_line_1) (.tup (.cons (.one 3) (.cons (.one 4) .nil))) (.iVal (.sub (.var 0) (.int 1))) .nil))
  (.cons (.ret (.tup (.cons (.str [99, 117, 116]) (.cons (.bi .tuple (.cons (.var 2) .nil)) (.cons (.sub (.var 0) (.int 2)) .nil)))))
  .nil)) .nil)
  (.cons (.if_ (.cmp .eq (.sub (.var 0) (.int 0)) (.str [115, 104, 117, 116])) (.cons (.ret (.tup (.cons (.str [115, 104, 117, 116]) (.cons (.call "moved_number" f_moved_number (.cons (.sub (.var 0) (.int 1)) (.cons (.var 1) .nil))) .nil))))
  .nil) .nil)
  (.cons (.ret (.var 0))
  .nil)))
noncomputable def f_moved_line : Fn := denDef 2 5 b_moved_line
def D_moved_line : He.DefD := ⟨("moved_line", none), "moved_line", "moved_line", defArgs st_moved_line, defBody st_moved_line, defScope st_moved_line, [], []⟩
def N_moved_line : List Str := ["line", "count", "shares", "number", "weight"]
abbrev st_kept_with : Stmt := top 21
noncomputable def ce_kept_with_1 : E := (.call "moved_line" f_moved_line (.cons (.var 4) (.cons (.var 3) .nil)))
noncomputable def b_kept_with : S := (.cons (.if_ (.or_ (.cons (.cmp .isN (.var 1) .non) (.cons (.cmp .eq (.sub (.var 1) (.int 0)) (.str [110, 111, 110, 101])) (.cons (.not_ (.call "meets" f_meets (.cons (.var 2) (.cons (.sub (.var 1) (.int 1)) .nil)))) .nil)))) (.cons (.ret .non)
  .nil) .nil)
  (.cons (.if_ (.cmp .eq (.sub (.var 1) (.int 0)) (.str [98, 101, 115, 116])) (.cons (.set (.one 3) (.bi .len (.cons (.call "givens" f_givens (.cons (.var 0) .nil)) .nil)))
  (.cons (.ret (.tup (.cons (.str [98, 101, 115, 116]) (.cons (.sub (.var 1) (.int 1)) (.cons (.bic .tuple (.comp (ce_kept_with_1) (.one 4) (.iVal (.sub (.var 1) (.int 2))) .nil)) .nil)))))
  .nil)) .nil)
  (.cons (.if_ (.cmp .ge (.call "left" f_left (.cons (.sub (.var 2) (.int 0)) (.cons (.sub (.var 1) (.int 2)) .nil))) (.int 0)) (.cons (.ret (.var 1))
  .nil) .nil)
  (.cons (.ret .non)
  .nil))))
noncomputable def f_kept_with : Fn := denDef 3 5 b_kept_with
def D_kept_with : He.DefD := ⟨("kept_with", none), "kept_with", "kept_with", defArgs st_kept_with, defBody st_kept_with, defScope st_kept_with, [], []⟩
def N_kept_with : List Str := ["plan", "known", "row", "count", "line"]
abbrev st_Yard_put_row : Stmt := inCls (top 22) 3
noncomputable def b_Yard_put_row : S := (.cons (.set (.one 2) (.sub (.fld (.var 0) 14 51) (.int 1)))
  (.cons (.if_ (.cmp .ge (.bi .len (.cons (.var 2) .nil)) (.gint "MOST_ROWS" 12)) (.cons (.raise 8 (.cons .non .nil))
  .nil) .nil)
  (.cons (.expr (.meth (.var 0) 14 "change_to" f_Yard_change_to (.cons (.bin .add (.var 2) (.tup (.cons (.var 1) .nil))) (.cons (.sub (.fld (.var 0) 14 51) (.int 2)) (.cons (.call "kept_with" f_kept_with (.cons (.fld (.var 0) 14 51) (.cons (.fld (.var 0) 14 49) (.cons (.var 1) .nil)))) .nil)))))
  .nil)))
noncomputable def f_Yard_put_row : Fn := denDef 2 3 b_Yard_put_row
def D_Yard_put_row : He.DefD := ⟨("Yard", some "put_row"), "put_row", "Yard.put_row", defArgs st_Yard_put_row, defBody st_Yard_put_row, defScope st_Yard_put_row, [], []⟩
def N_Yard_put_row : List Str := ["self", "row", "rows"]
abbrev st_Yard_take_row : Stmt := inCls (top 22) 4
noncomputable def b_Yard_take_row : S := (.cons (.set (.one 2) (.sub (.fld (.var 0) 14 51) (.int 1)))
  (.cons (.if_ (.or_ (.cons (.cmp .lt (.var 1) (.int 0)) (.cons (.cmp .ge (.var 1) (.bi .len (.cons (.var 2) .nil))) .nil))) (.cons (.raise 2 .nil)
  .nil) .nil)
  (.cons (.set (.one 3) .non)
  (.cons (.if_ (.and_ (.cons (.cmp .notN (.fld (.var 0) 14 49) .non) (.cons (.cmp .eq (.sub (.fld (.var 0) 14 49) (.int 0)) (.str [101, 110, 100, 108, 101, 115, 115])) .nil))) (.cons (.set (.one 3) (.fld (.var 0) 14 49))
  .nil) .nil)
  (.cons (.expr (.meth (.var 0) 14 "change_to" f_Yard_change_to (.cons (.bin .add (.cut (.var 2) .nil (.var 1)) (.cut (.var 2) (.bin .add (.var 1) (.int 1)) .nil)) (.cons (.sub (.fld (.var 0) 14 51) (.int 2)) (.cons (.var 3) .nil)))))
  .nil)))))
noncomputable def f_Yard_take_row : Fn := denDef 2 4 b_Yard_take_row
def D_Yard_take_row : He.DefD := ⟨("Yard", some "take_row"), "take_row", "Yard.take_row", defArgs st_Yard_take_row, defBody st_Yard_take_row, defScope st_Yard_take_row, [], []⟩
def N_Yard_take_row : List Str := ["self", "number", "rows", "known"]
abbrev st_Yard_turn : Stmt := inCls (top 22) 5
noncomputable def b_Yard_turn : S := (.cons (.expr (.meth (.var 0) 14 "change_to" f_Yard_change_to (.cons (.sub (.fld (.var 0) 14 51) (.int 1)) (.cons (.var 1) (.cons .non .nil)))))
  .nil)
noncomputable def f_Yard_turn : Fn := denDef 2 2 b_Yard_turn
def D_Yard_turn : He.DefD := ⟨("Yard", some "turn"), "turn", "Yard.turn", defArgs st_Yard_turn, defBody st_Yard_turn, defScope st_Yard_turn, [], []⟩
def N_Yard_turn : List Str := ["self", "goal"]
abbrev st_Yard_back : Stmt := inCls (top 22) 6
noncomputable def b_Yard_back : S := (.cons (.if_ (.cmp .eq (.bi .len (.cons (.fld (.var 0) 14 50) .nil)) (.int 0)) (.cons (.raise 3 .nil)
  .nil) .nil)
  (.cons (.set (.tup (.cons (.one 1) (.cons (.one 2) .nil))) (.bm .pop (.fld (.var 0) 14 50) .nil))
  (.cons (.setFld (.var 0) 14 51 (.var 1))
  (.cons (.setFld (.var 0) 14 49 (.var 2))
  .nil))))
noncomputable def f_Yard_back : Fn := denDef 1 3 b_Yard_back
def D_Yard_back : He.DefD := ⟨("Yard", some "back"), "back", "Yard.back", defArgs st_Yard_back, defBody st_Yard_back, defScope st_Yard_back, [], []⟩
def N_Yard_back : List Str := ["self", "plan", "known"]
abbrev st_w_ask : Stmt := top 33
noncomputable def b_w_ask : S := (.cons (.if_ (.cmp .eq (.sub (.var 1) (.int 0)) (.int 0)) (.cons (.ret (.meth (.var 0) 14 "put_row" f_Yard_put_row (.cons (.sub (.var 1) (.int 1)) .nil)))
  .nil) .nil)
  (.cons (.if_ (.cmp .eq (.sub (.var 1) (.int 0)) (.int 1)) (.cons (.ret (.meth (.var 0) 14 "take_row" f_Yard_take_row (.cons (.sub (.var 1) (.int 1)) .nil)))
  .nil) .nil)
  (.cons (.if_ (.cmp .eq (.sub (.var 1) (.int 0)) (.int 2)) (.cons (.ret (.meth (.var 0) 14 "turn" f_Yard_turn (.cons (.sub (.var 1) (.int 1)) .nil)))
  .nil) .nil)
  (.cons (.ret (.meth (.var 0) 14 "back" f_Yard_back .nil))
  .nil))))
noncomputable def f_w_ask : Fn := denDef 2 2 b_w_ask
def D_w_ask : He.DefD := ⟨("_law_ask", none), "_law_ask", "_law_ask", defArgs st_w_ask, defBody st_w_ask, defScope st_w_ask, [], []⟩
def N_w_ask : List Str := ["_law_yard", "_law_deed"]
abbrev st_w_done : Stmt := top 34
noncomputable def b_w_done : S := (.cons (.set (.one 2) (.int 0))
  (.cons (.set (.one 3) (.int 0))
  (.cons (.set (.one 4) .non)
  (.cons (.try_ (.cons (.set (.one 3) (.call "_law_ask" f_w_ask (.cons (.var 0) (.cons (.var 1) .nil))))
  .nil) [⟨8, (some 5), [.int 2 1, .at_ 4]⟩, ⟨2, none, [.int 2 2]⟩, ⟨3, none, [.int 2 3]⟩])
  (.cons (.if_ (.or_ (.cons (.cmp .notN (.var 4) .non) (.cons (.and_ (.cons (.cmp .eq (.var 2) (.int 0)) (.cons (.cmp .notN (.var 3) .non) .nil))) .nil))) (.cons (.ret (.int 7))
  .nil) .nil)
  (.cons (.ret (.var 2))
  .nil))))))
noncomputable def f_w_done : Fn := denDef 2 6 b_w_done
def D_w_done : He.DefD := ⟨("_law_done", none), "_law_done", "_law_done", defArgs st_w_done, defBody st_w_done, defScope st_w_done, [], []⟩
def N_w_done : List Str := ["_law_yard", "_law_deed", "_law_seen", "_law_told", "_law_at", "e"]
abbrev st_w_kinds : Stmt := top 35
noncomputable def b_w_kinds : S := (.cons (.set (.one 2) (.lst .nil))
  (.cons (.try_ (.cons (.expr (.call "_law_ask" f_w_ask (.cons (.var 0) (.cons (.var 1) .nil))))
  .nil) [⟨0, (some 3), [.isi 2 none [some 8, some 2, some 3, some 7], .app 2 [some 6, some 5, some 1], .app 2 [some 4, none]]⟩])
  (.cons (.ret (.var 2))
  .nil)))
noncomputable def f_w_kinds : Fn := denDef 2 4 b_w_kinds
def D_w_kinds : He.DefD := ⟨("_law_kinds", none), "_law_kinds", "_law_kinds", defArgs st_w_kinds, defBody st_w_kinds, defScope st_w_kinds, [], []⟩
def N_w_kinds : List Str := ["_law_yard", "_law_deed", "_law_kinds_here", "e"]
abbrev st_w_same : Stmt := top 27
noncomputable def lb_w_same_1 (g : Fn) : S := (.cons (.if_ (.not_ (.call "_law_same" g (.cons (.var 2) (.cons (.var 3) .nil)))) (.cons (.ret (.bl false))
  .nil) .nil)
  .nil)
noncomputable def b_w_same (g : Fn) : S := (.cons (.if_ (.cmp .isN (.var 1) .non) (.cons (.ret (.cmp .isN (.var 0) .non))
  .nil) .nil)
  (.cons (.if_ (.isi (.var 1) .tuple) (.cons (.if_ (.or_ (.cons (.not_ (.isi (.var 0) .tuple)) (.cons (.cmp .ne (.bi .len (.cons (.var 0) .nil)) (.bi .len (.cons (.var 1) .nil))) .nil))) (.cons (.ret (.bl false))
  .nil) .nil)
  (.cons (.for_ (.tup (.cons (.one 2) (.cons (.one 3) .nil))) (.iZip (.cons (.var 0) (.cons (.var 1) .nil))) (lb_w_same_1 g))
  (.cons (.ret (.bl true))
  .nil))) .nil)
  (.cons (.if_ (.isi (.var 1) .str) (.cons (.ret (.and_ (.cons (.isi (.var 0) .str) (.cons (.cmp .eq (.var 0) (.var 1)) .nil))))
  .nil) .nil)
  (.cons (.ret (.and_ (.cons (.isi (.var 0) .int) (.cons (.not_ (.isi (.var 0) .bool)) (.cons (.cmp .eq (.var 0) (.var 1)) .nil)))))
  .nil))))
noncomputable def f_w_same : Nat → Fn
  | 0 => fun _ _ => .stuck
  | k + 1 => denDef 2 4 (b_w_same (f_w_same k))
def D_w_same : He.DefD := ⟨("_law_same", none), "_law_same", "_law_same", defArgs st_w_same, defBody st_w_same, defScope st_w_same, [], []⟩
def N_w_same : List Str := ["_law_told", "_law_due", "_law_one", "_law_other"]
abbrev st_Yard_plan_now : Stmt := inCls (top 22) 1
noncomputable def b_Yard_plan_now : S := (.cons (.ret (.fld (.var 0) 14 51))
  .nil)
noncomputable def f_Yard_plan_now : Fn := denDef 1 1 b_Yard_plan_now
def D_Yard_plan_now : He.DefD := ⟨("Yard", some "plan_now"), "plan_now", "Yard.plan_now", defArgs st_Yard_plan_now, defBody st_Yard_plan_now, defScope st_Yard_plan_now, [], []⟩
def N_Yard_plan_now : List Str := ["self"]
abbrev st_law : Stmt := top 36
noncomputable def lb_law_1 : S := (.cons (.set (.one 6) (.var 1))
  (.cons (.if_ (.chain .lt .lt (.int 0) (.var 5) (.bi .len (.cons (.var 0) .nil))) (.cons (.set (.one 6) (.call "_law_pool" f_w_pool (.cons (.var 0) (.cons (.var 5) .nil))))
  .nil) .nil)
  (.cons (.set (.one 7) (.call "_law_deed_of" f_w_deed_of (.cons (.var 6) (.cons (.var 2) .nil))))
  (.cons (.set (.tup (.cons (.one 8) (.cons (.one 9) .nil))) (.call "_law_after" f_w_after (.cons (.var 2) (.cons (.var 4) (.cons (.var 7) .nil)))))
  (.cons (.if_ (.cmp .ne (.call "_law_done" f_w_done (.cons (.var 3) (.cons (.var 7) .nil))) (.var 8)) (.cons (.ret (.bl false))
  .nil) .nil)
  (.cons (.set (.one 10) (.lst (.cons (.cmp .eq (.var 8) (.int 1)) (.cons (.cmp .eq (.var 8) (.int 2)) (.cons (.cmp .eq (.var 8) (.int 3)) (.cons (.bl false) (.cons (.bl false) (.cons (.bl false) (.cons (.bl false) (.cons (.bl false) (.cons (.bl true) .nil)))))))))))
  (.cons (.if_ (.and_ (.cons (.cmp .gt (.var 8) (.int 0)) (.cons (.cmp .ne (.call "_law_kinds" f_w_kinds (.cons (.var 3) (.cons (.var 7) .nil))) (.var 10)) .nil))) (.cons (.ret (.bl false))
  .nil) .nil)
  (.cons (.if_ (.and_ (.cons (.cmp .eq (.var 8) (.int 0)) (.cons (.cmp .eq (.sub (.var 7) (.int 0)) (.int 3)) .nil))) (.cons (.expr (.bm .pop (.var 4) .nil))
  .nil) .nil)
  (.cons (.if_ (.and_ (.cons (.cmp .eq (.var 8) (.int 0)) (.cons (.cmp .lt (.sub (.var 7) (.int 0)) (.int 3)) .nil))) (.cons (.expr (.bm .append (.var 4) (.cons (.var 2) .nil)))
  .nil) .nil)
  (.cons (.set (.one 2) (.var 9))
  (.cons (.if_ (.not_ (.call "_law_same" (f_w_same 6) (.cons (.meth (.var 3) 14 "plan_now" f_Yard_plan_now .nil) (.cons (.var 2) .nil)))) (.cons (.ret (.bl false))
  .nil) .nil)
  .nil)))))))))))
noncomputable def wc_law_1 : E := (.cmp .gt (.bi .len (.cons (.var 4) .nil)) (.int 0))
noncomputable def wb_law_1 : S := (.cons (.if_ (.or_ (.cons (.cmp .notN (.meth (.var 3) 14 "back" f_Yard_back .nil) .non) (.cons (.not_ (.call "_law_same" (f_w_same 6) (.cons (.meth (.var 3) 14 "plan_now" f_Yard_plan_now .nil) (.cons (.bm .pop (.var 4) .nil) .nil)))) .nil))) (.cons (.ret (.bl false))
  .nil) .nil)
  .nil)
noncomputable def b_law : S := (.cons (.set (.one 1) (.call "_law_pool" f_w_pool (.cons (.var 0) (.cons (.int 0) .nil))))
  (.cons (.set (.one 2) (.call "_law_plan" f_w_plan (.cons (.var 1) .nil)))
  (.cons (.set (.one 3) (.make 14 f_Yard_init (.cons (.var 2) .nil)))
  (.cons (.set (.one 4) (.lst .nil))
  (.cons (.for_ (.one 5) (.iRange (.cons (.bi .max2 (.cons (.bin .add (.int 4) (.call "_law_next" f_w_next (.cons (.var 1) (.cons (.int 24) .nil)))) (.cons (.bi .len (.cons (.cut (.var 0) .nil (.int 60)) .nil)) .nil))) .nil)) (lb_law_1))
  (.cons (.while_ (wc_law_1) (wb_law_1))
  (.cons (.ret (.cmp .eq (.call "_law_done" f_w_done (.cons (.var 3) (.cons (.tup (.cons (.int 3) (.cons .non .nil))) .nil))) (.int 3)))
  .nil)))))))
noncomputable def f_law : Fn := denDef 1 11 b_law
def D_law : He.DefD := ⟨("law", none), "law", "law", defArgs st_law, defBody st_law, defScope st_law, [], []⟩
def N_law : List Str := ["_law_script", "_law_pool_here", "_law_plan_here", "_law_yard", "_law_past", "_law_k", "_law_own", "_law_deed", "_law_due", "_law_later", "_law_kinds_here"]
abbrev st_TooGreat : Stmt := inCls (top 10) 0
def D_TooGreat : He.DefD := ⟨("TooGreat", some "__init__"), "__init__", "TooGreat.__init__", defArgs st_TooGreat, defBody st_TooGreat, defScope st_TooGreat, [], []⟩
def fas0 : List He.Fa := [.free "len", .free "abs", .free "int", .free "tuple", .free "list", .free "sum", .free "all", .free "any", .free "max", .free "min", .free "isinstance", .free "str", .free "bool", .free "range", .free "zip", .free "enumerate", .free "reversed", .free "set", .free "sorted", .free "ValueError"]
def fas1 : List He.Fa := [.glo "_law_next", .glo "_law_wide", .glo "_law_sized", .glo "_law_row", .cls "Yard", .noat "Yard" "plan", .noat "Yard" "known", .noat "Yard" "past", .glo "left", .glo "unit", .glo "moved_number", .glo "meets", .glo "givens", .glo "moved_line", .int "MOST_ROWS" 12, .glo "TooGreat", .meth "Yard" "change_to", .glo "kept_with", .glo "NoRow", .exc "NoRow"]
def fas2 : List He.Fa := [.glo "NoChange", .exc "NoChange", .meth "Yard" "put_row", .meth "Yard" "take_row", .meth "Yard" "turn", .meth "Yard" "back", .glo "_law_ask", .glo "_law_same", .glo "_law_pool", .glo "_law_plan", .glo "Yard", .mkr "Yard", .glo "_law_deed_of", .glo "_law_after", .glo "_law_done", .glo "_law_kinds", .meth "Yard" "plan_now", .glo "law", .glo "YardError", .glo "NoNumber"]
def fas3 : List He.Fa := [.glo "BelowNought", .glo "NoText", .glo "NoName", .glo "Twice"]
def fns0 : List He.DefD := [D_w_pool, D_w_next, D_w_wide, D_w_sized, D_w_row, D_w_plan, D_Yard_init, D_w_deed_of, D_w_after, D_Yard_change_to, D_left, D_meets, D_unit, D_givens, D_moved_number, D_moved_line, D_kept_with, D_Yard_put_row, D_Yard_take_row, D_Yard_turn]
def fns1 : List He.DefD := [D_Yard_back, D_w_ask, D_w_done, D_w_kinds, D_w_same, D_Yard_plan_now, D_law, D_TooGreat]
def txt : Txt := ⟨fas0 ++ (fas1 ++ (fas2 ++ (fas3))), fns0 ++ (fns1), [8], [0, 1, 2, 3, 4, 5, 6, 7, 8]⟩
/-! ### every def keeps its promise -/
section
variable {G : Cx1} (s : Sit txt G)
theorem mem_fa {f : He.Fa} (i : Nat) (h : txt.fa[i]? = some f) : f ∈ txt.fa := List.mem_of_getElem? h
theorem mem_fn {f : He.DefD} (i : Nat) (h : txt.fn[i]? = some f) : f ∈ txt.fn := List.mem_of_getElem? h
omit s in
theorem chk_w_same (g : Fn) : chkB ⟨D_w_same.scope.names, N_w_same⟩ (b_w_same g) D_w_same.body = true := by kernel_rfl
include s
theorem frees : ∀ x ∈ bnames, G.mg x = none := s.free fun x hx => by
  simp only [bnames, List.mem_cons, List.not_mem_nil, or_false] at hx
  rcases hx with rfl | rfl | rfl | rfl | rfl | rfl | rfl | rfl | rfl | rfl | rfl | rfl | rfl | rfl | rfl | rfl | rfl | rfl | rfl
  · exact mem_fa 0 rfl
  · exact mem_fa 1 rfl
  · exact mem_fa 2 rfl
  · exact mem_fa 3 rfl
  · exact mem_fa 4 rfl
  · exact mem_fa 5 rfl
  · exact mem_fa 6 rfl
  · exact mem_fa 7 rfl
  · exact mem_fa 8 rfl
  · exact mem_fa 9 rfl
  · exact mem_fa 10 rfl
  · exact mem_fa 11 rfl
  · exact mem_fa 12 rfl
  · exact mem_fa 13 rfl
  · exact mem_fa 14 rfl
  · exact mem_fa 15 rfl
  · exact mem_fa 16 rfl
  · exact mem_fa 17 rfl
  · exact mem_fa 18 rfl
theorem ex1_TooGreat {lev : Nat} (hl : 2 ≤ lev) : RefOk G lev (.ex1 8) := s.ex1 (mem_fn 27 rfl) rfl (by decide +kernel) (by decide +kernel) (by decide +kernel) hl (fun _ _ _ _ _ _ us hl => match us, hl with | [_, _], _ => rfl) (by decide +kernel) (mem_fa 35 rfl)
theorem exs_ok {lev : Nat} : RefOk G lev .exs := s.exs (fun c hc => by
  simp only [exNs, List.mem_cons, List.not_mem_nil, or_false] at hc
  rcases hc with rfl | rfl | rfl | rfl | rfl | rfl | rfl | rfl | rfl
  · exact mem_fa 58 rfl
  · exact mem_fa 59 rfl
  · exact mem_fa 38 rfl
  · exact mem_fa 40 rfl
  · exact mem_fa 60 rfl
  · exact mem_fa 61 rfl
  · exact mem_fa 62 rfl
  · exact mem_fa 63 rfl
  · exact mem_fa 35 rfl
  ) (fun c hc => hc) (mem_fa 19 rfl)
theorem ok_w_pool : DefOk G 1 D_w_pool.at_ 2 f_w_pool := s.def_ (b := b_w_pool) (lev := 0) (mem_fn 0 rfl) (N := N_w_pool) (ps := ["_law_script", "_law_at"]) (by decide +kernel) (by decide +kernel) (by decide +kernel) rfl rfl (fun _ _ _ _ _ _ us hl => match us, hl with | [_, _], _ => rfl) (frees s) (l := []) rfl trivial
theorem ok_w_next : DefOk G 1 D_w_next.at_ 2 f_w_next := s.def_ (b := b_w_next) (lev := 0) (mem_fn 1 rfl) (N := N_w_next) (ps := ["_law_pool_here", "_law_size"]) (by decide +kernel) (by decide +kernel) (by decide +kernel) rfl rfl (fun _ _ _ _ _ _ us hl => match us, hl with | [_, _], _ => rfl) (frees s) (l := []) rfl trivial
theorem ok_w_wide : DefOk G 2 D_w_wide.at_ 2 f_w_wide := s.def_ (b := b_w_wide) (lev := 1) (mem_fn 2 rfl) (N := N_w_wide) (ps := ["_law_pool_here", "_law_size"]) (by decide +kernel) (by decide +kernel) (by decide +kernel) rfl rfl (fun _ _ _ _ _ _ us hl => match us, hl with | [_, _], _ => rfl) (frees s) (l := [.fn "_law_next" f_w_next, .fn "_law_next" f_w_next]) rfl ⟨((DefOk.fn s (ok_w_next s) (mem_fa 20 rfl)).mono (by decide : 1 ≤ 1)), ((DefOk.fn s (ok_w_next s) (mem_fa 20 rfl)).mono (by decide : 1 ≤ 1)), trivial⟩
theorem ok_w_sized : DefOk G 3 D_w_sized.at_ 2 f_w_sized := s.def_ (b := b_w_sized) (lev := 2) (mem_fn 3 rfl) (N := N_w_sized) (ps := ["_law_pool_here", "_law_way"]) (by decide +kernel) (by decide +kernel) (by decide +kernel) rfl rfl (fun _ _ _ _ _ _ us hl => match us, hl with | [_, _], _ => rfl) (frees s) (l := [.fn "_law_next" f_w_next, .fn "_law_next" f_w_next, .fn "_law_next" f_w_next, .fn "_law_wide" f_w_wide]) rfl ⟨((DefOk.fn s (ok_w_next s) (mem_fa 20 rfl)).mono (by decide : 1 ≤ 2)), ((DefOk.fn s (ok_w_next s) (mem_fa 20 rfl)).mono (by decide : 1 ≤ 2)), ((DefOk.fn s (ok_w_next s) (mem_fa 20 rfl)).mono (by decide : 1 ≤ 2)), ((DefOk.fn s (ok_w_wide s) (mem_fa 21 rfl)).mono (by decide : 2 ≤ 2)), trivial⟩
theorem ok_w_row : DefOk G 4 D_w_row.at_ 3 f_w_row := s.def_ (b := b_w_row) (lev := 3) (mem_fn 4 rfl) (N := N_w_row) (ps := ["_law_pool_here", "_law_count", "_law_way"]) (by decide +kernel) (by decide +kernel) (by decide +kernel) rfl rfl (fun _ _ _ _ _ _ us hl => match us, hl with | [_, _, _], _ => rfl) (frees s) (l := [.fn "_law_sized" f_w_sized, .fn "_law_sized" f_w_sized]) rfl ⟨((DefOk.fn s (ok_w_sized s) (mem_fa 22 rfl)).mono (by decide : 3 ≤ 3)), ((DefOk.fn s (ok_w_sized s) (mem_fa 22 rfl)).mono (by decide : 3 ≤ 3)), trivial⟩
theorem ok_w_plan : DefOk G 5 D_w_plan.at_ 1 f_w_plan := s.def_ (b := b_w_plan) (lev := 4) (mem_fn 5 rfl) (N := N_w_plan) (ps := ["_law_pool_here"]) (by decide +kernel) (by decide +kernel) (by decide +kernel) rfl rfl (fun _ _ _ _ _ _ us hl => match us, hl with | [_], _ => rfl) (frees s) (l := [.fn "_law_next" f_w_next, .fn "_law_next" f_w_next, .fn "_law_sized" f_w_sized, .fn "_law_next" f_w_next, .fn "_law_sized" f_w_sized, .fn "_law_next" f_w_next, .fn "_law_next" f_w_next, .fn "_law_row" f_w_row, .fn "_law_row" f_w_row]) rfl ⟨((DefOk.fn s (ok_w_next s) (mem_fa 20 rfl)).mono (by decide : 1 ≤ 4)), ((DefOk.fn s (ok_w_next s) (mem_fa 20 rfl)).mono (by decide : 1 ≤ 4)), ((DefOk.fn s (ok_w_sized s) (mem_fa 22 rfl)).mono (by decide : 3 ≤ 4)), ((DefOk.fn s (ok_w_next s) (mem_fa 20 rfl)).mono (by decide : 1 ≤ 4)), ((DefOk.fn s (ok_w_sized s) (mem_fa 22 rfl)).mono (by decide : 3 ≤ 4)), ((DefOk.fn s (ok_w_next s) (mem_fa 20 rfl)).mono (by decide : 1 ≤ 4)), ((DefOk.fn s (ok_w_next s) (mem_fa 20 rfl)).mono (by decide : 1 ≤ 4)), ((DefOk.fn s (ok_w_row s) (mem_fa 23 rfl)).mono (by decide : 4 ≤ 4)), ((DefOk.fn s (ok_w_row s) (mem_fa 23 rfl)).mono (by decide : 4 ≤ 4)), trivial⟩
theorem ok_Yard_init : DefOk G 1 D_Yard_init.at_ 2 f_Yard_init := s.def_ (b := b_Yard_init) (lev := 0) (mem_fn 6 rfl) (N := N_Yard_init) (ps := ["self", "plan"]) (by decide +kernel) (by decide +kernel) (by decide +kernel) rfl rfl (fun _ _ _ _ _ _ us hl => match us, hl with | [_, _], _ => rfl) (frees s) (l := [.fld 14 51, .fld 14 49, .fld 14 50]) rfl ⟨(s.fld (by decide) (mem_fa 24 rfl) (mem_fa 25 rfl)), (s.fld (by decide) (mem_fa 24 rfl) (mem_fa 26 rfl)), (s.fld (by decide) (mem_fa 24 rfl) (mem_fa 27 rfl)), trivial⟩
theorem ok_w_deed_of : DefOk G 5 D_w_deed_of.at_ 2 f_w_deed_of := s.def_ (b := b_w_deed_of) (lev := 4) (mem_fn 7 rfl) (N := N_w_deed_of) (ps := ["_law_pool_here", "_law_plan_here"]) (by decide +kernel) (by decide +kernel) (by decide +kernel) rfl rfl (fun _ _ _ _ _ _ us hl => match us, hl with | [_, _], _ => rfl) (frees s) (l := [.fn "_law_next" f_w_next, .fn "_law_next" f_w_next, .fn "_law_row" f_w_row, .fn "_law_next" f_w_next, .fn "_law_next" f_w_next, .fn "_law_row" f_w_row, .fn "_law_next" f_w_next]) rfl ⟨((DefOk.fn s (ok_w_next s) (mem_fa 20 rfl)).mono (by decide : 1 ≤ 4)), ((DefOk.fn s (ok_w_next s) (mem_fa 20 rfl)).mono (by decide : 1 ≤ 4)), ((DefOk.fn s (ok_w_row s) (mem_fa 23 rfl)).mono (by decide : 4 ≤ 4)), ((DefOk.fn s (ok_w_next s) (mem_fa 20 rfl)).mono (by decide : 1 ≤ 4)), ((DefOk.fn s (ok_w_next s) (mem_fa 20 rfl)).mono (by decide : 1 ≤ 4)), ((DefOk.fn s (ok_w_row s) (mem_fa 23 rfl)).mono (by decide : 4 ≤ 4)), ((DefOk.fn s (ok_w_next s) (mem_fa 20 rfl)).mono (by decide : 1 ≤ 4)), trivial⟩
theorem ok_w_after : DefOk G 1 D_w_after.at_ 3 f_w_after := s.def_ (b := b_w_after) (lev := 0) (mem_fn 8 rfl) (N := N_w_after) (ps := ["_law_plan_here", "_law_past", "_law_deed"]) (by decide +kernel) (by decide +kernel) (by decide +kernel) rfl rfl (fun _ _ _ _ _ _ us hl => match us, hl with | [_, _, _], _ => rfl) (frees s) (l := []) rfl trivial
theorem ok_Yard_change_to : DefOk G 1 D_Yard_change_to.at_ 4 f_Yard_change_to := s.def_ (b := b_Yard_change_to) (lev := 0) (mem_fn 9 rfl) (N := N_Yard_change_to) (ps := ["self", "rows", "goal", "known"]) (by decide +kernel) (by decide +kernel) (by decide +kernel) rfl rfl (fun _ _ _ _ _ _ us hl => match us, hl with | [_, _, _, _], _ => rfl) (frees s) (l := [.fld 14 50, .fld 14 51, .fld 14 49, .fld 14 51, .fld 14 51, .fld 14 49]) rfl ⟨(s.fld (by decide) (mem_fa 24 rfl) (mem_fa 27 rfl)), (s.fld (by decide) (mem_fa 24 rfl) (mem_fa 25 rfl)), (s.fld (by decide) (mem_fa 24 rfl) (mem_fa 26 rfl)), (s.fld (by decide) (mem_fa 24 rfl) (mem_fa 25 rfl)), (s.fld (by decide) (mem_fa 24 rfl) (mem_fa 25 rfl)), (s.fld (by decide) (mem_fa 24 rfl) (mem_fa 26 rfl)), trivial⟩
theorem ok_left : DefOk G 1 D_left.at_ 2 f_left := s.def_ (b := b_left) (lev := 0) (mem_fn 10 rfl) (N := N_left) (ps := ["entries", "spot"]) (by decide +kernel) (by decide +kernel) (by decide +kernel) rfl rfl (fun _ _ _ _ _ _ us hl => match us, hl with | [_, _], _ => rfl) (frees s) (l := []) rfl trivial
theorem ok_meets : DefOk G 2 D_meets.at_ 2 f_meets := s.def_ (b := b_meets) (lev := 1) (mem_fn 11 rfl) (N := N_meets) (ps := ["row", "spot"]) (by decide +kernel) (by decide +kernel) (by decide +kernel) rfl rfl (fun _ _ _ _ _ _ us hl => match us, hl with | [_, _], _ => rfl) (frees s) (l := [.fn "left" f_left]) rfl ⟨((DefOk.fn s (ok_left s) (mem_fa 28 rfl)).mono (by decide : 1 ≤ 1)), trivial⟩
theorem ok_unit : DefOk G 1 D_unit.at_ 3 f_unit := s.def_ (b := b_unit) (lev := 0) (mem_fn 12 rfl) (N := N_unit) (ps := ["count", "at", "number"]) (by decide +kernel) (by decide +kernel) (by decide +kernel) rfl rfl (fun _ _ _ _ _ _ us hl => match us, hl with | [_, _, _], _ => rfl) (frees s) (l := []) rfl trivial
theorem ok_givens : DefOk G 2 D_givens.at_ 1 f_givens := s.def_ (b := b_givens) (lev := 1) (mem_fn 13 rfl) (N := N_givens) (ps := ["plan"]) (by decide +kernel) (by decide +kernel) (by decide +kernel) rfl rfl (fun _ _ _ _ _ _ us hl => match us, hl with | [_], _ => rfl) (frees s) (l := [.fn "unit" f_unit, .fn "unit" f_unit]) rfl ⟨((DefOk.fn s (ok_unit s) (mem_fa 29 rfl)).mono (by decide : 1 ≤ 1)), ((DefOk.fn s (ok_unit s) (mem_fa 29 rfl)).mono (by decide : 1 ≤ 1)), trivial⟩
theorem ok_moved_number : DefOk G 1 D_moved_number.at_ 2 f_moved_number := s.def_ (b := b_moved_number) (lev := 0) (mem_fn 14 rfl) (N := N_moved_number) (ps := ["number", "count"]) (by decide +kernel) (by decide +kernel) (by decide +kernel) rfl rfl (fun _ _ _ _ _ _ us hl => match us, hl with | [_, _], _ => rfl) (frees s) (l := []) rfl trivial
theorem ok_moved_line : DefOk G 2 D_moved_line.at_ 2 f_moved_line := s.def_ (b := b_moved_line) (lev := 1) (mem_fn 15 rfl) (N := N_moved_line) (ps := ["line", "count"]) (by decide +kernel) (by decide +kernel) (by decide +kernel) rfl rfl (fun _ _ _ _ _ _ us hl => match us, hl with | [_, _], _ => rfl) (frees s) (l := [.fn "moved_number" f_moved_number, .fn "moved_number" f_moved_number]) rfl ⟨((DefOk.fn s (ok_moved_number s) (mem_fa 30 rfl)).mono (by decide : 1 ≤ 1)), ((DefOk.fn s (ok_moved_number s) (mem_fa 30 rfl)).mono (by decide : 1 ≤ 1)), trivial⟩
theorem ok_kept_with : DefOk G 3 D_kept_with.at_ 3 f_kept_with := s.def_ (b := b_kept_with) (lev := 2) (mem_fn 16 rfl) (N := N_kept_with) (ps := ["plan", "known", "row"]) (by decide +kernel) (by decide +kernel) (by decide +kernel) rfl rfl (fun _ _ _ _ _ _ us hl => match us, hl with | [_, _, _], _ => rfl) (frees s) (l := [.fn "meets" f_meets, .fn "givens" f_givens, .fn "moved_line" f_moved_line, .fn "left" f_left]) rfl ⟨((DefOk.fn s (ok_meets s) (mem_fa 31 rfl)).mono (by decide : 2 ≤ 2)), ((DefOk.fn s (ok_givens s) (mem_fa 32 rfl)).mono (by decide : 2 ≤ 2)), ((DefOk.fn s (ok_moved_line s) (mem_fa 33 rfl)).mono (by decide : 2 ≤ 2)), ((DefOk.fn s (ok_left s) (mem_fa 28 rfl)).mono (by decide : 1 ≤ 2)), trivial⟩
theorem ok_Yard_put_row : DefOk G 4 D_Yard_put_row.at_ 2 f_Yard_put_row := s.def_ (b := b_Yard_put_row) (lev := 3) (mem_fn 17 rfl) (N := N_Yard_put_row) (ps := ["self", "row"]) (by decide +kernel) (by decide +kernel) (by decide +kernel) rfl rfl (fun _ _ _ _ _ _ us hl => match us, hl with | [_, _], _ => rfl) (frees s) (l := [.fld 14 51, .gi "MOST_ROWS" 12, .ex1 8, .mt 14 "change_to" f_Yard_change_to, .fld 14 51, .fn "kept_with" f_kept_with, .fld 14 51, .fld 14 49]) rfl ⟨(s.fld (by decide) (mem_fa 24 rfl) (mem_fa 25 rfl)), (s.gi (mem_fa 34 rfl)), (ex1_TooGreat s (by decide : 2 ≤ 3)), ((DefOk.mt s (ok_Yard_change_to s) (by decide +kernel) (mem_fa 24 rfl) (mem_fa 36 rfl)).mono (by decide : 1 ≤ 3)), (s.fld (by decide) (mem_fa 24 rfl) (mem_fa 25 rfl)), ((DefOk.fn s (ok_kept_with s) (mem_fa 37 rfl)).mono (by decide : 3 ≤ 3)), (s.fld (by decide) (mem_fa 24 rfl) (mem_fa 25 rfl)), (s.fld (by decide) (mem_fa 24 rfl) (mem_fa 26 rfl)), trivial⟩
theorem ok_Yard_take_row : DefOk G 2 D_Yard_take_row.at_ 2 f_Yard_take_row := s.def_ (b := b_Yard_take_row) (lev := 1) (mem_fn 18 rfl) (N := N_Yard_take_row) (ps := ["self", "number"]) (by decide +kernel) (by decide +kernel) (by decide +kernel) rfl rfl (fun _ _ _ _ _ _ us hl => match us, hl with | [_, _], _ => rfl) (frees s) (l := [.fld 14 51, .ex0 2, .fld 14 49, .fld 14 49, .fld 14 49, .mt 14 "change_to" f_Yard_change_to, .fld 14 51]) rfl ⟨(s.fld (by decide) (mem_fa 24 rfl) (mem_fa 25 rfl)), (s.ex0 (mem_fa 38 rfl) (mem_fa 39 rfl)), (s.fld (by decide) (mem_fa 24 rfl) (mem_fa 26 rfl)), (s.fld (by decide) (mem_fa 24 rfl) (mem_fa 26 rfl)), (s.fld (by decide) (mem_fa 24 rfl) (mem_fa 26 rfl)), ((DefOk.mt s (ok_Yard_change_to s) (by decide +kernel) (mem_fa 24 rfl) (mem_fa 36 rfl)).mono (by decide : 1 ≤ 1)), (s.fld (by decide) (mem_fa 24 rfl) (mem_fa 25 rfl)), trivial⟩
theorem ok_Yard_turn : DefOk G 2 D_Yard_turn.at_ 2 f_Yard_turn := s.def_ (b := b_Yard_turn) (lev := 1) (mem_fn 19 rfl) (N := N_Yard_turn) (ps := ["self", "goal"]) (by decide +kernel) (by decide +kernel) (by decide +kernel) rfl rfl (fun _ _ _ _ _ _ us hl => match us, hl with | [_, _], _ => rfl) (frees s) (l := [.mt 14 "change_to" f_Yard_change_to, .fld 14 51]) rfl ⟨((DefOk.mt s (ok_Yard_change_to s) (by decide +kernel) (mem_fa 24 rfl) (mem_fa 36 rfl)).mono (by decide : 1 ≤ 1)), (s.fld (by decide) (mem_fa 24 rfl) (mem_fa 25 rfl)), trivial⟩
theorem ok_Yard_back : DefOk G 1 D_Yard_back.at_ 1 f_Yard_back := s.def_ (b := b_Yard_back) (lev := 0) (mem_fn 20 rfl) (N := N_Yard_back) (ps := ["self"]) (by decide +kernel) (by decide +kernel) (by decide +kernel) rfl rfl (fun _ _ _ _ _ _ us hl => match us, hl with | [_], _ => rfl) (frees s) (l := [.fld 14 50, .ex0 3, .fld 14 50, .fld 14 51, .fld 14 49]) rfl ⟨(s.fld (by decide) (mem_fa 24 rfl) (mem_fa 27 rfl)), (s.ex0 (mem_fa 40 rfl) (mem_fa 41 rfl)), (s.fld (by decide) (mem_fa 24 rfl) (mem_fa 27 rfl)), (s.fld (by decide) (mem_fa 24 rfl) (mem_fa 25 rfl)), (s.fld (by decide) (mem_fa 24 rfl) (mem_fa 26 rfl)), trivial⟩
theorem ok_w_ask : DefOk G 5 D_w_ask.at_ 2 f_w_ask := s.def_ (b := b_w_ask) (lev := 4) (mem_fn 21 rfl) (N := N_w_ask) (ps := ["_law_yard", "_law_deed"]) (by decide +kernel) (by decide +kernel) (by decide +kernel) rfl rfl (fun _ _ _ _ _ _ us hl => match us, hl with | [_, _], _ => rfl) (frees s) (l := [.mt 14 "put_row" f_Yard_put_row, .mt 14 "take_row" f_Yard_take_row, .mt 14 "turn" f_Yard_turn, .mt 14 "back" f_Yard_back]) rfl ⟨((DefOk.mt s (ok_Yard_put_row s) (by decide +kernel) (mem_fa 24 rfl) (mem_fa 42 rfl)).mono (by decide : 4 ≤ 4)), ((DefOk.mt s (ok_Yard_take_row s) (by decide +kernel) (mem_fa 24 rfl) (mem_fa 43 rfl)).mono (by decide : 2 ≤ 4)), ((DefOk.mt s (ok_Yard_turn s) (by decide +kernel) (mem_fa 24 rfl) (mem_fa 44 rfl)).mono (by decide : 2 ≤ 4)), ((DefOk.mt s (ok_Yard_back s) (by decide +kernel) (mem_fa 24 rfl) (mem_fa 45 rfl)).mono (by decide : 1 ≤ 4)), trivial⟩
theorem ok_w_done : DefOk G 6 D_w_done.at_ 2 f_w_done := s.def_ (b := b_w_done) (lev := 5) (mem_fn 22 rfl) (N := N_w_done) (ps := ["_law_yard", "_law_deed"]) (by decide +kernel) (by decide +kernel) (by decide +kernel) rfl rfl (fun _ _ _ _ _ _ us hl => match us, hl with | [_, _], _ => rfl) (frees s) (l := [.exs, .fn "_law_ask" f_w_ask]) rfl ⟨(exs_ok s), ((DefOk.fn s (ok_w_ask s) (mem_fa 46 rfl)).mono (by decide : 5 ≤ 5)), trivial⟩
theorem ok_w_kinds : DefOk G 6 D_w_kinds.at_ 2 f_w_kinds := s.def_ (b := b_w_kinds) (lev := 5) (mem_fn 23 rfl) (N := N_w_kinds) (ps := ["_law_yard", "_law_deed"]) (by decide +kernel) (by decide +kernel) (by decide +kernel) rfl rfl (fun _ _ _ _ _ _ us hl => match us, hl with | [_, _], _ => rfl) (frees s) (l := [.exs, .fn "_law_ask" f_w_ask]) rfl ⟨(exs_ok s), ((DefOk.fn s (ok_w_ask s) (mem_fa 46 rfl)).mono (by decide : 5 ≤ 5)), trivial⟩
theorem okr_w_same : ∀ k, DefOk G (0 + k) D_w_same.at_ 2 (f_w_same k)
  | 0 => s.def0 (mem_fn 24 rfl) (ps := ["_law_told", "_law_due"]) (by decide +kernel) rfl (fun _ _ _ _ _ _ us hl => match us, hl with | [_, _], _ => rfl)
  | k + 1 => by
    have ih := okr_w_same k
    exact s.def_ (b := b_w_same (f_w_same k)) (lev := 0 + k) (mem_fn 24 rfl) (N := N_w_same) (ps := ["_law_told", "_law_due"]) (by decide +kernel) (by decide +kernel) (chk_w_same _) rfl rfl (fun _ _ _ _ _ _ us hl => match us, hl with | [_, _], _ => rfl) (frees s) (l := [.fn "_law_same" (f_w_same k)]) rfl ⟨(DefOk.fn s ih (mem_fa 47 rfl)), trivial⟩
theorem ok_w_same : DefOk G 7 D_w_same.at_ 2 (f_w_same 6) := (okr_w_same s 6).mono (by decide)
theorem ok_Yard_plan_now : DefOk G 1 D_Yard_plan_now.at_ 1 f_Yard_plan_now := s.def_ (b := b_Yard_plan_now) (lev := 0) (mem_fn 25 rfl) (N := N_Yard_plan_now) (ps := ["self"]) (by decide +kernel) (by decide +kernel) (by decide +kernel) rfl rfl (fun _ _ _ _ _ _ us hl => match us, hl with | [_], _ => rfl) (frees s) (l := [.fld 14 51]) rfl ⟨(s.fld (by decide) (mem_fa 24 rfl) (mem_fa 25 rfl)), trivial⟩
theorem ok_law : DefOk G 8 D_law.at_ 1 f_law := s.def_ (b := b_law) (lev := 7) (mem_fn 26 rfl) (N := N_law) (ps := ["_law_script"]) (by decide +kernel) (by decide +kernel) (by decide +kernel) rfl rfl (fun _ _ _ _ _ _ us hl => match us, hl with | [_], _ => rfl) (frees s) (l := [.fn "_law_pool" f_w_pool, .fn "_law_plan" f_w_plan, .mk 14 f_Yard_init, .fn "_law_next" f_w_next, .fn "_law_pool" f_w_pool, .fn "_law_deed_of" f_w_deed_of, .fn "_law_after" f_w_after, .fn "_law_done" f_w_done, .fn "_law_kinds" f_w_kinds, .fn "_law_same" (f_w_same 6), .mt 14 "plan_now" f_Yard_plan_now, .mt 14 "back" f_Yard_back, .fn "_law_same" (f_w_same 6), .mt 14 "plan_now" f_Yard_plan_now, .fn "_law_done" f_w_done]) rfl ⟨((DefOk.fn s (ok_w_pool s) (mem_fa 48 rfl)).mono (by decide : 1 ≤ 7)), ((DefOk.fn s (ok_w_plan s) (mem_fa 49 rfl)).mono (by decide : 5 ≤ 7)), ((DefOk.make s (ok_Yard_init s) (mem_fa 50 rfl) (mem_fa 51 rfl)).mono (by decide : 2 ≤ 7)), ((DefOk.fn s (ok_w_next s) (mem_fa 20 rfl)).mono (by decide : 1 ≤ 7)), ((DefOk.fn s (ok_w_pool s) (mem_fa 48 rfl)).mono (by decide : 1 ≤ 7)), ((DefOk.fn s (ok_w_deed_of s) (mem_fa 52 rfl)).mono (by decide : 5 ≤ 7)), ((DefOk.fn s (ok_w_after s) (mem_fa 53 rfl)).mono (by decide : 1 ≤ 7)), ((DefOk.fn s (ok_w_done s) (mem_fa 54 rfl)).mono (by decide : 6 ≤ 7)), ((DefOk.fn s (ok_w_kinds s) (mem_fa 55 rfl)).mono (by decide : 6 ≤ 7)), ((DefOk.fn s (ok_w_same s) (mem_fa 47 rfl)).mono (by decide : 7 ≤ 7)), ((DefOk.mt s (ok_Yard_plan_now s) (by decide +kernel) (mem_fa 24 rfl) (mem_fa 56 rfl)).mono (by decide : 1 ≤ 7)), ((DefOk.mt s (ok_Yard_back s) (by decide +kernel) (mem_fa 24 rfl) (mem_fa 45 rfl)).mono (by decide : 1 ≤ 7)), ((DefOk.fn s (ok_w_same s) (mem_fa 47 rfl)).mono (by decide : 7 ≤ 7)), ((DefOk.mt s (ok_Yard_plan_now s) (by decide +kernel) (mem_fa 24 rfl) (mem_fa 56 rfl)).mono (by decide : 1 ≤ 7)), ((DefOk.fn s (ok_w_done s) (mem_fa 54 rfl)).mono (by decide : 6 ≤ 7)), trivial⟩
end
abbrev RW : PySem.W.OpenLaw := PySem.Challenge.rw_cutyard_k66_a_yard_changed
abbrev RowW : PySem.W.OpenRow := PySem.W.OpenLaw.row RW
abbrev hkW : PySem.W.Hook := hookM 4 txt
def ob (s : PySem.W.SharedT) : AlM := obsM 4 txt (HandSHeadRun.getT s)
theorem ob_eq (s : PySem.W.SharedT) : ob s = hkW.obs s.abs := obsM_eq (HandSHeadRun.getT_eq s)
end M1
/-! the plain meaning, by rewriting -/
namespace M1
open PySem PySem.Spec L2
section
variable {ρ : Env} {st : Sto}
@[simp] theorem e_var (i : Nat) : (den (.var i)).e ρ st = varD i ρ st := rfl
@[simp] theorem e_int (i : Int) : (den (.int i)).e ρ st = .ok (.int i) st := rfl
@[simp] theorem e_bl (i : Bool) : (den (.bl i)).e ρ st = .ok (.bl i) st := rfl
@[simp] theorem e_non : (den .non).e ρ st = .ok .non st := rfl
@[simp] theorem e_str (i : List Nat) : (den (.str i)).e ρ st = .ok (.str i) st := rfl
@[simp] theorem e_gint (x : Str) (i : Int) : (den (.gint x i)).e ρ st = .ok (.int i) st := rfl
@[simp] theorem e_gstr (x : Str) (i : List Nat) : (den (.gstr x i)).e ρ st = .ok (.str i) st := rfl
@[simp] theorem e_bin (o : Bop) (a b : E) : (den (.bin o a b)).e ρ st = ((den a).e ρ st).bind fun x st1 => ((den b).e ρ st1).bind fun y st2 => binD o x y st2 := rfl
@[simp] theorem e_neg (a : E) : (den (.neg a)).e ρ st = ((den a).e ρ st).bind negD := rfl
@[simp] theorem e_cmp (o : Cop) (a b : E) : (den (.cmp o a b)).e ρ st = ((den a).e ρ st).bind fun x st1 => ((den b).e ρ st1).bind fun y st2 => cmpD o x y st2 := rfl
@[simp] theorem e_chain (o o' : Cop) (a b c : E) : (den (.chain o o' a b c)).e ρ st = ((den a).e ρ st).bind fun x st1 => ((den b).e ρ st1).bind fun y st2 => (cmpD o x y st2).bind fun z st3 => andD z st3 fun st3 => ((den c).e ρ st3).bind fun w st4 => cmpD o' y w st4 := rfl
@[simp] theorem e_not (a : E) : (den (.not_ a)).e ρ st = ((den a).e ρ st).bind notD := rfl
@[simp] theorem e_and (l : E) : (den (.and_ l)).e ρ st = (den l).an ρ st := rfl
@[simp] theorem e_or (l : E) : (den (.or_ l)).e ρ st = (den l).o ρ st := rfl
@[simp] theorem e_ife (c a b : E) : (den (.ife c a b)).e ρ st = ((den c).t ρ st).bind fun k st1 => match k with
    | true => (den a).e ρ st1
    | false => (den b).e ρ st1 := rfl
@[simp] theorem e_tup (l : E) : (den (.tup l)).e ρ st = ((den l).a ρ st).bind fun xs st1 => okIf (xs.length ≤ sizeLine) (.tup xs) st1 := rfl
@[simp] theorem e_lst (l : E) : (den (.lst l)).e ρ st = ((den l).a ρ st).bind fun xs st1 => okL (xs.length ≤ sizeLine) xs st1 := rfl
@[simp] theorem e_sub (a i : E) : (den (.sub a i)).e ρ st = ((den a).e ρ st).bind fun x st1 => ((den i).e ρ st1).bind fun y st2 => subD x y st2 := rfl
@[simp] theorem e_cut (a lo hi : E) : (den (.cut a lo hi)).e ρ st = ((den a).e ρ st).bind fun x st1 => ((den lo).p ρ st1).bind fun l st2 => ((den hi).p ρ st2).bind fun h st3 => cutD x l h st3 := rfl
@[simp] theorem e_call (x : Str) (f : Fn) (l : E) : (den (.call x f l)).e ρ st = ((den l).a ρ st).bind fun xs st1 => f xs st1 := rfl
@[simp] theorem e_meth (o : E) (c : Nat) (m : Str) (f : Fn) (l : E) : (den (.meth o c m f l)).e ρ st = ((den o).e ρ st).bind fun x st1 => selfD c x st1 fun st1 => ((den l).a ρ st1).bind fun xs st2 => f (x :: xs) st2 := rfl
@[simp] theorem e_make (c : Nat) (f : Fn) (l : E) : (den (.make c f l)).e ρ st = ((den l).a ρ st).bind fun xs st1 => makeD f c xs st1 := rfl
@[simp] theorem e_fld (o : E) (c f : Nat) : (den (.fld o c f)).e ρ st = ((den o).e ρ st).bind fun x st1 => fldD x c f st1 := rfl
@[simp] theorem e_bi (b : Bi) (l : E) : (den (.bi b l)).e ρ st = ((den l).a ρ st).bind fun xs st1 => biD b xs st1 := rfl
@[simp] theorem e_bic (b : Bi) (e : E) : (den (.bic b e)).e ρ st = ((den e).l ρ st).bind fun xs st1 => biL b xs st1 := rfl
@[simp] theorem e_isi (a : E) (t : Ty) : (den (.isi a t)).e ρ st = ((den a).e ρ st).bind fun x st1 => okO (isiD x t) .bl st1 := rfl
@[simp] theorem e_bm (b : Bm) (o l : E) : (den (.bm b o l)).e ρ st = ((den o).e ρ st).bind fun x st1 => onLst x st1 fun st1 => ((den l).a ρ st1).bind fun xs st2 => bmD b x xs st2 := rfl
@[simp] theorem e_comp (e : E) (t : T) (it c : E) : (den (.comp e t it c)).e ρ st = (compD t ((den it).i ρ st) (den c).c (den e).e ρ).bind fun xs st1 => .ok (.loc st1.length) (st1 ++ [.lst xs]) := rfl
@[simp] theorem l_comp (e : E) (t : T) (it c : E) : (den (.comp e t it c)).l ρ st = compD t ((den it).i ρ st) (den c).c (den e).e ρ := rfl
@[simp] theorem i_val (a : E) : (den (.iVal a)).i ρ st = ((den a).e ρ st).bind itVal := rfl
@[simp] theorem i_range (a : E) : (den (.iRange a)).i ρ st = ((den a).a ρ st).bind itRange := rfl
@[simp] theorem i_zip (a : E) : (den (.iZip a)).i ρ st = ((den a).a ρ st).bind itZip := rfl
@[simp] theorem i_enum (a : E) : (den (.iEnum a)).i ρ st = ((den a).a ρ st).bind fun xs st1 => match xs with | [x] => itEnum x st1 | _ => .stuck := rfl
@[simp] theorem a_nil : (den .nil).a ρ st = .ok [] st := rfl
@[simp] theorem a_cons (a r : E) : (den (.cons a r)).a ρ st = ((den a).e ρ st).bind fun x st1 => ((den r).a ρ st1).bind fun xs st2 => .ok (x :: xs) st2 := rfl
@[simp] theorem p_nil : (den .nil).p ρ st = .ok none st := rfl
@[simp] theorem c_nil : (den .nil).c = fun _ st => .ok true st := rfl
@[simp] theorem an_one (a : E) : (den (.cons a .nil)).an ρ st = (den a).e ρ st := rfl
@[simp] theorem an_two (a b r : E) : (den (.cons a (.cons b r))).an ρ st = ((den a).e ρ st).bind fun x st1 => andD x st1 ((den (.cons b r)).an ρ) := rfl
@[simp] theorem o_one (a : E) : (den (.cons a .nil)).o ρ st = (den a).e ρ st := rfl
@[simp] theorem o_two (a b r : E) : (den (.cons a (.cons b r))).o ρ st = ((den a).e ρ st).bind fun x st1 => orD x st1 ((den (.cons b r)).o ρ) := rfl
@[simp] theorem ta_one (a : E) : (den (.cons a .nil)).ta ρ st = (den a).t ρ st := rfl
@[simp] theorem ta_two (a b r : E) : (den (.cons a (.cons b r))).ta ρ st = ((den a).t ρ st).bind fun x st1 => andT x st1 ((den (.cons b r)).ta ρ) := rfl
@[simp] theorem to_one (a : E) : (den (.cons a .nil)).to ρ st = (den a).t ρ st := rfl
@[simp] theorem to_two (a b r : E) : (den (.cons a (.cons b r))).to ρ st = ((den a).t ρ st).bind fun x st1 => orT x st1 ((den (.cons b r)).to ρ) := rfl
@[simp] theorem t_not (a : E) : (den (.not_ a)).t ρ st = ((den a).t ρ st).bind fun b st1 => .ok (!b) st1 := rfl
@[simp] theorem t_and (l : E) : (den (.and_ l)).t ρ st = (den l).ta ρ st := rfl
@[simp] theorem t_or (l : E) : (den (.or_ l)).t ρ st = (den l).to ρ st := rfl
@[simp] theorem t_var (i : Nat) : (den (.var i)).t ρ st = (varD i ρ st).bind truR := rfl
@[simp] theorem t_cmp (o : Cop) (a b : E) : (den (.cmp o a b)).t ρ st = ((den (.cmp o a b)).e ρ st).bind truR := rfl
@[simp] theorem t_chain (o o' : Cop) (a b c : E) : (den (.chain o o' a b c)).t ρ st = ((den (.chain o o' a b c)).e ρ st).bind truR := rfl
@[simp] theorem t_bl (b : Bool) : (den (.bl b)).t ρ st = .ok b st := rfl
@[simp] theorem t_isi (a : E) (t : Ty) : (den (.isi a t)).t ρ st = ((den (.isi a t)).e ρ st).bind truR := rfl
@[simp] theorem t_call (x : Str) (f : Fn) (l : E) : (den (.call x f l)).t ρ st = ((den (.call x f l)).e ρ st).bind truR := rfl
@[simp] theorem t_meth (o : E) (c : Nat) (m : Str) (f : Fn) (l : E) : (den (.meth o c m f l)).t ρ st = ((den (.meth o c m f l)).e ρ st).bind truR := rfl
@[simp] theorem t_bi (b : Bi) (l : E) : (den (.bi b l)).t ρ st = ((den (.bi b l)).e ρ st).bind truR := rfl
@[simp] theorem t_bic (b : Bi) (l : E) : (den (.bic b l)).t ρ st = ((den (.bic b l)).e ρ st).bind truR := rfl
@[simp] theorem t_sub (a i : E) : (den (.sub a i)).t ρ st = ((den (.sub a i)).e ρ st).bind truR := rfl
@[simp] theorem t_fld (o : E) (c f : Nat) : (den (.fld o c f)).t ρ st = ((den (.fld o c f)).e ρ st).bind truR := rfl
@[simp] theorem t_bin (o : Bop) (a b : E) : (den (.bin o a b)).t ρ st = ((den (.bin o a b)).e ρ st).bind truR := rfl
@[simp] theorem c_cmp (o : Cop) (a b : E) : (den (.cmp o a b)).c ρ st = (den (.cmp o a b)).t ρ st := rfl
@[simp] theorem c_chain (o o' : Cop) (a b c : E) : (den (.chain o o' a b c)).c ρ st = (den (.chain o o' a b c)).t ρ st := rfl
@[simp] theorem c_and (l : E) : (den (.and_ l)).c ρ st = (den l).ta ρ st := rfl
@[simp] theorem c_or (l : E) : (den (.or_ l)).c ρ st = (den l).to ρ st := rfl
@[simp] theorem c_not (l : E) : (den (.not_ l)).c ρ st = (den (.not_ l)).t ρ st := rfl
@[simp] theorem c_var (i : Nat) : (den (.var i)).c ρ st = (varD i ρ st).bind truR := rfl
@[simp] theorem p_int (i : Int) : (den (.int i)).p ρ st = .ok (some i) st := rfl
@[simp] theorem p_var (i : Nat) : (den (.var i)).p ρ st = (varD i ρ st).bind partR := rfl
@[simp] theorem p_sub (a i : E) : (den (.sub a i)).p ρ st = ((den (.sub a i)).e ρ st).bind partR := rfl
@[simp] theorem p_bin (o : Bop) (a b : E) : (den (.bin o a b)).p ρ st = ((den (.bin o a b)).e ρ st).bind partR := rfl
@[simp] theorem p_neg (a : E) : (den (.neg a)).p ρ st = ((den (.neg a)).e ρ st).bind partR := rfl
@[simp] theorem p_bi (b : Bi) (l : E) : (den (.bi b l)).p ρ st = ((den (.bi b l)).e ρ st).bind partR := rfl
@[simp] theorem p_gint (x : Str) (i : Int) : (den (.gint x i)).p ρ st = .ok (some i) st := rfl
/-! statements -/
@[simp] theorem s_nil : denS .nil ρ st = .nx ρ st := rfl
@[simp] theorem s_cons (a r : S) : denS (.cons a r) ρ st = (denS a ρ st).seq (denS r) := rfl
@[simp] theorem sd_set (t : T) (e : E) : denS (.set t e) ρ st = ((den e).e ρ st).then ρ fun d st1 => .asg (asg t d ρ) st1 := rfl
@[simp] theorem sd_setSub (o i e : E) : denS (.setSub o i e) ρ st = ((den e).e ρ st).then ρ fun v st1 => ((den o).e ρ st1).then ρ fun x st2 => ((den i).e ρ st2).then ρ fun y st3 => (setSubD x y v st3).then ρ fun _ st4 => .nx ρ st4 := rfl
@[simp] theorem sd_setFld (o : E) (c f : Nat) (e : E) : denS (.setFld o c f e) ρ st = ((den e).e ρ st).then ρ fun v st1 => ((den o).e ρ st1).then ρ fun x st2 => (setFldD x c f v st2).then ρ fun _ st3 => .nx ρ st3 := rfl
@[simp] theorem sd_aug (i : Nat) (o : Bop) (e : E) : denS (.aug i o e) ρ st = (varD i ρ st).then ρ fun x st1 => ((den e).e ρ st1).then ρ fun y st2 => (augD o x y st2).then ρ fun z st3 => .nx (ρ.set i (some z)) st3 := rfl
@[simp] theorem sd_augSub (o i : E) (op : Bop) (e : E) : denS (.augSub o i op e) ρ st = ((den o).e ρ st).then ρ fun a st1 => ((den i).e ρ st1).then ρ fun k st2 => (subLst a k st2).then ρ fun x st3 => ((den e).e ρ st3).then ρ fun y st4 => (augD op x y st4).then ρ fun z st5 => (setSubD a k z st5).then ρ fun _ st6 => .nx ρ st6 := rfl
@[simp] theorem sd_augFld (o : E) (c f : Nat) (op : Bop) (e : E) : denS (.augFld o c f op e) ρ st = ((den o).e ρ st).then ρ fun a st1 => (fldD a c f st1).then ρ fun x st3 => ((den e).e ρ st3).then ρ fun y st4 => (augD op x y st4).then ρ fun z st5 => (setFldD a c f z st5).then ρ fun _ st6 => .nx ρ st6 := rfl
@[simp] theorem sd_expr (e : E) : denS (.expr e) ρ st = ((den e).e ρ st).then ρ fun _ st1 => .nx ρ st1 := rfl
@[simp] theorem sd_ret (e : E) : denS (.ret e) ρ st = ((den e).e ρ st).then ρ fun d st1 => .rt d st1 := rfl
@[simp] theorem sd_ret0 : denS .ret0 ρ st = .rt .non st := rfl
@[simp] theorem sd_brk : denS .brk ρ st = .bk ρ st := rfl
@[simp] theorem sd_pass : denS .pass ρ st = .nx ρ st := rfl
@[simp] theorem sd_if (c : E) (a b : S) : denS (.if_ c a b) ρ st = ((den c).t ρ st).then ρ fun k st1 => match k with
    | true => denS a ρ st1
    | false => denS b ρ st1 := rfl
@[simp] theorem sd_for (t : T) (it : E) (b : S) : denS (.for_ t it b) ρ st = ((den it).i ρ st).then ρ fun i st1 => forF t i.live (denS b) i.ds ρ st1 := rfl
@[simp] theorem sd_while (c : E) (b : S) : denS (.while_ c b) ρ st = whileF (den c).t (denS b) ρ st := rfl
@[simp] theorem sd_raise (c : Nat) (l : E) : denS (.raise c l) ρ st = ((den l).a ρ st).then ρ fun xs st1 => match xs with
    | [] => .exc c none ρ st1
    | [x] => .exc c (some x) ρ st1
    | _ => .stuck := rfl
@[simp] theorem sd_try (b : S) (hs : List Hc) : denS (.try_ b hs) ρ st = tryF hs (denS b ρ st) := rfl
/-! flows -/
@[simp] theorem then_ok {α : Type} {a : α} {f : α → Sto → F} : (R.ok a st).then ρ f = f a st := rfl
@[simp] theorem then_exc {α : Type} {c : Nat} {x : Option D} {f : α → Sto → F} : (R.exc c x st : R α).then ρ f = .exc c x ρ st := rfl
@[simp] theorem seq_nx {f : Env → Sto → F} : (F.nx ρ st).seq f = f ρ st := rfl
@[simp] theorem seq_rt {d : D} {f : Env → Sto → F} : (F.rt d st).seq f = .rt d st := rfl
@[simp] theorem seq_bk {f : Env → Sto → F} : (F.bk ρ st).seq f = .bk ρ st := rfl
@[simp] theorem seq_exc {c : Nat} {x : Option D} {f : Env → Sto → F} : (F.exc c x ρ st).seq f = .exc c x ρ st := rfl
@[simp] theorem asg_some : F.asg (some ρ) st = .nx ρ st := rfl
@[simp] theorem tryF_nx {hs : List Hc} : tryF hs (.nx ρ st) = .nx ρ st := rfl
@[simp] theorem tryF_rt {hs : List Hc} {d : D} : tryF hs (.rt d st) = .rt d st := rfl
@[simp] theorem tryF_exc {hs : List Hc} {e : Nat} {x : Option D} : tryF hs (.exc e x ρ st) = if e ∈ exNs then catchF e x ρ st hs else .stuck := rfl
@[simp] theorem varD_zero {d : D} : varD 0 (some d :: ρ) st = .ok d st := rfl
@[simp] theorem varD_succ {i : Nat} {x : Option D} : varD (i + 1) (x :: ρ) st = varD i ρ st := rfl
@[simp] theorem asgOne (i : Nat) (d : D) : asg (.one i) d ρ = some (ρ.set i (some d)) := rfl
@[simp] theorem asgTup (l : T) (ds : List D) : asg (.tup l) (.tup ds) ρ = asgs l ds ρ := by unfold asg; rfl
@[simp] theorem asgsNil : asgs .nil [] ρ = some ρ := by unfold asgs; rfl
@[simp] theorem asgsCons (t r : T) (d : D) (ds : List D) : asgs (.cons t r) (d :: ds) ρ = match asg t d ρ with
    | some ρ' => asgs r ds ρ'
    | none => none := by
  rw [asgs]
  all_goals (cases asg t d ρ <;> rfl)
/-! values -/
@[simp] theorem okIf_pos {α : Type} {p : Prop} {a : α} (h : p) : okIf p a st = .ok a st := if_pos h
@[simp] theorem okIf_true {α : Type} {a : α} : okIf True a st = .ok a st := if_pos trivial
@[simp] theorem okL_true {a : List D} : okL True a st = .ok (.loc st.length) (st ++ [.lst a]) := if_pos trivial
theorem okL_pos {p : Prop} {a : List D} (h : p) : okL p a st = .ok (.loc st.length) (st ++ [.lst a]) := if_pos h
@[simp] theorem okO_some {α : Type} {a : α} {f : α → D} : okO (some a) f st = .ok (f a) st := rfl
@[simp] theorem truR_b {b : Bool} : truR (.bl b) st = .ok b st := rfl
@[simp] theorem truR_i {i : Int} : truR (.int i) st = .ok (i != 0) st := rfl
@[simp] theorem truR_n : truR .non st = .ok false st := rfl
@[simp] theorem partR_i {i : Int} : partR (.int i) st = .ok (some i) st := rfl
@[simp] theorem notD_b {b : Bool} : notD (.bl b) st = .ok (.bl !b) st := rfl
@[simp] theorem negD_i {i : Int} : negD (.int i) st = .ok (.int (-i)) st := rfl
@[simp] theorem andD_t {k : Sto → R D} : andD (.bl true) st k = k st := rfl
@[simp] theorem andD_f {k : Sto → R D} : andD (.bl false) st k = .ok (.bl false) st := rfl
@[simp] theorem orD_t {k : Sto → R D} : orD (.bl true) st k = .ok (.bl true) st := rfl
@[simp] theorem orD_f {k : Sto → R D} : orD (.bl false) st k = k st := rfl
@[simp] theorem andD_b {a b : Bool} : andD (.bl a) st (fun s => .ok (.bl b) s) = .ok (.bl (a && b)) st := by cases a <;> rfl
@[simp] theorem orD_b {a b : Bool} : orD (.bl a) st (fun s => .ok (.bl b) s) = .ok (.bl (a || b)) st := by cases a <;> rfl
@[simp] theorem andT_t {k : Sto → R Bool} : andT true st k = k st := rfl
@[simp] theorem andT_f {k : Sto → R Bool} : andT false st k = .ok false st := rfl
@[simp] theorem orT_t {k : Sto → R Bool} : orT true st k = .ok true st := rfl
@[simp] theorem orT_f {k : Sto → R Bool} : orT false st k = k st := rfl
@[simp] theorem add_i {i j : Int} : binD .add (.int i) (.int j) st = .ok (.int (i + j)) st := rfl
@[simp] theorem sub_i {i j : Int} : binD .sub (.int i) (.int j) st = .ok (.int (i - j)) st := rfl
@[simp] theorem mul_i {i j : Int} : binD .mul (.int i) (.int j) st = okIf (mulFit i j) (.int (i * j)) st := rfl
@[simp] theorem fdiv_i {i j : Int} : binD .fdiv (.int i) (.int j) st = okIf (divFit j) (.int (i.fdiv j)) st := rfl
@[simp] theorem mod_i {i j : Int} : binD .mod (.int i) (.int j) st = okIf (j ≠ 0) (.int (i.fmod j)) st := rfl
@[simp] theorem pow_i {i j : Int} : binD .pow (.int i) (.int j) st = okIf (powFit i j) (.int (i ^ j.toNat)) st := rfl
@[simp] theorem add_t {a b : List D} : binD .add (.tup a) (.tup b) st = okIf (a.length + b.length ≤ sizeLine) (.tup (a ++ b)) st := rfl
@[simp] theorem aug_i {i j : Int} : augD .add (.int i) (.int j) st = .ok (.int (i + j)) st := rfl
@[simp] theorem augs_i {i j : Int} : augD .sub (.int i) (.int j) st = .ok (.int (i - j)) st := rfl
@[simp] theorem lt_i {i j : Int} : cmpD .lt (.int i) (.int j) st = .ok (.bl (decide (i < j))) st := rfl
@[simp] theorem le_i {i j : Int} : cmpD .le (.int i) (.int j) st = .ok (.bl (decide (i ≤ j))) st := rfl
@[simp] theorem gt_i {i j : Int} : cmpD .gt (.int i) (.int j) st = .ok (.bl (decide (j < i))) st := rfl
@[simp] theorem ge_i {i j : Int} : cmpD .ge (.int i) (.int j) st = .ok (.bl (decide (j ≤ i))) st := rfl
@[simp] theorem isN_ {x : D} : cmpD .isN x .non st = .ok (.bl (isNonD x)) st := rfl
@[simp] theorem notN_ {x : D} : cmpD .notN x .non st = .ok (.bl !(isNonD x)) st := rfl
@[simp] theorem isNon_n : isNonD .non = true := rfl
@[simp] theorem isNon_i {i : Int} : isNonD (.int i) = false := rfl
@[simp] theorem isNon_b {i : Bool} : isNonD (.bl i) = false := rfl
@[simp] theorem isNon_s {i : List Nat} : isNonD (.str i) = false := rfl
@[simp] theorem isNon_t {i : List D} : isNonD (.tup i) = false := rfl
@[simp] theorem isNon_l {i : Nat} : isNonD (.loc i) = false := rfl
theorem eq_ {x y : D} {b : Bool} (h : eqD st x y = some b) : cmpD .eq x y st = .ok (.bl b) st := by show okO (eqD st x y) D.bl st = _; rw [h]; rfl
theorem ne_ {x y : D} {b : Bool} (h : eqD st x y = some b) : cmpD .ne x y st = .ok (.bl !b) st := by show okO (eqD st x y) (fun b => D.bl !b) st = _; rw [h]; rfl
@[simp] theorem isi_ii {i : Int} : isiD (.int i) .int = some true := rfl
@[simp] theorem isi_is {i : Int} : isiD (.int i) .str = some false := rfl
@[simp] theorem isi_ib {i : Int} : isiD (.int i) .bool = some false := rfl
@[simp] theorem isi_it {i : Int} : isiD (.int i) .tuple = some false := rfl
@[simp] theorem isi_il {i : Int} : isiD (.int i) .list = some false := rfl
@[simp] theorem isi_tt {i : List D} : isiD (.tup i) .tuple = some true := rfl
@[simp] theorem isi_ti {i : List D} : isiD (.tup i) .int = some false := rfl
@[simp] theorem isi_ts {i : List D} : isiD (.tup i) .str = some false := rfl
@[simp] theorem isi_ss {i : List Nat} : isiD (.str i) .str = some true := rfl
@[simp] theorem isi_st {i : List Nat} : isiD (.str i) .tuple = some false := rfl
@[simp] theorem isi_si {i : List Nat} : isiD (.str i) .int = some false := rfl
@[simp] theorem isi_nt : isiD .non .tuple = some false := rfl
/-- the same integers -/
@[simp] theorem eq_ii {i j : Int} : eqD st (.int i) (.int j) = some (decide (i = j)) := by
  show (if SeqAt.shaped (.int i) = true ∧ SeqAt.shaped (.int j) = true then some (PyData.eqv (.int i) (.int j)) else none) = _
  rw [if_pos ⟨by rfl, by rfl⟩]
  congr 1
@[simp] theorem ceq_ii {i j : Int} : cmpD .eq (.int i) (.int j) st = .ok (.bl (decide (i = j))) st := eq_ eq_ii
@[simp] theorem cne_ii {i j : Int} : cmpD .ne (.int i) (.int j) st = .ok (.bl !(decide (i = j))) st := ne_ eq_ii
/-! sequences -/
@[simp] theorem len_t {ds : List D} : biD .len [.tup ds] st = .ok (.int ds.length) st := rfl
@[simp] theorem len_f {ds : List D} : biD .len [.frz ds] st = .ok (.int ds.length) st := rfl
theorem len_l {n : Nat} {ds : List D} (h : lstAt st n = some ds) : biD .len [.loc n] st = .ok (.int ds.length) st := by
  show (match items st (.loc n) with | some ds => biL .len ds st | none => .stuck) = _
  have : items st (.loc n) = some ds := h
  rw [this]; rfl
@[simp] theorem tuple_t {ds : List D} : biD .tuple [.tup ds] st = .ok (.tup ds) st := rfl
theorem tuple_l {n : Nat} {ds : List D} (h : lstAt st n = some ds) : biD .tuple [.loc n] st = .ok (.tup ds) st := by
  show (match items st (.loc n) with | some ds => biL .tuple ds st | none => .stuck) = _
  have : items st (.loc n) = some ds := h
  rw [this]; rfl
@[simp] theorem list_t {ds : List D} : biD .list [.tup ds] st = .ok (.loc st.length) (st ++ [.lst ds]) := rfl
@[simp] theorem max_i {i j : Int} : biD .max2 [.int i, .int j] st = .ok (.int (if j > i then j else i)) st := rfl
@[simp] theorem min_i {i j : Int} : biD .min2 [.int i, .int j] st = .ok (.int (if j < i then j else i)) st := rfl
@[simp] theorem int_b {k : Bool} : biD .int [.bl k] st = .ok (.int (if k then 1 else 0)) st := rfl
@[simp] theorem abs_i {i : Int} : biD .abs [.int i] st = .ok (.int (if i < 0 then -i else i)) st := rfl
@[simp] theorem biL_tuple {ds : List D} : biL .tuple ds st = .ok (.tup ds) st := rfl
@[simp] theorem biL_len {ds : List D} : biL .len ds st = .ok (.int ds.length) st := rfl
theorem atI_of {α : Type} {ds : List α} {k : Int} {x : α} (h0 : 0 ≤ k) (h : ds[k.toNat]? = some x) : atI ds k = some x := by
  have hl : k.toNat < ds.length := (List.getElem?_eq_some_iff.mp h).1
  unfold atI ixN
  rw [if_pos h0, if_pos (by omega)]
  exact h
theorem sub_t {ds : List D} {k : Int} {x : D} (h : atI ds k = some x) : subD (.tup ds) (.int k) st = .ok x st := by
  show okO (atI ds k) id st = _
  rw [h]; rfl
theorem sub_f {ds : List D} {k : Int} {x : D} (h : atI ds k = some x) : subD (.frz ds) (.int k) st = .ok x st := by
  show okO (atI ds k) id st = _
  rw [h]; rfl
theorem sub_l {n : Nat} {ds : List D} {k : Int} {x : D} (hl : lstAt st n = some ds) (h : atI ds k = some x) : subD (.loc n) (.int k) st = .ok x st := by
  have e : items st (.loc n) = some ds := hl
  show (match items st (.loc n) with | some ds => okO (atI ds k) id st | none => _) = _
  rw [e]
  show okO (atI ds k) id st = _
  rw [h]; rfl
@[simp] theorem lstAt_cons0 {ds : List D} {r : Sto} : lstAt (.lst ds :: r) 0 = some ds := rfl
@[simp] theorem lstAt_succ {o : O} {r : Sto} {n : Nat} : lstAt (o :: r) (n + 1) = lstAt r n := rfl
@[simp] theorem insAt_cons0 {c : Nat} {fs : List (Nat × D)} {r : Sto} : insAt (.ins c fs :: r) 0 c = some fs := by simp [insAt]
@[simp] theorem insAt_succ {o : O} {r : Sto} {n c : Nat} : insAt (o :: r) (n + 1) c = insAt r n c := rfl
theorem lstAt_set {n : Nat} {ds : List D} (h : n < st.length) : lstAt (st.set n (.lst ds)) n = some ds := by
  unfold lstAt; rw [List.getElem?_set_self h]
theorem lstAt_ne {n m : Nat} {o : O} (h : n ≠ m) : lstAt (st.set n o) m = lstAt st m := by
  unfold lstAt; rw [List.getElem?_set_ne h]
theorem lstAt_lt {n : Nat} {ds : List D} (h : lstAt st n = some ds) : n < st.length := by
  unfold lstAt at h
  by_cases hn : n < st.length
  · exact hn
  · rw [List.getElem?_eq_none (by omega)] at h; cases h
theorem lstAt_app {n : Nat} {r : Sto} (h : n < st.length) : lstAt (st ++ r) n = lstAt st n := by
  unfold lstAt; rw [List.getElem?_append_left h]
@[simp] theorem lstAt_new {ds : List D} : lstAt (st ++ [.lst ds]) st.length = some ds := by unfold lstAt; simp
theorem selfD_of' {n c : Nat} {fs : List (Nat × D)} {k : Sto → R D} (h : insAt st n c = some fs) : selfD c (.loc n) st k = k st := by
  show (match insAt st n c with | some _ => k st | none => .stuck) = _
  rw [h]
theorem onLst_of' {n : Nat} {ds : List D} {k : Sto → R D} (h : lstAt st n = some ds) : onLst (.loc n) st k = k st := by
  show (match lstAt st n with | some _ => k st | none => .stuck) = _
  rw [h]
theorem fld_of {n c f : Nat} {fs : List (Nat × D)} {x : D} (h : insAt st n c = some fs) (hf : fs.lookup f = some x) : fldD (.loc n) c f st = .ok x st := by
  show (match insAt st n c with | some fs => okO (fs.lookup f) id st | none => .stuck) = _
  rw [h]
  show okO (fs.lookup f) id st = _
  rw [hf]; rfl
theorem setFld_of {n c f : Nat} {fs : List (Nat × D)} {v : D} (h : insAt st n c = some fs) (hl : fs.length < 1000) : setFldD (.loc n) c f v st = .ok () (st.set n (.ins c (putN f v fs))) := by
  show (match insAt st n c with | some fs => if fs.length < 1000 then R.ok () (st.set n (.ins c (putN f v fs))) else .stuck | none => .stuck) = _
  rw [h]
  exact if_pos hl
theorem bm_of {b : Bm} {n : Nat} {ds xs : List D} (h : lstAt st n = some ds) : bmD b (.loc n) xs st = bmL b n ds xs st := by
  show (match lstAt st n with | some ds => bmL b n ds xs st | none => .stuck) = _
  rw [h]
theorem append_of {n : Nat} {ds : List D} {y : D} (h : ds.length < sizeLine) : bmL .append n ds [y] st = .ok .non (st.set n (.lst (ds ++ [y]))) := if_pos h
theorem setSub_of {n : Nat} {k : Int} {ds : List D} {v : D} (h : lstAt st n = some ds) (h0 : 0 ≤ k) (h1 : k.toNat < ds.length) : setSubD (.loc n) (.int k) v st = .ok () (st.set n (.lst (ds.set k.toNat v))) := by
  show (match lstAt st n with | some ds => (match ixN ds.length k with | some j => R.ok () (st.set n (.lst (ds.set j v))) | none => .stuck) | none => .stuck) = _
  rw [h]
  show (match ixN ds.length k with | some j => R.ok () (st.set n (.lst (ds.set j v))) | none => .stuck) = _
  unfold ixN
  rw [if_pos h0, if_pos (by omega)]
theorem subLst_of {n : Nat} {k : Int} {ds : List D} {x : D} (h : lstAt st n = some ds) (h1 : atI ds k = some x) : subLst (.loc n) (.int k) st = .ok x st := by
  show (match lstAt st n with | some ds => okO (atI ds k) id st | none => .stuck) = _
  rw [h]
  show okO (atI ds k) id st = _
  rw [h1]; rfl
/-! by looking -/
@[simp] theorem sub_loc {n : Nat} {k : Int} : subD (.loc n) (.int k) st = match lstAt st n with | some ds => okO (atI ds k) id st | none => .stuck := by
  show (match items st (.loc n) with | some ds => okO (atI ds k) id st | none => R.stuck) = _
  rfl
@[simp] theorem sub_tup {ds : List D} {k : Int} : subD (.tup ds) (.int k) st = okO (atI ds k) id st := rfl
@[simp] theorem sub_frz {ds : List D} {k : Int} : subD (.frz ds) (.int k) st = okO (atI ds k) id st := rfl
@[simp] theorem len_loc {n : Nat} : biD .len [.loc n] st = match lstAt st n with | some ds => .ok (.int ds.length) st | none => .stuck := rfl
@[simp] theorem tuple_loc {n : Nat} : biD .tuple [.loc n] st = match lstAt st n with | some ds => .ok (.tup ds) st | none => .stuck := rfl
@[simp] theorem onLst_loc {n : Nat} {k : Sto → R D} : onLst (.loc n) st k = match lstAt st n with | some _ => k st | none => .stuck := rfl
@[simp] theorem selfD_loc {n c : Nat} {k : Sto → R D} : selfD c (.loc n) st k = match insAt st n c with | some _ => k st | none => .stuck := rfl
@[simp] theorem fldD_loc {n c f : Nat} : fldD (.loc n) c f st = match insAt st n c with | some fs => okO (fs.lookup f) id st | none => .stuck := rfl
@[simp] theorem setFldD_loc {n c f : Nat} {v : D} : setFldD (.loc n) c f v st = match insAt st n c with | some fs => if fs.length < 1000 then .ok () (st.set n (.ins c (putN f v fs))) else .stuck | none => .stuck := rfl
@[simp] theorem bmD_loc {b : Bm} {n : Nat} {xs : List D} : bmD b (.loc n) xs st = match lstAt st n with | some ds => bmL b n ds xs st | none => .stuck := rfl
@[simp] theorem setSubD_loc {n : Nat} {k : Int} {v : D} : setSubD (.loc n) (.int k) v st = match lstAt st n with | some ds => (match ixN ds.length k with | some j => .ok () (st.set n (.lst (ds.set j v))) | none => .stuck) | none => .stuck := rfl
@[simp] theorem subLst_loc {n : Nat} {k : Int} : subLst (.loc n) (.int k) st = match lstAt st n with | some ds => okO (atI ds k) id st | none => .stuck := rfl
@[simp] theorem itVal_loc {n : Nat} : itVal (.loc n) st = match lstAt st n with | some ds => .ok ⟨ds, [(n, ds)]⟩ st | none => .stuck := rfl
@[simp] theorem itVal_tup {ds : List D} : itVal (.tup ds) st = .ok ⟨ds, []⟩ st := rfl
@[simp] theorem itVal_frz {ds : List D} : itVal (.frz ds) st = .ok ⟨ds, []⟩ st := rfl
@[simp] theorem itSeq_tup {ds : List D} : itSeq (.tup ds) st = .ok ⟨ds, []⟩ st := rfl
@[simp] theorem itSeq_loc {n : Nat} : itSeq (.loc n) st = match lstAt st n with | some ds => .ok ⟨ds, [(n, ds)]⟩ st | none => .stuck := rfl
@[simp] theorem itZip_two {x y : D} : itZip [x, y] st = (itSeq x st).bind fun a st1 => (itSeq y st1).bind fun b st2 => .ok ⟨(a.ds.zip b.ds).map fun p => .tup [p.1, p.2], a.live ++ b.live⟩ st2 := rfl
@[simp] theorem itRange_one {j : Int} : itRange [.int j] st = okIf (rgOk j) ⟨(List.range j.toNat).map fun i => D.int (i : Nat), []⟩ st := rfl
@[simp] theorem itRange_two {i j : Int} : itRange [.int i, .int j] st = okIf (rgOk i ∧ rgOk j) ⟨(List.range (j - i).toNat).map fun k => D.int (i + (k : Nat)), []⟩ st := rfl
@[simp] theorem live_nil : liveOk [] st ↔ True := ⟨fun _ => trivial, fun _ p h => by cases h⟩
theorem atI_eq {α : Type} {ds : List α} {k : Int} (h0 : 0 ≤ k) : atI ds k = ds[k.toNat]? := by
  unfold atI ixN
  rw [if_pos h0]
  by_cases h : k < ds.length
  · rw [if_pos h]; rfl
  · rw [if_neg h, List.getElem?_eq_none (by omega)]; rfl
theorem ixN_eq {n : Nat} {k : Int} (h0 : 0 ≤ k) (h : k < n) : ixN n k = some k.toNat := by
  unfold ixN
  rw [if_pos h0, if_pos h]
theorem append_eq {n : Nat} {ds : List D} {y : D} : bmL .append n ds [y] st = if ds.length < sizeLine then .ok .non (st.set n (.lst (ds ++ [y]))) else .stuck := rfl
theorem pop_eq {n : Nat} {ds : List D} : bmL .pop n ds [] st = match ds[ds.length - 1]? with | some y => .ok y (st.set n (.lst ds.dropLast)) | none => .stuck := rfl
@[simp] theorem sz_0 : (0 : Nat) ≤ sizeLine := by decide
@[simp] theorem sz_1 : (1 : Nat) ≤ sizeLine := by decide
@[simp] theorem sz_2 : (2 : Nat) ≤ sizeLine := by decide
@[simp] theorem sz_3 : (3 : Nat) ≤ sizeLine := by decide
@[simp] theorem sz_4 : (4 : Nat) ≤ sizeLine := by decide
@[simp] theorem sz_5 : (5 : Nat) ≤ sizeLine := by decide
@[simp] theorem sz_6 : (6 : Nat) ≤ sizeLine := by decide
@[simp] theorem sz_7 : (7 : Nat) ≤ sizeLine := by decide
@[simp] theorem sz_8 : (8 : Nat) ≤ sizeLine := by decide
@[simp] theorem sz_9 : (9 : Nat) ≤ sizeLine := by decide
@[simp] theorem sz_10 : (10 : Nat) ≤ sizeLine := by decide
@[simp] theorem sz_11 : (11 : Nat) ≤ sizeLine := by decide
@[simp] theorem sz_12 : (12 : Nat) ≤ sizeLine := by decide
@[simp] theorem lk_hit {k : Nat} {v : D} {r : List (Nat × D)} : List.lookup k ((k, v) :: r) = some v := by simp [List.lookup]
@[simp] theorem lk_miss {k j : Nat} {v : D} {r : List (Nat × D)} (h : ¬ k = j) : List.lookup k ((j, v) :: r) = List.lookup k r := by
  have e : (k == j) = false := by simp [h]
  simp [List.lookup, e]
/-! a def -/
theorem den_def {np n : Nat} {b : S} {args : List D} (h : args.length = np) : denDef np n b args st = finish st (denS b (args.map some ++ List.replicate (n - np) none) st) := if_pos h
@[simp] theorem den_0 {n : Nat} {b : S} : denDef 0 n b [] st = finish st (denS b (List.replicate (n - 0) none) st) := if_pos rfl
@[simp] theorem den_1 {n : Nat} {b : S} {x : D} : denDef 1 n b [x] st = finish st (denS b (some x :: List.replicate (n - 1) none) st) := if_pos rfl
@[simp] theorem den_2 {n : Nat} {b : S} {x y : D} : denDef 2 n b [x, y] st = finish st (denS b (some x :: some y :: List.replicate (n - 2) none) st) := if_pos rfl
@[simp] theorem den_3 {n : Nat} {b : S} {x y z : D} : denDef 3 n b [x, y, z] st = finish st (denS b (some x :: some y :: some z :: List.replicate (n - 3) none) st) := if_pos rfl
@[simp] theorem den_4 {n : Nat} {b : S} {x y z w : D} : denDef 4 n b [x, y, z, w] st = finish st (denS b (some x :: some y :: some z :: some w :: List.replicate (n - 4) none) st) := if_pos rfl
@[simp] theorem rep_0 {α : Type} {a : α} : List.replicate 0 a = [] := rfl
@[simp] theorem rep_s {α : Type} {a : α} {n : Nat} : List.replicate (n + 1) a = a :: List.replicate n a := rfl
@[simp] theorem fin_rt {d : D} {st0 : Sto} : finish st0 (.rt d st) = gc st0 d st := rfl
@[simp] theorem fin_nx {st0 : Sto} : finish st0 (.nx ρ st) = gc st0 .non st := rfl
@[simp] theorem fin_exc {st0 : Sto} {c : Nat} {x : Option D} : finish st0 (.exc c x ρ st) = gcx st0 c x st := rfl
theorem keep_refl : Keep st st := fun _ _ => .inl rfl
theorem keep_app {r : Sto} : Keep st (st ++ r) := fun _ h => .inl (List.getElem?_append_left h)
theorem keep_set {st0 : Sto} {i : Nat} {o : O} (h : Keep st0 st) (hc : closedO st0.length o = true) (hl : st0.length ≤ st.length) : Keep st0 (st.set i o) := fun k hk => by
  by_cases e : i = k
  · subst e; exact .inr ⟨o, List.getElem?_set_self (by omega), hc⟩
  · rw [List.getElem?_set_ne e]; exact h k hk
theorem keep_push {st0 : Sto} {o : O} (h : Keep st0 st) (hl : st0.length ≤ st.length) : Keep st0 (st ++ [o]) := fun k hk => by
  rw [List.getElem?_append_left (by omega)]; exact h k hk
def KN (n : Nat) : Sto → Sto → Prop
  | [], _ => True
  | o :: r, o' :: r' => (o' = o ∨ closedO n o' = true) ∧ KN n r r'
  | _ :: _, [] => False
theorem kn_refl {n : Nat} : ∀ {s : Sto}, KN n s s
  | [] => trivial
  | _ :: _ => ⟨.inl rfl, kn_refl⟩
theorem kn_at {n : Nat} : ∀ {a b : Sto} {k : Nat}, KN n a b → k < a.length → b[k]? = a[k]? ∨ ∃ o, b[k]? = some o ∧ closedO n o = true
  | [], _, _, _, h => by cases h
  | o :: r, [], _, h, _ => h.elim
  | o :: r, o' :: r', 0, h, _ => h.1.elim (fun e => .inl (by simp [e])) fun e => .inr ⟨o', rfl, e⟩
  | o :: r, o' :: r', k + 1, h, hk => kn_at (k := k) h.2 (by simpa using hk)
theorem keep_of {st0 : Sto} (h : KN st0.length st0 st) : Keep st0 st := fun _ hk => kn_at h hk
@[simp] theorem cut_tup {ds : List D} {lo hi : Option Int} : cutD (.tup ds) lo hi st = .ok (.tup (cutL ds lo hi)) st := rfl
@[simp] theorem cut_frz {ds : List D} {lo hi : Option Int} : cutD (.frz ds) lo hi st = .ok (.loc st.length) (st ++ [.lst (cutL ds lo hi)]) := rfl
theorem cut_to {α : Type} {ds : List α} {k : Int} (h0 : 0 ≤ k) : cutL ds none (some k) = ds.take k.toNat := by
  unfold cutL
  have e : HT.sIx ds.length 0 none = 0 := rfl
  have e2 : HT.sIx ds.length ds.length (some k) = min k.toNat ds.length := by
    show (if k < 0 then _ else min k.toNat ds.length) = _
    rw [if_neg (by omega)]
  rw [e, e2, List.drop_zero, Nat.sub_zero]
  by_cases h : k.toNat ≤ ds.length
  · rw [Nat.min_eq_left h]
  · rw [Nat.min_eq_right (by omega), List.take_length, List.take_of_length_le (by omega)]
theorem cut_from {α : Type} {ds : List α} {k : Int} (h0 : 0 ≤ k) : cutL ds (some k) none = ds.drop k.toNat := by
  unfold cutL
  have e : HT.sIx ds.length ds.length none = ds.length := rfl
  have e2 : HT.sIx ds.length 0 (some k) = min k.toNat ds.length := by
    show (if k < 0 then _ else min k.toNat ds.length) = _
    rw [if_neg (by omega)]
  rw [e, e2]
  by_cases h : k.toNat ≤ ds.length
  · rw [Nat.min_eq_left h, List.take_of_length_le (by simp)]
  · rw [Nat.min_eq_right (by omega), List.drop_length, List.drop_eq_nil_of_le (by omega)]; simp
/-- a plain value is handed out, what was made is dropped -/
theorem gc_val {st0 : Sto} {d : D} (k : Keep st0 st) (c : closedD st0.length d = true) : gc st0 d st = .ok d (st.take st0.length) := by
  unfold gc
  rw [if_pos k, if_pos c]
theorem gc_same {st0 : Sto} {d : D} (k : Keep st0 st) (c : closedD st0.length d = true) (hl : st.length = st0.length) : gc st0 d st = .ok d st := by
  rw [gc_val k c, ← hl, List.take_length]
theorem gc_app {st0 : Sto} {d : D} {r : Sto} (k : Keep st0 st) (hl : st.length = st0.length) (c : closedD st0.length d = true) : gc st0 d (st ++ r) = .ok d st := by
  rw [gc_val (fun n hn => by rw [List.getElem?_append_left (by omega)]; exact k n hn) c, ← hl, List.take_append, List.take_length]; simp
/-- a new list is handed out -/
theorem gc_list {st0 : Sto} {k : Nat} {ds : List D} (h : Keep st0 st) (hk : st0.length ≤ k) (hl : lstAt st k = some ds) (c : closedDs st0.length ds = true) : gc st0 (.loc k) st = .ok (.loc st0.length) (st.take st0.length ++ [.lst ds]) := by
  unfold gc
  rw [if_pos h, if_neg (by intro z; have := of_decide_eq_true z; omega)]
  dsimp only
  rw [hl]
  exact if_pos c
theorem gc_new {st0 : Sto} {ds : List D} (c : closedDs st0.length ds = true) : gc st0 (.loc st0.length) (st0 ++ [.lst ds]) = .ok (.loc st0.length) (st0 ++ [.lst ds]) := by
  rw [gc_list keep_app (Nat.le_refl _) lstAt_new c, List.take_append, List.take_length]; simp
theorem lstAt_appk {s t : Sto} {k : Nat} : lstAt (s ++ t) (s.length + k) = lstAt t k := by
  unfold lstAt; rw [List.getElem?_append_right (by omega), Nat.add_sub_cancel_left]
theorem lstAt_app0 {s t : Sto} : lstAt (s ++ t) s.length = lstAt t 0 := lstAt_appk (k := 0)
theorem gc_fresh {s t : Sto} {k : Nat} {ds : List D} (h : lstAt t k = some ds) (c : closedDs s.length ds = true) : gc s (.loc (s.length + k)) (s ++ t) = .ok (.loc s.length) (s ++ [.lst ds]) := by
  rw [gc_list keep_app (by omega) (by rw [lstAt_appk]; exact h) c, List.take_append, List.take_length]; simp
theorem gcx_same {st0 : Sto} {c : Nat} {x : Option D} (k : Keep st0 st) (h : ∀ d, x = some d → closedD st0.length d = true) (hl : st.length = st0.length) : gcx st0 c x st = .exc c x st := by
  unfold gcx
  rw [if_pos ⟨k, h⟩, ← hl, List.take_length]
end
/-! whiles -/
theorem whileN_add {c : Env → Sto → R Bool} {b : Env → Sto → F} : ∀ {n : Nat} {ρ : Env} {st : Sto} {f : F}, whileN c b n ρ st = some f → whileN c b (n + 1) ρ st = some f := by
  intro n
  induction n with
  | zero => intro ρ st f h; cases h
  | succ n ih =>
    intro ρ st f h
    rw [whileN] at h ⊢
    split at h
    · exact h
    · rename_i st1 e1
      split at h
      · exact ih h
      all_goals exact h
    · exact h
    · exact h
theorem whileN_mono {c : Env → Sto → R Bool} {b : Env → Sto → F} {n m : Nat} {ρ : Env} {st : Sto} {f : F} (h : whileN c b n ρ st = some f) (hm : n ≤ m) : whileN c b m ρ st = some f := by
  induction hm with
  | refl => exact h
  | step _ ih => exact whileN_add ih
theorem whileF_of {c : Env → Sto → R Bool} {b : Env → Sto → F} {n : Nat} {ρ : Env} {st : Sto} {f : F} (h : whileN c b n ρ st = some f) : whileF c b ρ st = f := by
  have hex : ∃ n f, whileN c b n ρ st = some f := ⟨n, f, h⟩
  unfold whileF
  rw [dif_pos hex]
  have h2 := hex.choose_spec.choose_spec
  have a := whileN_mono h (Nat.le_max_left n hex.choose)
  have b' := whileN_mono h2 (Nat.le_max_right n hex.choose)
  rw [a] at b'
  exact (Option.some.inj b').symm
/-- one turn -/
theorem whileF_turn {c : Env → Sto → R Bool} {b : Env → Sto → F} {ρ ρ2 : Env} {st st1 st2 : Sto} {f : F} (hc : c ρ st = .ok true st1) (hb : b ρ st1 = .nx ρ2 st2) (h : whileF c b ρ2 st2 = f) (hf : f ≠ .stuck) : whileF c b ρ st = f := by
  unfold whileF at h
  by_cases hex : ∃ n f, whileN c b n ρ2 st2 = some f
  · rw [dif_pos hex] at h
    have h2 := hex.choose_spec.choose_spec
    rw [h] at h2
    refine whileF_of (n := hex.choose + 1) ?_
    rw [whileN, hc]
    dsimp only
    rw [hb]
    exact h2
  · rw [dif_neg hex] at h; exact absurd h.symm hf
theorem whileF_end {c : Env → Sto → R Bool} {b : Env → Sto → F} {ρ : Env} {st st1 : Sto} (hc : c ρ st = .ok false st1) : whileF c b ρ st = .nx ρ st1 := whileF_of (n := 1) (by rw [whileN, hc])
theorem whileF_rt {c : Env → Sto → R Bool} {b : Env → Sto → F} {ρ : Env} {st st1 st2 : Sto} {d : D} (hc : c ρ st = .ok true st1) (hb : b ρ st1 = .rt d st2) : whileF c b ρ st = .rt d st2 := whileF_of (n := 1) (by rw [whileN, hc]; dsimp only; rw [hb])
theorem whileF_bk {c : Env → Sto → R Bool} {b : Env → Sto → F} {ρ ρ2 : Env} {st st1 st2 : Sto} (hc : c ρ st = .ok true st1) (hb : b ρ st1 = .bk ρ2 st2) : whileF c b ρ st = .nx ρ2 st2 := whileF_of (n := 1) (by rw [whileN, hc]; dsimp only; rw [hb])
/-! fors -/
theorem forF_drop {t : T} {live : List (Nat × List D)} {body : Env → Sto → F} {l : List D} (I : Nat → Env → Sto → Prop)
    (step : ∀ i d ρ st, l[i]? = some d → I i ρ st → liveOk live st ∧ ∃ ρ1 ρ2 st2, asg t d ρ = some ρ1 ∧ body ρ1 st = .nx ρ2 st2 ∧ I (i + 1) ρ2 st2) (last : ∀ ρ st, I l.length ρ st → liveOk live st) :
    ∀ (m i : Nat) (ρ : Env) (st : Sto), m + i = l.length → I i ρ st → ∃ ρ' st', forF t live body (l.drop i) ρ st = .nx ρ' st' ∧ I l.length ρ' st' := by
  intro m
  induction m with
  | zero =>
    intro i ρ st hi h
    have hi' : i = l.length := by omega
    subst hi'
    rw [List.drop_length]
    exact ⟨ρ, st, by unfold forF; rw [if_pos (last ρ st h)], h⟩
  | succ m ih =>
    intro i ρ st hi h
    have hl : i < l.length := by omega
    obtain ⟨hlv, ρ1, ρ2, st2, e1, e2, h2⟩ := step i l[i] ρ st (List.getElem?_eq_getElem hl) h
    obtain ⟨ρ', st', e3, h3⟩ := ih (i + 1) ρ2 st2 (by omega) h2
    refine ⟨ρ', st', ?_, h3⟩
    rw [List.drop_eq_getElem_cons hl]
    unfold forF
    rw [if_pos hlv, e1]
    dsimp only
    rw [e2]
    exact e3
theorem forF_ix {t : T} {live : List (Nat × List D)} {body : Env → Sto → F} {l : List D} (I : Nat → Env → Sto → Prop)
    (step : ∀ i d ρ st, l[i]? = some d → I i ρ st → liveOk live st ∧ ∃ ρ1 ρ2 st2, asg t d ρ = some ρ1 ∧ body ρ1 st = .nx ρ2 st2 ∧ I (i + 1) ρ2 st2) (last : ∀ ρ st, I l.length ρ st → liveOk live st) {ρ : Env} {st : Sto} (h : I 0 ρ st) :
    ∃ ρ' st', forF t live body l ρ st = .nx ρ' st' ∧ I l.length ρ' st' := by
  have := forF_drop I step last l.length 0 ρ st (by omega) h
  rwa [List.drop_zero] at this
theorem compL_drop {t : T} {live : List (Nat × List D)} {elt : Env → Sto → R D} {ρ : Env} {l : List D} (I : Nat → Sto → Prop) (Y : Nat → D → Prop)
    (step : ∀ i d st, l[i]? = some d → I i st → liveOk live st ∧ ∃ ρ' y st', asg t d (wipeE ρ t.slots) = some ρ' ∧ elt ρ' st = .ok y st' ∧ I (i + 1) st' ∧ Y i y) (last : ∀ st, I l.length st → liveOk live st) :
    ∀ (m i : Nat) (st : Sto), m + i = l.length → I i st → ∃ ys st', compL t live (fun _ st => .ok true st) elt ρ (l.drop i) st = .ok ys st' ∧ ys.length = m ∧ (∀ j y, ys[j]? = some y → Y (i + j) y) ∧ I l.length st' := by
  intro m
  induction m with
  | zero =>
    intro i st hi h
    have hi' : i = l.length := by omega
    subst hi'
    rw [List.drop_length]
    exact ⟨[], st, by unfold compL; rw [if_pos (last st h)], rfl, (by intro j y hj; cases hj), h⟩
  | succ m ih =>
    intro i st hi h
    have hl : i < l.length := by omega
    obtain ⟨hlv, ρ', y, st2, e1, e2, h2, hy⟩ := step i l[i] st (List.getElem?_eq_getElem hl) h
    obtain ⟨ys, st', e3, hlen, hys, h3⟩ := ih (i + 1) st2 (by omega) h2
    refine ⟨y :: ys, st', ?_, by simp [hlen], fun j z hj => ?_, h3⟩
    · rw [List.drop_eq_getElem_cons hl]
      unfold compL
      rw [if_pos hlv, e1]
      simp only [R.quiet, R.bind_ok, e2, e3]
    · cases j with
      | zero => simp at hj; subst hj; exact hy
      | succ j => simp at hj; have := hys j z hj; rwa [show i + 1 + j = i + (j + 1) by omega] at this
theorem compD_ix {t : T} {live : List (Nat × List D)} {elt : Env → Sto → R D} {ρ : Env} {l : List D} {st : Sto} (I : Nat → Sto → Prop) (Y : Nat → D → Prop) (hz : l.length ≤ sizeLine)
    (step : ∀ i d st, l[i]? = some d → I i st → liveOk live st ∧ ∃ ρ' y st', asg t d (wipeE ρ t.slots) = some ρ' ∧ elt ρ' st = .ok y st' ∧ I (i + 1) st' ∧ Y i y) (last : ∀ st, I l.length st → liveOk live st) (h : I 0 st) :
    ∃ ys st', compD t (.ok ⟨l, live⟩ st) (fun _ st => .ok true st) elt ρ = .ok ys st' ∧ ys.length = l.length ∧ (∀ j y, ys[j]? = some y → Y j y) ∧ I l.length st' := by
  obtain ⟨ys, st', e, h1, h2, h3⟩ := compL_drop (t := t) (ρ := ρ) I Y step last l.length 0 st (by omega) h
  rw [List.drop_zero] at e
  refine ⟨ys, st', ?_, h1, (by intro j y hj; have := h2 j y hj; rwa [Nat.zero_add] at this), h3⟩
  unfold compD
  rw [R.bind_ok]
  show (if l.length ≤ sizeLine then compL t live (fun _ st => .ok true st) elt ρ l st else .stuck) = _
  rw [if_pos hz]
  exact e
@[simp] theorem wipe_nil {ρ : Env} : wipeE ρ [] = ρ := rfl
@[simp] theorem wipe_cons {ρ : Env} {v : Nat} {vs : List Nat} : wipeE ρ (v :: vs) = (wipeE ρ vs).set v none := rfl
@[simp] theorem slots_one {i : Nat} : (T.one i).slots = [i] := rfl
@[simp] theorem slots_tup {l : T} : (T.tup l).slots = l.slots := rfl
@[simp] theorem slots_nil : T.nil.slots = [] := rfl
@[simp] theorem slots_cons {a r : T} : (T.cons a r).slots = a.slots ++ r.slots := rfl
/-! plain values -/
mutual
theorem closed_mono {m n : Nat} (h : m ≤ n) : ∀ (d : D), closedD m d = true → closedD n d = true
  | .non, _ => rfl
  | .bl _, _ => rfl
  | .int _, _ => rfl
  | .str _, _ => rfl
  | .tup ds, c => closeds_mono h ds c
  | .frz ds, c => closeds_mono h ds c
  | .loc k, c => decide_eq_true (Nat.lt_of_lt_of_le (of_decide_eq_true c) h)
theorem closeds_mono {m n : Nat} (h : m ≤ n) : ∀ (ds : List D), closedDs m ds = true → closedDs n ds = true
  | [], _ => rfl
  | d :: ds, c => by
    have c' : (closedD m d && closedDs m ds) = true := c
    rw [Bool.and_eq_true] at c'
    show (closedD n d && closedDs n ds) = true
    rw [closed_mono h d c'.1, closeds_mono h ds c'.2]; rfl
end
@[simp] theorem closedDs_nil {n : Nat} : closedDs n [] = true := rfl
@[simp] theorem closedDs_cons {n : Nat} {d : D} {ds : List D} : closedDs n (d :: ds) = (closedD n d && closedDs n ds) := rfl
@[simp] theorem closedD_int {n : Nat} {i : Int} : closedD n (.int i) = true := rfl
@[simp] theorem closedD_bl {n : Nat} {i : Bool} : closedD n (.bl i) = true := rfl
@[simp] theorem closedD_non {n : Nat} : closedD n .non = true := rfl
@[simp] theorem closedD_str {n : Nat} {x : List Nat} : closedD n (.str x) = true := rfl
@[simp] theorem closedD_tup {n : Nat} {ds : List D} : closedD n (.tup ds) = closedDs n ds := rfl
@[simp] theorem closedD_frz {n : Nat} {ds : List D} : closedD n (.frz ds) = closedDs n ds := rfl
@[simp] theorem closedD_loc {n k : Nat} : closedD n (.loc k) = decide (k < n) := rfl
@[simp] theorem closedO_lst {n : Nat} {ds : List D} : closedO n (.lst ds) = closedDs n ds := rfl
@[simp] theorem closedO_ins {n c : Nat} {fs : List (Nat × D)} : closedO n (.ins c fs) = closedDs n (fs.map (·.2)) := rfl
@[simp] theorem closedDs_app {n : Nat} {a b : List D} : closedDs n (a ++ b) = (closedDs n a && closedDs n b) := by
  induction a with
  | nil => simp
  | cons d a ih => simp [ih, Bool.and_assoc]
theorem closedDs_all {n : Nat} {ds : List D} : closedDs n ds = true ↔ ∀ d ∈ ds, closedD n d = true := by
  induction ds with
  | nil => simp
  | cons d a ih => simp [ih]
theorem closedDs_ints {n : Nat} (l : List Int) : closedDs n (l.map .int) = true := by
  rw [closedDs_all]
  intro d hd
  obtain ⟨i, _, rfl⟩ := List.mem_map.mp hd
  rfl
end M1
namespace M1
open PySem PySem.Spec L2
/-! ### the pool of drawn numbers -/
def bits (i : Int) : Nat := i.natAbs.log2
theorem log2_lt {n k : Nat} (h : n < 2 ^ k) (hk : 0 < k) : n.log2 < k := by
  by_cases h0 : n = 0
  · subst h0; simpa using hk
  · exact (Nat.log2_lt h0).mpr h
/-- what a script's numbers keep -/
def Small (i : Int) : Prop := i.natAbs < 2 ^ 1048577
/-- a pool's list -/
structure Pool (ns : List Int) (b : Nat) (q : List D) : Prop where
  ex : ∃ (rest stir cnt : Int), q = [.frz (ns.map .int), .int rest, .int stir, .int cnt] ∧ Small rest ∧ 0 ≤ stir ∧ stir < 2 ^ 40 ∧ 0 ≤ cnt ∧ cnt ≤ b
theorem mulFit_of {i j : Int} {a b : Nat} (h1 : i.natAbs < 2 ^ a) (h2 : j.natAbs < 2 ^ b) (ha : 0 < a) (hb : 0 < b) (h : a + b < 100000000) : mulFit i j := by
  have := log2_lt h1 ha
  have := log2_lt h2 hb
  unfold mulFit; omega
theorem small0 : Small 0 := Nat.two_pow_pos _
theorem pf_10_18 : powFit 10 18 := by unfold powFit; decide +kernel
theorem pool_closed {ns : List Int} {b n : Nat} {q : List D} (h : Pool ns b q) : closedDs n q = true := by
  obtain ⟨r, s, c, rfl, _⟩ := h
  simp [closedDs_ints]
theorem f_pool_ok {ns : List Int} (hs : ∀ z ∈ ns, Small z) {at_ : Nat} (ha : at_ < 2 ^ 30) {st : Sto} : ∃ q, Pool ns 0 q ∧ f_w_pool [.frz (ns.map .int), .int at_] st = .ok (.loc st.length) (st ++ [.lst q]) := by
  unfold f_w_pool
  by_cases h : at_ < ns.length
  · have hc : ns[at_]? = some ns[at_] := List.getElem?_eq_getElem h
    generalize ns[at_] = c at hc
    have hm : c ∈ ns := List.mem_of_getElem? hc
    have hx : atI (ns.map D.int) (at_ : Int) = some (.int c) := atI_of (by omega) (by simp [hc])
    by_cases h2 : (1000000000000000000 : Int) ≤ c
    · have hP : Pool ns 0 [.frz (ns.map .int), .int c, .int (7 + at_), .int 0] := ⟨_, _, _, rfl, hs c hm, by omega, by omega, by omega, by omega⟩
      refine ⟨_, hP, ?_⟩
      simp [b_w_pool, sub_f hx, h, pf_10_18, h2, sizeLine, okL_pos]
      exact gc_new (pool_closed hP)
    · have hP : Pool ns 0 [.frz (ns.map .int), .int 0, .int (7 + at_), .int 0] := ⟨_, _, _, rfl, small0, by omega, by omega, by omega, by omega⟩
      refine ⟨_, hP, ?_⟩
      simp [b_w_pool, sub_f hx, h, pf_10_18, h2, sizeLine, okL_pos]
      exact gc_new (pool_closed hP)
  · have hP : Pool ns 0 [.frz (ns.map .int), .int 0, .int (7 + at_), .int 0] := ⟨_, _, _, rfl, small0, by omega, by omega, by omega, by omega⟩
    refine ⟨_, hP, ?_⟩
    simp [b_w_pool, h, sizeLine, okL_pos]
    exact gc_new (pool_closed hP)
theorem small_add {i : Int} {j : Int} (h : Small i) (hj : j.natAbs < 2 ^ 90) : (i + j).natAbs < 2 ^ 1048578 := by
  have h1 : i.natAbs < 2 ^ 1048577 := h
  have h2 : (2 : Nat) ^ 90 ≤ 2 ^ 1048577 := Nat.pow_le_pow_right (by decide) (by decide)
  have h3 : (2 : Nat) ^ 1048578 = 2 ^ 1048577 + 2 ^ 1048577 := by rw [Nat.pow_succ]; omega
  rw [h3]
  generalize (2 : Nat) ^ 1048577 = m at h1 h2 ⊢
  omega
theorem small_div {i s : Int} (h : Small i) (h0 : 0 ≤ i) (hs : 0 < s) : Small (i.fdiv s) := by
  have h1 : i.natAbs < 2 ^ 1048577 := h
  show (i.fdiv s).natAbs < 2 ^ 1048577
  refine Nat.lt_of_le_of_lt ?_ h1
  have e : i.fdiv s = i / s := Int.fdiv_eq_ediv_of_nonneg _ (Int.le_of_lt hs)
  rw [e]
  have h2 : i / s ≤ i := Int.ediv_le_self s h0
  have h3 : 0 ≤ i / s := Int.ediv_nonneg h0 (Int.le_of_lt hs)
  omega
theorem pool_same {ns : List Int} {b' : Nat} {st : Sto} {p : Nat} (hp : p < st.length) {q q' : List D} (h : Pool ns b' q') {d : D} (hd : closedD (st.set p (.lst q)).length d = true) : gc (st.set p (.lst q)) d (st.set p (.lst q')) = .ok d (st.set p (.lst q')) := by
  refine gc_same (fun k hk => ?_) hd (by simp)
  by_cases e : p = k
  · subst e; exact .inr ⟨_, List.getElem?_set_self hp, pool_closed h⟩
  · exact .inl (by rw [List.getElem?_set_ne e, List.getElem?_set_ne e])
theorem next_num {stir cell c1 : Int} (h1 : 0 ≤ stir) (h2 : stir < 2 ^ 40) (h3 : Small cell) (h4 : 0 ≤ c1) (h5 : c1 ≤ 2 ^ 40) : mulFit 7 c1 ∧ mulFit (7 * c1) c1 ∧ mulFit 13 c1 ∧ mulFit (stir + cell + 7 * c1 * c1 + 13 * c1 + 5) 48271 := by
  have q1 : c1.natAbs < 2 ^ 41 := by omega
  have q2 : (7 * c1).natAbs < 2 ^ 44 := by omega
  have q3 : (7 * c1 * c1).natAbs ≤ 2 ^ 85 := by
    rw [Int.natAbs_mul]
    calc (7 * c1).natAbs * c1.natAbs ≤ 2 ^ 44 * 2 ^ 41 := Nat.mul_le_mul (by omega) (by omega)
      _ = 2 ^ 85 := by decide
  refine ⟨mulFit_of (a := 3) (b := 41) (by decide) q1 (by decide) (by decide) (by decide), mulFit_of (a := 44) (b := 41) q2 q1 (by decide) (by decide) (by decide), mulFit_of (a := 4) (b := 41) (by decide) q1 (by decide) (by decide) (by decide),
    mulFit_of (a := 1048578) (b := 16) ?_ (by decide) (by decide) (by decide) (by decide)⟩
  have e : stir + cell + 7 * c1 * c1 + 13 * c1 + 5 = cell + (stir + 7 * c1 * c1 + 13 * c1 + 5) := by omega
  rw [e]
  refine small_add h3 ?_
  generalize 7 * c1 * c1 = m at q3 ⊢
  omega
theorem mul_69621 {i : Int} (h0 : 0 ≤ i) (h1 : i < 2147483647) : mulFit i 69621 := mulFit_of (a := 31) (b := 17) (by omega) (by decide) (by decide) (by decide) (by decide)
/-- a number is drawn -/
theorem f_next_ok {ns : List Int} (hs : ∀ z ∈ ns, Small z) {b : Nat} (hb : b < 2 ^ 40) {st : Sto} {p : Nat} (hp : p < st.length) {q : List D} (hq : Pool ns b q) {size : Int} (h0 : 0 < size) (h1 : size < 2 ^ 9000) :
    ∃ v q', Pool ns (b + 1) q' ∧ 0 ≤ v ∧ v < size ∧ f_w_next [.loc p, .int size] (st.set p (.lst q)) = .ok (.int v) (st.set p (.lst q')) := by
  obtain ⟨rest, stir, cnt, rfl, hr, hs0, hs1, hc0, hc1⟩ := hq
  unfold f_w_next
  have hl := fun ds => lstAt_set (ds := ds) hp
  have hdiv : divFit size := ⟨by omega, log2_lt (by omega) (by decide)⟩
  have hne : ¬ size = 0 := by omega
  by_cases h : 0 < rest
  · have hP : Pool ns (b + 1) [.frz (ns.map .int), .int (rest.fdiv size), .int stir, .int cnt] := ⟨_, _, _, rfl, small_div hr (by omega) h0, hs0, hs1, hc0, by omega⟩
    refine ⟨rest.fmod size, _, hP, Int.fmod_nonneg_of_pos _ h0, Int.fmod_lt_of_pos _ h0, ?_⟩
    simp [b_w_next, hl, h, hdiv, hne, atI_eq, ixN_eq]
    exact pool_same (b' := b + 1) hp hP rfl
  · have fin : ∀ cell : Int, Small cell → ∃ v t : Int, 0 ≤ v ∧ v < size ∧ Pool ns (b + 1) [.frz (ns.map .int), .int rest, .int t, .int (cnt + 1)] ∧ t = ((stir + cell + 7 * (cnt + 1) * (cnt + 1) + 13 * (cnt + 1) + 5) * 48271).fmod 2147483647 ∧ v = ((t * 69621).fmod 1000000007).fmod size ∧ mulFit t 69621 := fun cell hc => by
      have t0 := Int.fmod_nonneg_of_pos ((stir + cell + 7 * (cnt + 1) * (cnt + 1) + 13 * (cnt + 1) + 5) * 48271) (show (0 : Int) < 2147483647 by decide)
      have t1 := Int.fmod_lt_of_pos ((stir + cell + 7 * (cnt + 1) * (cnt + 1) + 13 * (cnt + 1) + 5) * 48271) (show (0 : Int) < 2147483647 by decide)
      exact ⟨_, _, Int.fmod_nonneg_of_pos _ h0, Int.fmod_lt_of_pos _ h0, ⟨_, _, _, rfl, hr, t0, by omega, by omega, by omega⟩, rfl, rfl, mul_69621 t0 t1⟩
    by_cases hn : ns = []
    · subst hn
      have hc : Small (cnt + 1) := by
        show (cnt + 1).natAbs < 2 ^ 1048577
        have h2 : (2 : Nat) ^ 90 ≤ 2 ^ 1048577 := Nat.pow_le_pow_right (by decide) (by decide)
        generalize (2 : Nat) ^ 1048577 = m at h2 ⊢
        omega
      obtain ⟨v, t, v0, v1, hP, et, ev, m5⟩ := fin _ hc
      obtain ⟨m1, m2, m3, m4⟩ := next_num hs0 hs1 hc (c1 := cnt + 1) (by omega) (by omega)
      refine ⟨v, _, hP, v0, v1, ?_⟩
      simp [b_w_next, hl, h, hdiv, hne, atI_eq, ixN_eq, m1, m2, m3, m4, ← et, m5, ← ev]
      exact pool_same (b' := b + 1) hp hP rfl
    · have hpos : 0 < ns.length := List.length_pos_iff.mpr hn
      have i0 := Int.fmod_nonneg_of_pos (cnt + 1) (show (0 : Int) < ns.length by omega)
      have i1 := Int.fmod_lt_of_pos (cnt + 1) (show (0 : Int) < ns.length by omega)
      obtain ⟨cell, hcell⟩ : ∃ cell, ns[((cnt + 1).fmod ns.length).toNat]? = some cell := ⟨_, List.getElem?_eq_getElem (by omega)⟩
      have hc : Small cell := hs cell (List.mem_of_getElem? hcell)
      obtain ⟨v, t, v0, v1, hP, et, ev, m5⟩ := fin _ hc
      obtain ⟨m1, m2, m3, m4⟩ := next_num hs0 hs1 hc (c1 := cnt + 1) (by omega) (by omega)
      refine ⟨v, _, hP, v0, v1, ?_⟩
      simp [b_w_next, hl, h, hdiv, hne, atI_eq, ixN_eq, hn, hpos, i0, hcell, m1, m2, m3, m4, ← et, m5, ← ev]
      exact pool_same (b' := b + 1) hp hP rfl
end M1
namespace M1
open PySem PySem.Spec L2
theorem f_wide_ok {ns : List Int} (hs : ∀ z ∈ ns, Small z) {b : Nat} (hb : b < 2 ^ 40) {st : Sto} {p : Nat} (hp : p < st.length) {q : List D} (hq : Pool ns b q) {size : Int} (h0 : 0 < size) (h1 : size < 2 ^ 9000) :
    ∃ v q', Pool ns (b + 1) q' ∧ 0 ≤ v ∧ v < size ∧ f_w_wide [.loc p, .int size] (st.set p (.lst q)) = .ok (.int v) (st.set p (.lst q')) := by
  obtain ⟨v, q', hP, v0, v1, e⟩ := f_next_ok hs hb hp hq h0 h1
  obtain ⟨w, q2, hP2, w0, w1, e2⟩ := f_next_ok hs hb hp hq (size := 1000000007) (by decide) (by exact Int.lt_of_lt_of_le (b := 2 ^ 30) (by decide) (by exact_mod_cast Nat.pow_le_pow_right (by decide) (by decide)))
  obtain ⟨rest, stir, cnt, rfl, hr, hs0, hs1, hc0, hc1⟩ := hq
  have hl := fun ds => lstAt_set (ds := ds) hp
  have hne : ¬ size = 0 := by omega
  unfold f_w_wide
  by_cases h : 0 < rest
  · refine ⟨v, q', hP, v0, v1, ?_⟩
    simp [b_w_wide, hl, h, atI_eq, e]
    exact pool_same hp hP rfl
  · have pf : powFit (w + 3) 23 := by
      refine ⟨by decide, ?_⟩
      have : (w + 3).natAbs.log2 < 31 := log2_lt (by omega) (by decide)
      have e3 : ((2 : Int) ^ 27) = 134217728 := by decide
      omega
    refine ⟨((w + 3) ^ 23).fmod size, q2, hP2, Int.fmod_nonneg_of_pos _ h0, Int.fmod_lt_of_pos _ h0, ?_⟩
    simp [b_w_wide, hl, h, atI_eq, e2, pf, hne]
    exact pool_same hp hP2 rfl
/-! ### told alike -/
/-- a plain value of so many layers -/
def Lay : Nat → D → Prop
  | 0, _ => False
  | _ + 1, .non => True
  | _ + 1, .int _ => True
  | k + 1, .tup ds => ∀ d ∈ ds, Lay k d
  | _ + 1, _ => False
theorem zip_self {α : Type} (ds : List α) : ds.zip ds = ds.map fun d => (d, d) := by
  induction ds with
  | nil => rfl
  | cons d ds ih => simp [ih]
theorem zip_tup (ds : List D) : ((ds.zip ds).map fun p => D.tup [p.1, p.2]) = ds.map fun d => .tup [d, d] := by rw [zip_self, List.map_map]; rfl
theorem f_same_ok : ∀ (k : Nat) (d : D) (st : Sto), Lay k d → f_w_same k [d, d] st = .ok (.bl true) st
  | 0, _, _, h => h.elim
  | k + 1, .non, st, _ => by
    show denDef 2 4 (b_w_same (f_w_same k)) _ _ = _
    simp [b_w_same]
    exact gc_same keep_refl rfl rfl
  | k + 1, .int i, st, _ => by
    show denDef 2 4 (b_w_same (f_w_same k)) _ _ = _
    simp [b_w_same]
    exact gc_same keep_refl rfl rfl
  | k + 1, .tup ds, st, h => by
    have ih := fun d hd => f_same_ok k d st (h d hd)
    show denDef 2 4 (b_w_same (f_w_same k)) _ _ = _
    obtain ⟨ρ', st', e, x, y, rfl, rfl⟩ := forF_ix (t := .tup (.cons (.one 2) (.cons (.one 3) .nil))) (live := []) (body := denS (lb_w_same_1 (f_w_same k))) (l := ds.map fun d => .tup [d, d]) (ρ := [some (.tup ds), some (.tup ds), none, none]) (st := st)
      (fun _ ρ s => ∃ x y, ρ = [some (.tup ds), some (.tup ds), x, y] ∧ s = st) (fun i d ρ s hd ⟨x, y, hρ, hs⟩ => by
        subst hρ hs
        rw [List.getElem?_map] at hd
        obtain ⟨d, hd2, rfl⟩ := Option.map_eq_some_iff.mp hd
        refine ⟨live_nil.mpr trivial, [some (.tup ds), some (.tup ds), some d, some d], [some (.tup ds), some (.tup ds), some d, some d], s, by simp, ?_, _, _, rfl, rfl⟩
        simp [lb_w_same_1, ih d (List.mem_of_getElem? hd2)]) (fun _ _ _ => live_nil.mpr trivial) ⟨_, _, rfl, rfl⟩
    simp only [b_w_same]
    simp [zip_tup, e]
    exact gc_same (d := .bl true) keep_refl rfl rfl
theorem lay_mono : ∀ {j k : Nat} {d : D}, j ≤ k → Lay j d → Lay k d
  | 0, _, _, _, h => h.elim
  | j + 1, 0, _, h, _ => absurd h (by omega)
  | j + 1, k + 1, .non, _, _ => trivial
  | j + 1, k + 1, .int _, _, _ => trivial
  | j + 1, k + 1, .tup ds, hk, h => fun d hd => lay_mono (by omega) (h d hd)
  | j + 1, k + 1, .bl _, _, h => h.elim
  | j + 1, k + 1, .str _, _, h => h.elim
  | j + 1, k + 1, .frz _, _, h => h.elim
  | j + 1, k + 1, .loc _, _, h => h.elim
theorem lay_closed {n : Nat} : ∀ {k : Nat} {d : D}, Lay k d → closedD n d = true
  | 0, _, h => h.elim
  | k + 1, .non, _ => rfl
  | k + 1, .int _, _ => rfl
  | k + 1, .tup ds, h => closedDs_all.mpr fun d hd => lay_closed (h d hd)
  | k + 1, .bl _, h => h.elim
  | k + 1, .str _, h => h.elim
  | k + 1, .frz _, h => h.elim
  | k + 1, .loc _, h => h.elim
theorem lay_int {i : Int} : Lay 1 (.int i) := trivial
/-! ### what is drawn -/
theorem big_lt {n : Nat} (h : n < 2 ^ 255) : (n : Int) < 2 ^ 9000 := by
  have h2 : (2 : Nat) ^ 255 ≤ 2 ^ 9000 := Nat.pow_le_pow_right (by decide) (by decide)
  exact_mod_cast Nat.lt_of_lt_of_le h h2
theorem top_lt : (199999999999999999999999999999999999999999999999999999999999999999999999999999999999999999999999999999999999999999999999999999999999999999999999999999999999999999999999999999999999999999999999999999999 : Int) < 2 ^ 9000 := by
  have h2 : (2 : Nat) ^ 700 ≤ 2 ^ 9000 := Nat.pow_le_pow_right (by decide) (by decide)
  have h3 : (199999999999999999999999999999999999999999999999999999999999999999999999999999999999999999999999999999999999999999999999999999999999999999999999999999999999999999999999999999999999999999999999999999999 : Int) < ((2 ^ 700 : Nat) : Int) := by decide +kernel
  exact Int.lt_of_lt_of_le h3 (by exact_mod_cast h2)
section
variable {ns : List Int} (hs : ∀ z ∈ ns, Small z) {b : Nat} (hb : b < 2 ^ 39) {st : Sto} {p : Nat} (hp : p < st.length) {q : List D} (hq : Pool ns b q)
include hs hb hp hq
theorem f_sized_ok {way : Int} : ∃ v q', Pool ns (b + 1) q' ∧ f_w_sized [.loc p, .int way] (st.set p (.lst q)) = .ok (.int v) (st.set p (.lst q')) := by
  unfold f_w_sized
  by_cases w0 : way = 0
  · obtain ⟨v, q', hP, v0, v1, e⟩ := f_next_ok hs (by omega) hp hq (size := 3) (by decide) (big_lt (n := 3) (by decide))
    refine ⟨v - 1, q', hP, ?_⟩
    simp [b_w_sized, w0, e]
    exact pool_same hp hP rfl
  by_cases w1 : way = 1
  · obtain ⟨v, q', hP, v0, v1, e⟩ := f_next_ok hs (by omega) hp hq (size := 19) (by decide) (big_lt (n := 19) (by decide))
    refine ⟨v - 9, q', hP, ?_⟩
    simp [b_w_sized, w0, w1, e]
    exact pool_same hp hP rfl
  by_cases w2 : way = 2
  · obtain ⟨v, q', hP, v0, v1, e⟩ := f_next_ok hs (by omega) hp hq (size := 6) (by decide) (big_lt (n := 6) (by decide))
    refine ⟨v, q', hP, ?_⟩
    simp [b_w_sized, w0, w1, w2, e]
    exact pool_same hp hP rfl
  · obtain ⟨v, q', hP, v0, v1, e⟩ := f_wide_ok hs (by omega) hp hq (size := 199999999999999999999999999999999999999999999999999999999999999999999999999999999999999999999999999999999999999999999999999999999999999999999999999999999999999999999999999999999999999999999999999999999) (by decide +kernel) top_lt
    refine ⟨v - 99999999999999999999999999999999999999999999999999999999999999999999999999999999999999999999999999999999999999999999999999999999999999999999999999999999999999999999999999999999999999999999999999999999, q', hP, ?_⟩
    have p1 : powFit 10 50 := by unfold powFit; decide +kernel
    have p2 : powFit 100000000000000000000000000000000000000000000000000 4 := by unfold powFit; decide +kernel
    have p3 : mulFit 2 99999999999999999999999999999999999999999999999999999999999999999999999999999999999999999999999999999999999999999999999999999999999999999999999999999999999999999999999999999999999999999999999999999999 := by unfold mulFit; decide +kernel
    simp [b_w_sized, w0, w1, w2, p1, p2, p3, e]
    exact pool_same hp hP rfl
end
end M1
namespace M1
open PySem PySem.Spec L2
theorem pool_len {ns : List Int} {b b' : Nat} {q : List D} (h : Pool ns b q) (hb : b ≤ b') : Pool ns b' q := by
  obtain ⟨r, s, c, e, h1, h2, h3, h4, h5⟩ := h
  exact ⟨r, s, c, e, h1, h2, h3, h4, by omega⟩
section
variable {ns : List Int} (hs : ∀ z ∈ ns, Small z) {b : Nat} (hb : b < 2 ^ 38) {st : Sto} {p : Nat} (hp : p < st.length) {q : List D} (hq : Pool ns b q)
include hs hb hp hq
theorem f_row_ok {count : Nat} (hc : count ≤ 64) {way : Int} : ∃ es v q', Pool ns (b + count + 1) q' ∧ es.length = count ∧ (∀ e ∈ es, Lay 1 e) ∧ f_w_row [.loc p, .int count, .int way] (st.set p (.lst q)) = .ok (.tup [.tup es, .int v]) (st.set p (.lst q')) := by
  obtain ⟨es, st', e, hl, hy, q1, hP, rfl⟩ := compD_ix (t := .one 4) (live := []) (elt := (den ce_w_row_1).e) (ρ := [some (.loc p), some (.int count), some (.int way), none, none]) (l := (List.range count).map fun i => D.int (i : Nat)) (st := st.set p (.lst q))
    (fun i s => ∃ q1, Pool ns (b + i) q1 ∧ s = st.set p (.lst q1)) (fun _ y => ∃ v, y = .int v) (by simp [sizeLine]; omega)
    (fun i d s hd ⟨q1, hP, hs1⟩ => by
      subst hs1
      have hi : i < count := by
        have := (List.getElem?_eq_some_iff.mp hd).1
        simpa using this
      obtain ⟨v, q2, hP2, e⟩ := f_sized_ok hs (by omega) hp hP (way := way)
      refine ⟨live_nil.mpr trivial, _, .int v, _, asgOne _ _, ?_, ⟨q2, pool_len hP2 (by omega), rfl⟩, v, rfl⟩
      simp [ce_w_row_1, e]) (fun _ _ => live_nil.mpr trivial) ⟨q, by simpa using hq, rfl⟩
  obtain ⟨v, q2, hP2, e2⟩ := f_sized_ok hs (b := b + count) (by omega) hp (by simpa using hP) (way := way)
  refine ⟨es, v, q2, hP2, by simpa using hl, fun x hx => ?_, ?_⟩
  · obtain ⟨j, hj, rfl⟩ := List.mem_iff_getElem.mp hx
    obtain ⟨w, hw⟩ := hy j _ (List.getElem?_eq_getElem hj)
    rw [hw]; exact lay_int
  · unfold f_w_row
    have rg : rgOk (count : Int) := ⟨by omega, by omega⟩
    simp [b_w_row, rg, e, e2]
    refine pool_same hp hP2 ?_
    simp [closedDs_all]
    intro y hy'
    obtain ⟨j, hj, rfl⟩ := List.mem_iff_getElem.mp hy'
    obtain ⟨w, hw⟩ := hy j _ (List.getElem?_eq_getElem hj)
    rw [hw]; rfl
end
/-- a drawn row -/
def RowD (d : D) : Prop := ∃ es v, d = .tup [.tup es, .int v] ∧ ∀ e ∈ es, Lay 1 e
theorem RowD.lay {d : D} (h : RowD d) : Lay 3 d := by
  obtain ⟨es, v, rfl, h⟩ := h
  intro x hx
  rcases List.mem_cons.mp hx with rfl | hx
  · exact h
  · rcases List.mem_cons.mp hx with rfl | hx
    · trivial
    · cases hx
/-- a plan -/
def PlanD (d : D) : Prop := ∃ bs rs gs, d = .tup [.tup bs, .tup rs, .tup gs] ∧ bs.length ≤ 8 ∧ rs.length ≤ 12 ∧ (∀ x ∈ bs, Lay 2 x) ∧ (∀ x ∈ rs, Lay 3 x) ∧ (∀ x ∈ gs, Lay 1 x)
theorem PlanD.lay {d : D} (h : PlanD d) : Lay 6 d := by
  obtain ⟨bs, rs, gs, rfl, _, _, h1, h2, h3⟩ := h
  intro x hx
  rcases List.mem_cons.mp hx with rfl | hx
  · exact fun y hy => lay_mono (by decide) (h1 y hy)
  · rcases List.mem_cons.mp hx with rfl | hx
    · exact fun y hy => lay_mono (by decide) (h2 y hy)
    · rcases List.mem_cons.mp hx with rfl | hx
      · exact fun y hy => lay_mono (by decide) (h3 y hy)
      · cases hx
theorem set_app {st : Sto} {p : Nat} (hp : p < st.length) {o : O} {r : Sto} : st.set p o ++ r = (st ++ r).set p o := by rw [List.set_append_left _ _ hp]
theorem lay_pair {x y : D} (hx : Lay 1 x) (hy : Lay 1 y) : Lay 2 (.tup [x, y]) := by
  intro z hz
  rcases List.mem_cons.mp hz with rfl | hz
  · exact hx
  · rcases List.mem_cons.mp hz with rfl | hz
    · exact hy
    · cases hz
theorem pool_drop {ns : List Int} {b' : Nat} {st : Sto} {p : Nat} (hp : p < st.length) {q q' : List D} {r : Sto} (h : Pool ns b' q') {d : D} (hd : ∀ n, closedD n d = true) : gc (st.set p (.lst q)) d ((st ++ r).set p (.lst q')) = .ok d (st.set p (.lst q')) := by
  rw [← set_app hp]
  refine gc_app (fun k hk => ?_) (by simp) (hd _)
  by_cases e : p = k
  · subst e; exact .inr ⟨_, List.getElem?_set_self hp, pool_closed h⟩
  · exact .inl (by rw [List.getElem?_set_ne e, List.getElem?_set_ne e])
section
variable {ns : List Int} (hs : ∀ z ∈ ns, Small z) {b : Nat} (hb : b < 2 ^ 37) {st : Sto} {p : Nat} (hp : p < st.length) {q : List D} (hq : Pool ns b q)
include hs hb hp hq
theorem f_plan_ok : ∃ d q', Pool ns (b + 500) q' ∧ PlanD d ∧ f_w_plan [.loc p] (st.set p (.lst q)) = .ok d (st.set p (.lst q')) := by
  obtain ⟨cnt, q1, hP1, c0, c1, e1⟩ := f_next_ok hs (by omega) hp hq (size := 9) (by decide) (big_lt (n := 9) (by decide))
  obtain ⟨way, q2, hP2, w0, w1, e2⟩ := f_next_ok hs (by omega) hp hP1 (size := 4) (by decide) (big_lt (n := 4) (by decide))
  obtain ⟨n, rfl⟩ : ∃ n : Nat, cnt = n := ⟨cnt.toNat, by omega⟩
  -- the bounds
  have hp' : ∀ bs : List D, p < (st ++ [O.lst bs]).length := fun bs => by simp; omega
  obtain ⟨ρ', st', e3, x, y, q3, bs, hP3, rfl, rfl, hb1, hb2⟩ := forF_ix (t := .one 4) (live := []) (body := denS lb_w_plan_1) (l := (List.range n).map fun i => D.int (i : Nat)) (ρ := [some (.loc p), some (.int n), some (.int way), some (.loc st.length), none, none, none, none]) (st := (st ++ [O.lst []]).set p (.lst q2))
    (fun i ρ s => ∃ x y q3 bs, Pool ns (b + 2 + 3 * i) q3 ∧ ρ = [some (.loc p), some (.int n), some (.int way), some (.loc st.length), x, y, none, none] ∧ s = (st ++ [O.lst bs]).set p (.lst q3) ∧ bs.length = i ∧ ∀ x ∈ bs, Lay 2 x)
    (fun i d ρ s hd ⟨x, y, q3, bs, hP, hρ, hs1, hb1, hb2⟩ => by
      subst hρ hs1
      have hi : i < n := by
        have := (List.getElem?_eq_some_iff.mp hd).1
        simpa using this
      obtain ⟨v, q4, hP4, e4⟩ := f_sized_ok hs (by omega) (hp' bs) hP (way := way)
      obtain ⟨k, q5, hP5, k0, k1, e5⟩ := f_next_ok hs (by omega) (hp' bs) hP4 (size := 2) (by decide) (big_lt (n := 2) (by decide))
      obtain ⟨v2, q6, hP6, e6⟩ := f_sized_ok hs (by omega) (hp' bs) hP5 (way := way)
      have hne : p ≠ st.length := by omega
      have hl : ∀ q, lstAt ((st ++ [O.lst bs]).set p (O.lst q)) st.length = some bs := fun q => by rw [lstAt_ne hne, lstAt_new]
      have hset : ∀ q bs', ((st ++ [O.lst bs]).set p (O.lst q)).set st.length (O.lst bs') = (st ++ [O.lst bs']).set p (O.lst q) := fun q bs' => by
        rw [List.set_comm _ _ hne]; simp
      have hsz : bs.length < sizeLine := by simp [sizeLine]; omega
      by_cases hk : k = 0
      · refine ⟨live_nil.mpr trivial, _, [some (.loc p), some (.int n), some (.int way), some (.loc st.length), some d, some (.int v), none, none], (st ++ [O.lst (bs ++ [.tup [.int v, .non]])]).set p (.lst q5), asgOne _ _, ?_, _, _, q5, bs ++ [.tup [.int v, .non]], pool_len hP5 (by omega), rfl, rfl, by simp [hb1], ?_⟩
        · simp [lb_w_plan_1, e4, e5, hk, hl, append_eq, hsz, hset]
        · intro z hz
          rcases List.mem_append.mp hz with hz | hz
          · exact hb2 z hz
          · simp at hz; subst hz; exact lay_pair trivial trivial
      · refine ⟨live_nil.mpr trivial, _, [some (.loc p), some (.int n), some (.int way), some (.loc st.length), some d, some (.int v), none, none], (st ++ [O.lst (bs ++ [.tup [.int v, .int v2]])]).set p (.lst q6), asgOne _ _, ?_, _, _, q6, bs ++ [.tup [.int v, .int v2]], pool_len hP6 (by omega), rfl, rfl, by simp [hb1], ?_⟩
        · simp [lb_w_plan_1, e4, e5, e6, hk, hl, append_eq, hsz, hset]
        · intro z hz
          rcases List.mem_append.mp hz with hz | hz
          · exact hb2 z hz
          · simp at hz; subst hz; exact lay_pair trivial trivial) (fun _ _ _ => live_nil.mpr trivial) ⟨_, _, q2, [], pool_len hP2 (by omega), rfl, rfl, rfl, by simp⟩
  simp only [List.length_map, List.length_range] at hP3 hb1
  -- how many rows
  obtain ⟨m1, q4, hP4, m10, m11, e4⟩ := f_next_ok hs (by omega) (hp' bs) hP3 (size := 13) (by decide) (big_lt (n := 13) (by decide))
  obtain ⟨m2, q5, hP5, m20, m21, e5⟩ := f_next_ok hs (by omega) (hp' bs) hP4 (size := 2) (by decide) (big_lt (n := 2) (by decide))
  obtain ⟨m, hm, hm2⟩ : ∃ m : Nat, m ≤ 12 ∧ atI [D.int m1, D.int 12] m2 = some (.int m) := by
    have : m2 = 0 ∨ m2 = 1 := by omega
    rcases this with rfl | rfl
    · exact ⟨m1.toNat, by omega, by show some (D.int m1) = _; rw [show ((m1.toNat : Nat) : Int) = m1 by omega]⟩
    · exact ⟨12, by omega, rfl⟩
  obtain ⟨rs, st', e6, hl6, hy6, q6, hP6, rfl⟩ := compD_ix (t := .one 4) (live := []) (elt := (den ce_w_plan_1).e) (ρ := [some (.loc p), some (.int n), some (.int way), some (.loc st.length), x, y, some (.int m), none]) (l := (List.range m).map fun i => D.int (i : Nat)) (st := (st ++ [O.lst bs]).set p (.lst q5))
    (fun i s => ∃ q6, Pool ns (b + 30 + 10 * i) q6 ∧ s = (st ++ [O.lst bs]).set p (.lst q6)) (fun _ y => RowD y) (by simp [sizeLine]; omega)
    (fun i d s hd ⟨q6, hP, hs1⟩ => by
      subst hs1
      have hi : i < m := by
        have := (List.getElem?_eq_some_iff.mp hd).1
        simpa using this
      obtain ⟨es, v, q7, hP7, _, hes, e⟩ := f_row_ok hs (by omega) (hp' bs) hP (count := n) (by omega) (way := way)
      refine ⟨live_nil.mpr trivial, _, .tup [.tup es, .int v], _, asgOne _ _, ?_, ⟨q7, pool_len hP7 (by omega), rfl⟩, es, v, rfl, hes⟩
      simp [ce_w_plan_1, e]) (fun _ _ => live_nil.mpr trivial) ⟨q5, pool_len hP5 (by omega), rfl⟩
  simp only [List.length_map, List.length_range] at hl6 hP6
  obtain ⟨es, v, q7, hP7, _, hes, e7⟩ := f_row_ok hs (by omega) (hp' bs) hP6 (count := n) (by omega) (way := way)
  have hne : p ≠ st.length := by omega
  have hl : ∀ q, lstAt ((st ++ [O.lst bs]).set p (O.lst q)) st.length = some bs := fun q => by rw [lstAt_ne hne, lstAt_new]
  have rg1 : rgOk (n : Int) := ⟨by omega, by omega⟩
  have rg2 : rgOk (m : Int) := ⟨by omega, by omega⟩
  have hPl : PlanD (.tup [.tup bs, .tup rs, .tup es]) := ⟨bs, rs, es, rfl, by omega, by omega, hb2, fun z hz => by
    obtain ⟨j, hj, rfl⟩ := List.mem_iff_getElem.mp hz
    exact (hy6 j _ (List.getElem?_eq_getElem hj)).lay, hes⟩
  refine ⟨_, q7, pool_len hP7 (by omega), hPl, ?_⟩
  unfold f_w_plan
  simp [b_w_plan, e1, e2, set_app hp, rg1, e3, e4, e5, hm2, rg2, e6, e7, hl, atI_eq]
  exact pool_drop hp hP7 fun n => lay_closed hPl.lay
/-- a deed -/
def DeedD (d : D) : Prop := (∃ r, d = .tup [.int 0, r] ∧ Lay 3 r) ∨ (∃ n, d = .tup [.int 1, .int n]) ∨ (∃ gs, d = .tup [.int 2, .tup gs] ∧ ∀ x ∈ gs, Lay 1 x) ∨ d = .tup [.int 3, .non]
theorem f_deed_ok {pl : D} (hpl : PlanD pl) : ∃ d q', Pool ns (b + 100) q' ∧ DeedD d ∧ f_w_deed_of [.loc p, pl] (st.set p (.lst q)) = .ok d (st.set p (.lst q')) := by
  obtain ⟨bs, rs, gs, rfl, hb1, hr1, hbs, hrs, hgs⟩ := hpl
  obtain ⟨way, q1, hP1, w0, w1, e1⟩ := f_next_ok hs (by omega) hp hq (size := 5) (by decide) (big_lt (n := 5) (by decide))
  obtain ⟨size, q2, hP2, s0, s1, e2⟩ := f_next_ok hs (by omega) hp hP1 (size := 4) (by decide) (big_lt (n := 4) (by decide))
  obtain ⟨es, v, q3, hP3, hel, hes, e3⟩ := f_row_ok hs (by omega) hp hP2 (count := bs.length) (by omega) (way := size)
  have hR : Lay 3 (.tup [.tup es, .int v]) := RowD.lay ⟨es, v, rfl, hes⟩
  unfold f_w_deed_of
  have hw : way = 0 ∨ way = 1 ∨ way = 2 ∨ way = 3 ∨ way = 4 := by omega
  rcases hw with rfl | rfl | rfl | rfl | rfl
  · refine ⟨.tup [.int 0, .tup [.tup es, .int v]], q3, pool_len hP3 (by omega), .inl ⟨_, rfl, hR⟩, ?_⟩
    simp [b_w_deed_of, e1, e2, e3, atI_eq]
    exact pool_same hp hP3 (by simp; exact closedDs_all.mpr fun d hd => lay_closed (hes d hd))
  · by_cases h0 : rs.length = 0
    · refine ⟨.tup [.int 0, .tup [.tup es, .int v]], q3, pool_len hP3 (by omega), .inl ⟨_, rfl, hR⟩, ?_⟩
      simp [b_w_deed_of, e1, e2, e3, atI_eq, h0]
      exact pool_same hp hP3 (by simp; exact closedDs_all.mpr fun d hd => lay_closed (hes d hd))
    · obtain ⟨k, q4, hP4, k0, k1, e4⟩ := f_next_ok hs (by omega) hp hP3 (size := rs.length) (by omega) (big_lt (n := rs.length) (by omega))
      obtain ⟨r, hr⟩ : ∃ r, rs[k.toNat]? = some r := ⟨_, List.getElem?_eq_getElem (by omega)⟩
      refine ⟨.tup [.int 0, r], q4, pool_len hP4 (by omega), .inl ⟨_, rfl, hrs r (List.mem_of_getElem? hr)⟩, ?_⟩
      have hpos : 0 < rs.length := by omega
      simp [b_w_deed_of, e1, e2, e3, atI_eq, hpos, e4, k0, hr]
      exact pool_same hp hP4 (by simp; exact lay_closed (hrs r (List.mem_of_getElem? hr)))
  · obtain ⟨k, q4, hP4, k0, k1, e4⟩ := f_next_ok hs (by omega) hp hP2 (size := rs.length + 4) (by omega) (by exact_mod_cast big_lt (n := rs.length + 4) (by omega))
    refine ⟨.tup [.int 1, .int (k - 2)], q4, pool_len hP4 (by omega), .inr (.inl ⟨_, rfl⟩), ?_⟩
    simp [b_w_deed_of, e1, e2, atI_eq, e4]
    exact pool_same hp hP4 rfl
  · obtain ⟨k, q4, hP4, k0, k1, e4⟩ := f_next_ok hs (by omega) hp hP3 (size := 4) (by omega) (big_lt (n := 4) (by decide))
    by_cases hk : k = 0
    · refine ⟨.tup [.int 2, .tup gs], q4, pool_len hP4 (by omega), .inr (.inr (.inl ⟨_, rfl, hgs⟩)), ?_⟩
      simp [b_w_deed_of, e1, e2, e3, atI_eq, e4, hk]
      exact pool_same hp hP4 (by simp; exact closedDs_all.mpr fun d hd => lay_closed (hgs d hd))
    · refine ⟨.tup [.int 2, .tup es], q4, pool_len hP4 (by omega), .inr (.inr (.inl ⟨_, rfl, hes⟩)), ?_⟩
      simp [b_w_deed_of, e1, e2, e3, atI_eq, e4, hk]
      exact pool_same hp hP4 (by simp; exact closedDs_all.mpr fun d hd => lay_closed (hes d hd))
  · refine ⟨.tup [.int 3, .non], q2, pool_len hP2 (by omega), .inr (.inr (.inr rfl)), ?_⟩
    simp [b_w_deed_of, e1, e2, atI_eq]
    exact pool_same hp hP2 rfl
end
end M1
namespace M1
open PySem PySem.Spec L2
/-! ### the yard -/
def pr (d : D) : D := .tup [d, .non]
/-- the store: a pool, a yard with its past, the law's own past, what else was made -/
def yS (q : List D) (pl : D) (past own : List D) (r : Sto) : Sto := .lst q :: .ins 14 [(51, pl), (49, .non), (50, .loc 2)] :: .lst (past.map pr) :: .lst own :: r
theorem plan_closed {d : D} {n : Nat} (h : PlanD d) : closedD n d = true := lay_closed h.lay
theorem past_closed {past : List D} {n : Nat} (h : ∀ x ∈ past, PlanD x) : closedDs n (past.map pr) = true := closedDs_all.mpr fun d hd => by
  obtain ⟨x, hx, rfl⟩ := List.mem_map.mp hd
  simp [pr, plan_closed (h x hx)]
theorem yS_len {q : List D} {pl : D} {past own : List D} {r : Sto} : (yS q pl past own r).length = r.length + 4 := rfl
/-- the yard changed, nothing new is left -/
theorem yS_gc {q : List D} {pl pl' d : D} {past past' own : List D} {r : Sto} (h1 : PlanD pl') (h2 : ∀ x ∈ past', PlanD x) (hd : ∀ n, closedD n d = true) : gc (yS q pl past own r) d (yS q pl' past' own r) = .ok d (yS q pl' past' own r) := by
  refine gc_same (keep_of ?_) (hd _) rfl
  refine ⟨.inl rfl, .inr ?_, .inr ?_, .inl rfl, kn_refl⟩
  · simp [plan_closed h1, yS]
  · exact past_closed h2
section
variable {q : List D} {bs rs gs : List D} {past own : List D} {r : Sto}
abbrev pl3 (bs rs gs : List D) : D := .tup [.tup bs, .tup rs, .tup gs]
theorem change_ok (h : PlanD (pl3 bs rs gs)) (hp : ∀ x ∈ past, PlanD x) (hl : past.length < 1000) {rs' gs' : List D} (h' : PlanD (pl3 bs rs' gs')) :
    f_Yard_change_to [.loc 1, .tup rs', .tup gs', .non] (yS q (pl3 bs rs gs) past own r) = .ok .non (yS q (pl3 bs rs' gs') (past ++ [pl3 bs rs gs]) own r) := by
  have hz : past.length < sizeLine := Nat.lt_trans hl (by decide)
  have e := yS_gc (q := q) (pl := pl3 bs rs gs) (past := past) (own := own) (r := r) (d := .non) h' (past' := past ++ [pl3 bs rs gs]) (fun x hx => (List.mem_append.mp hx).elim (hp x) fun z => by simp at z; subst z; exact h) (fun _ => rfl)
  unfold f_Yard_change_to
  simp [b_Yard_change_to, yS, append_eq, hz, atI_eq, putN] at e ⊢
  exact e
theorem kept_ok (pl row : D) (st : Sto) : f_kept_with [pl, .non, row] st = .ok .non st := by
  unfold f_kept_with
  simp [b_kept_with]
  exact gc_same (d := .non) keep_refl rfl rfl
theorem plan_put {row : D} (h : PlanD (pl3 bs rs gs)) (hr : Lay 3 row) (hl : rs.length < 12) : PlanD (pl3 bs (rs ++ [row]) gs) := by
  obtain ⟨_, _, _, e, h1, h2, h3, h4, h5⟩ := h
  cases e
  exact ⟨_, _, _, rfl, h1, by simp; omega, h3, fun x hx => (List.mem_append.mp hx).elim (h4 x) fun z => by simp at z; subst z; exact hr, h5⟩
theorem plan_take {n : Nat} (h : PlanD (pl3 bs rs gs)) : PlanD (pl3 bs (rs.take n ++ rs.drop (n + 1)) gs) := by
  obtain ⟨_, _, _, e, h1, h2, h3, h4, h5⟩ := h
  cases e
  exact ⟨_, _, _, rfl, h1, by simp; omega, h3, fun x hx => (List.mem_append.mp hx).elim (fun z => h4 x (List.mem_of_mem_take z)) fun z => h4 x (List.mem_of_mem_drop z), h5⟩
theorem plan_turn {gs' : List D} (h : PlanD (pl3 bs rs gs)) (hg : ∀ x ∈ gs', Lay 1 x) : PlanD (pl3 bs rs gs') := by
  obtain ⟨_, _, _, e, h1, h2, h3, h4, h5⟩ := h
  cases e
  exact ⟨_, _, _, rfl, h1, h2, h3, h4, hg⟩
theorem plan_len (h : PlanD (pl3 bs rs gs)) : rs.length ≤ 12 := by
  obtain ⟨_, _, _, e, _, h2, _⟩ := h
  cases e
  exact h2
section
variable (h : PlanD (pl3 bs rs gs)) (hp : ∀ x ∈ past, PlanD x) (hl : past.length < 1000)
include h hp hl
theorem put_ok {row : D} (hr : Lay 3 row) (hn : rs.length < 12) : f_Yard_put_row [.loc 1, row] (yS q (pl3 bs rs gs) past own r) = .ok .non (yS q (pl3 bs (rs ++ [row]) gs) (past ++ [pl3 bs rs gs]) own r) := by
  have e := change_ok (q := q) (own := own) (r := r) h hp hl (plan_put h hr hn)
  have g := yS_gc (q := q) (pl := pl3 bs rs gs) (past := past) (own := own) (r := r) (d := .non) (plan_put h hr hn) (past' := past ++ [pl3 bs rs gs]) (fun x hx => (List.mem_append.mp hx).elim (hp x) fun z => by simp at z; subst z; exact h) (fun _ => rfl)
  have hz : rs.length + 1 ≤ sizeLine := Nat.le_trans (show rs.length + 1 ≤ 12 by omega) (by decide)
  have hn' : ¬ (12 : Int) ≤ rs.length := by omega
  unfold f_Yard_put_row
  simp [yS] at e g
  simp [b_Yard_put_row, yS, atI_eq, hn', kept_ok, hz, e]
  exact g
theorem put_no {row : D} (hn : 12 ≤ rs.length) : f_Yard_put_row [.loc 1, row] (yS q (pl3 bs rs gs) past own r) = .exc 8 (some .non) (yS q (pl3 bs rs gs) past own r) := by
  have hn' : (12 : Int) ≤ rs.length := by omega
  unfold f_Yard_put_row
  simp [b_Yard_put_row, yS, atI_eq, hn']
  exact gcx_same keep_refl (by intro d hd; cases hd; rfl) rfl
theorem take_ok {n : Int} (h0 : 0 ≤ n) (h1 : n < rs.length) : f_Yard_take_row [.loc 1, .int n] (yS q (pl3 bs rs gs) past own r) = .ok .non (yS q (pl3 bs (rs.take n.toNat ++ rs.drop (n.toNat + 1)) gs) (past ++ [pl3 bs rs gs]) own r) := by
  have hP := plan_take (n := n.toNat) h
  have e := change_ok (q := q) (own := own) (r := r) h hp hl hP
  have g := yS_gc (q := q) (pl := pl3 bs rs gs) (past := past) (own := own) (r := r) (d := .non) hP (past' := past ++ [pl3 bs rs gs]) (fun x hx => (List.mem_append.mp hx).elim (hp x) fun z => by simp at z; subst z; exact h) (fun _ => rfl)
  have hz : (rs.take n.toNat).length + (rs.drop (n.toNat + 1)).length ≤ sizeLine := by
    have := plan_len h
    refine Nat.le_trans (show _ ≤ 24 from ?_) (by decide)
    simp; omega
  have a1 : ¬ n < 0 := by omega
  have a2 : ¬ (rs.length : Int) ≤ n := by omega
  have a3 : (n + 1).toNat = n.toNat + 1 := by omega
  unfold f_Yard_take_row
  simp [yS] at e g
  simp [b_Yard_take_row, yS, atI_eq, a1, a2]
  rw [cut_to h0, cut_from (by omega), a3, okIf_pos hz]
  simp [atI_eq, e]
  exact g
theorem take_no {n : Int} (h0 : n < 0 ∨ rs.length ≤ n) : f_Yard_take_row [.loc 1, .int n] (yS q (pl3 bs rs gs) past own r) = .exc 2 none (yS q (pl3 bs rs gs) past own r) := by
  unfold f_Yard_take_row
  by_cases a : n < 0
  · simp [b_Yard_take_row, yS, atI_eq, a]
    exact gcx_same keep_refl (by intro d hd; cases hd) rfl
  · have b : (rs.length : Int) ≤ n := h0.resolve_left a
    simp [b_Yard_take_row, yS, atI_eq, a, b]
    exact gcx_same keep_refl (by intro d hd; cases hd) rfl
theorem turn_ok {gs' : List D} (hg : ∀ x ∈ gs', Lay 1 x) : f_Yard_turn [.loc 1, .tup gs'] (yS q (pl3 bs rs gs) past own r) = .ok .non (yS q (pl3 bs rs gs') (past ++ [pl3 bs rs gs]) own r) := by
  have hP := plan_turn h hg
  have e := change_ok (q := q) (own := own) (r := r) h hp hl hP
  have g := yS_gc (q := q) (pl := pl3 bs rs gs) (past := past) (own := own) (r := r) (d := .non) hP (past' := past ++ [pl3 bs rs gs]) (fun x hx => (List.mem_append.mp hx).elim (hp x) fun z => by simp at z; subst z; exact h) (fun _ => rfl)
  unfold f_Yard_turn
  simp [yS] at e g
  simp [b_Yard_turn, yS, atI_eq, e]
  exact g
theorem back_no (hn : past = []) : f_Yard_back [.loc 1] (yS q (pl3 bs rs gs) past own r) = .exc 3 none (yS q (pl3 bs rs gs) past own r) := by
  unfold f_Yard_back
  simp [b_Yard_back, yS, hn]
  exact gcx_same keep_refl (by intro d hd; cases hd) rfl
end
theorem back_ok {pl pl' : D} {past' : List D} (hp : ∀ x ∈ past' ++ [pl'], PlanD x) : f_Yard_back [.loc 1] (yS q pl (past' ++ [pl']) own r) = .ok .non (yS q pl' past' own r) := by
  have g := yS_gc (q := q) (pl := pl) (past := past' ++ [pl']) (own := own) (r := r) (d := .non) (hp pl' (by simp)) (past' := past') (fun x hx => hp x (by simp [hx])) (fun _ => rfl)
  have hlen : ¬ ((past'.length : Int) + 1 = 0) := by omega
  unfold f_Yard_back
  simp [yS] at g
  simp [b_Yard_back, yS, pop_eq, hlen, putN]
  rw [show pr pl' = .tup [pl', .non] from rfl]
  simp [putN]
  exact g
theorem now_ok {pl : D} (h : PlanD pl) : f_Yard_plan_now [.loc 1] (yS q pl past own r) = .ok pl (yS q pl past own r) := by
  unfold f_Yard_plan_now
  simp [b_Yard_plan_now, yS]
  exact gc_same keep_refl (plan_closed h) rfl
end
end M1
namespace M1
open PySem PySem.Spec L2
/-! ### a deed, done -/
def clsOf : Int → Nat := fun due => if due = 1 then 8 else if due = 2 then 2 else 3
def payOf : Int → Option D := fun due => if due = 1 then some .non else none
section
variable {q : List D} {bs rs gs : List D} {past own : List D} {r : Sto}
/-- what a deed leads to, and what the law says of it -/
theorem deed_done {pl : D} (h : PlanD pl) (hp : ∀ x ∈ past, PlanD x) (hl : past.length < 1000) {d : D} (hd : DeedD d) : ∃ (due : Int) (later : D) (past' : List D) (k : Int) (z : D), d = .tup [.int k, z] ∧ closedD 0 d = true ∧ PlanD later ∧ (∀ x ∈ past', PlanD x) ∧
    (∀ q own r, f_w_after [pl, .loc 3, d] (yS q pl own past r) = .ok (.tup [.int due, later]) (yS q pl own past r)) ∧
    ((due = 0 ∧ (∀ q own r, f_w_ask [.loc 1, d] (yS q pl past own r) = .ok .non (yS q later past' own r)) ∧ (k = 3 ∧ past ≠ [] ∧ past' = past.dropLast ∨ k < 3 ∧ past' = past ++ [pl])) ∨
     ((due = 1 ∨ due = 2 ∨ due = 3) ∧ later = pl ∧ past' = past ∧ ∀ q own r, f_w_ask [.loc 1, d] (yS q pl past own r) = .exc (clsOf due) (payOf due) (yS q pl past own r))) := by
  obtain ⟨bs, rs, gs, rfl, hb1, hr1, hbs, hrs, hgs⟩ := id h
  have g0 : ∀ {d' : D} {q own r}, (∀ n, closedD n d' = true) → gc (yS q (pl3 bs rs gs) own past r) d' (yS q (pl3 bs rs gs) own past r) = .ok d' (yS q (pl3 bs rs gs) own past r) := fun hc => gc_same keep_refl (hc _) rfl
  have cl : ∀ {n : Nat} {d' : D}, PlanD d' → closedD n d' = true := fun h => plan_closed h
  rcases hd with ⟨row, rfl, hr⟩ | ⟨n, rfl⟩ | ⟨gs', rfl, hg⟩ | rfl
  · by_cases hn : rs.length < 12
    · have hP := plan_put h hr hn
      refine ⟨0, pl3 bs (rs ++ [row]) gs, past ++ [pl3 bs rs gs], 0, row, rfl, by simp [lay_closed hr], hP, fun x hx => (List.mem_append.mp hx).elim (hp x) fun z => by simp at z; subst z; exact h, fun q own r => ?_, .inl ⟨rfl, fun q own r => ?_, .inr ⟨by decide, rfl⟩⟩⟩
      · have hz : rs.length + 1 ≤ sizeLine := Nat.le_trans (show rs.length + 1 ≤ 12 by omega) (by decide)
        have hn' : ¬ (12 : Int) ≤ rs.length := by omega
        have g := g0 (q := q) (own := own) (r := r) (d' := .tup [.int 0, pl3 bs (rs ++ [row]) gs]) fun n => by rw [closedD_tup, closedDs_cons, closedDs_cons, cl hP]; rfl
        unfold f_w_after
        simp [yS] at g
        simp [b_w_after, yS, atI_eq, hn', hz]
        exact g
      · have e := put_ok (q := q) (own := own) (r := r) h hp hl hr hn
        have g := yS_gc (q := q) (pl := pl3 bs rs gs) (past := past) (own := own) (r := r) (d := .non) hP (past' := past ++ [pl3 bs rs gs]) (fun x hx => (List.mem_append.mp hx).elim (hp x) fun z => by simp at z; subst z; exact h) (fun _ => rfl)
        unfold f_w_ask
        simp [yS] at e g
        simp [b_w_ask, yS, atI_eq, e]
        exact g
    · refine ⟨1, pl3 bs rs gs, past, 0, row, rfl, by simp [lay_closed hr], h, hp, fun q own r => ?_, .inr ⟨.inl rfl, rfl, rfl, fun q own r => ?_⟩⟩
      · have hn' : (12 : Int) ≤ rs.length := by omega
        have g := g0 (q := q) (own := own) (r := r) (d' := .tup [.int 1, pl3 bs rs gs]) fun n => by rw [closedD_tup, closedDs_cons, closedDs_cons, cl h]; rfl
        unfold f_w_after
        simp [yS] at g
        simp [b_w_after, yS, atI_eq, hn']
        exact g
      · have e := put_no (q := q) (own := own) (r := r) h hp hl (row := row) (by omega)
        unfold f_w_ask
        simp [yS] at e
        simp [b_w_ask, yS, atI_eq, e]
        exact gcx_same keep_refl (by intro d hd; cases hd; rfl) rfl
  · by_cases hn : 0 ≤ n ∧ n < rs.length
    · have hP := plan_take (n := n.toNat) h
      have a1 : ¬ n < 0 := by omega
      have a2 : ¬ (rs.length : Int) ≤ n := by omega
      have a3 : (n + 1).toNat = n.toNat + 1 := by omega
      refine ⟨0, pl3 bs (rs.take n.toNat ++ rs.drop (n.toNat + 1)) gs, past ++ [pl3 bs rs gs], 1, .int n, rfl, rfl, hP, fun x hx => (List.mem_append.mp hx).elim (hp x) fun z => by simp at z; subst z; exact h, fun q own r => ?_, .inl ⟨rfl, fun q own r => ?_, .inr ⟨by decide, rfl⟩⟩⟩
      · have hz : (rs.take n.toNat).length + (rs.drop (n.toNat + 1)).length ≤ sizeLine := by
          refine Nat.le_trans (show _ ≤ 24 from ?_) (by decide)
          simp; omega
        have g := g0 (q := q) (own := own) (r := r) (d' := .tup [.int 0, pl3 bs (rs.take n.toNat ++ rs.drop (n.toNat + 1)) gs]) fun n => by rw [closedD_tup, closedDs_cons, closedDs_cons, cl hP]; rfl
        unfold f_w_after
        simp [yS] at g
        simp [b_w_after, yS, atI_eq, a1, a2]
        rw [cut_to hn.1, cut_from (by omega), a3, okIf_pos hz]
        simp [atI_eq]
        exact g
      · have e := take_ok (q := q) (own := own) (r := r) h hp hl hn.1 hn.2
        have g := yS_gc (q := q) (pl := pl3 bs rs gs) (past := past) (own := own) (r := r) (d := .non) hP (past' := past ++ [pl3 bs rs gs]) (fun x hx => (List.mem_append.mp hx).elim (hp x) fun z => by simp at z; subst z; exact h) (fun _ => rfl)
        unfold f_w_ask
        simp [yS] at e g
        simp [b_w_ask, yS, atI_eq, e]
        exact g
    · have hn2 : n < 0 ∨ (rs.length : Int) ≤ n := by omega
      refine ⟨2, pl3 bs rs gs, past, 1, .int n, rfl, rfl, h, hp, fun q own r => ?_, .inr ⟨.inr (.inl rfl), rfl, rfl, fun q own r => ?_⟩⟩
      · have g := g0 (q := q) (own := own) (r := r) (d' := .tup [.int 2, pl3 bs rs gs]) fun n => by rw [closedD_tup, closedDs_cons, closedDs_cons, cl h]; rfl
        unfold f_w_after
        simp [yS] at g
        by_cases a : n < 0
        · simp [b_w_after, yS, atI_eq, a]
          exact g
        · have b : (rs.length : Int) ≤ n := hn2.resolve_left a
          simp [b_w_after, yS, atI_eq, a, b]
          exact g
      · have e := take_no (q := q) (own := own) (r := r) h hp hl hn2
        unfold f_w_ask
        simp [yS] at e
        simp [b_w_ask, yS, atI_eq, e]
        exact gcx_same keep_refl (by intro d hd; cases hd) rfl
  · have hP := plan_turn h hg
    refine ⟨0, pl3 bs rs gs', past ++ [pl3 bs rs gs], 2, .tup gs', rfl, by simp; exact closedDs_all.mpr fun d hd => lay_closed (hg d hd), hP, fun x hx => (List.mem_append.mp hx).elim (hp x) fun z => by simp at z; subst z; exact h, fun q own r => ?_, .inl ⟨rfl, fun q own r => ?_, .inr ⟨by decide, rfl⟩⟩⟩
    · have g := g0 (q := q) (own := own) (r := r) (d' := .tup [.int 0, pl3 bs rs gs']) fun n => by rw [closedD_tup, closedDs_cons, closedDs_cons, cl hP]; rfl
      unfold f_w_after
      simp [yS] at g
      simp [b_w_after, yS, atI_eq]
      exact g
    · have e := turn_ok (q := q) (own := own) (r := r) h hp hl hg
      have g := yS_gc (q := q) (pl := pl3 bs rs gs) (past := past) (own := own) (r := r) (d := .non) hP (past' := past ++ [pl3 bs rs gs]) (fun x hx => (List.mem_append.mp hx).elim (hp x) fun z => by simp at z; subst z; exact h) (fun _ => rfl)
      unfold f_w_ask
      simp [yS] at e g
      simp [b_w_ask, yS, atI_eq, e]
      exact g
  · by_cases hn : past = []
    · refine ⟨3, pl3 bs rs gs, past, 3, .non, rfl, rfl, h, hp, fun q own r => ?_, .inr ⟨.inr (.inr rfl), rfl, rfl, fun q own r => ?_⟩⟩
      · have g := g0 (q := q) (own := own) (r := r) (d' := .tup [.int 3, pl3 bs rs gs]) fun n => by rw [closedD_tup, closedDs_cons, closedDs_cons, cl h]; rfl
        subst hn
        unfold f_w_after
        simp [yS] at g
        simp [b_w_after, yS, atI_eq]
        exact g
      · have e := back_no (q := q) (own := own) (r := r) h hp hl hn
        unfold f_w_ask
        simp [yS] at e
        simp [b_w_ask, yS, atI_eq, e]
        exact gcx_same keep_refl (by intro d hd; cases hd) rfl
    · obtain ⟨past', pl', rfl⟩ : ∃ p l, past = p ++ [l] := ⟨past.dropLast, past.getLast hn, (List.dropLast_concat_getLast hn).symm⟩
      have hP : PlanD pl' := hp pl' (by simp)
      refine ⟨0, pl', past', 3, .non, rfl, rfl, hP, fun x hx => hp x (by simp [hx]), fun q own r => ?_, .inl ⟨rfl, fun q own r => ?_, .inl ⟨rfl, by simp, by simp⟩⟩⟩
      · have hlen : ¬ ((past'.length : Int) + 1 = 0) := by omega
        have hix : ((past'.length : Int) + 1 - 1) = past'.length := by omega
        have g := g0 (q := q) (own := own) (r := r) (d' := .tup [.int 0, pl']) fun n => by rw [closedD_tup, closedDs_cons, closedDs_cons, cl hP]; rfl
        unfold f_w_after
        simp [yS] at g
        simp [b_w_after, yS, atI_eq, hlen, hix]
        exact g
      · have e := back_ok (q := q) (own := own) (r := r) (pl := pl3 bs rs gs) hp
        have g := yS_gc (q := q) (pl := pl3 bs rs gs) (past := past' ++ [pl']) (own := own) (r := r) (d := .non) hP (past' := past') (fun x hx => hp x (by simp [hx])) (fun _ => rfl)
        unfold f_w_ask
        simp [yS] at e g
        simp [b_w_ask, yS, atI_eq, e]
        exact g
/-- told as due: done -/
theorem done_ok {pl pl' d : D} {past' : List D} (h' : PlanD pl') (hp' : ∀ x ∈ past', PlanD x) (e : f_w_ask [.loc 1, d] (yS q pl past own r) = .ok .non (yS q pl' past' own r)) : f_w_done [.loc 1, d] (yS q pl past own r) = .ok (.int 0) (yS q pl' past' own r) := by
  have g := yS_gc (q := q) (pl := pl) (past := past) (own := own) (r := r) (d := .int 0) h' hp' (fun _ => rfl)
  unfold f_w_done
  simp [b_w_done, e]
  exact g
theorem done_no {pl d : D} {due : Int} (hd : due = 1 ∨ due = 2 ∨ due = 3) (e : f_w_ask [.loc 1, d] (yS q pl past own r) = .exc (clsOf due) (payOf due) (yS q pl past own r)) : f_w_done [.loc 1, d] (yS q pl past own r) = .ok (.int due) (yS q pl past own r) := by
  have g : ∀ i : Int, gc (yS q pl past own r) (.int i) (yS q pl past own r) = .ok (.int i) (yS q pl past own r) := fun i => gc_same keep_refl rfl rfl
  unfold f_w_done
  rcases hd with rfl | rfl | rfl
  · simp [b_w_done, e, clsOf, payOf, exNs, catchF, subC, asIn, hbs, hb1, clr, g]
  · simp [b_w_done, e, clsOf, payOf, exNs, catchF, subC, asIn, hbs, hb1, clr, g]
  · simp [b_w_done, e, clsOf, payOf, exNs, catchF, subC, asIn, hbs, hb1, clr, g]
def kindsL (due : Int) : List D := [.bl (due == 1), .bl (due == 2), .bl (due == 3), .bl false, .bl false, .bl false, .bl false, .bl false, .bl true]
theorem kinds_no {pl d : D} {due : Int} (hd : due = 1 ∨ due = 2 ∨ due = 3) (e : ∀ r, f_w_ask [.loc 1, d] (yS q pl past own r) = .exc (clsOf due) (payOf due) (yS q pl past own r)) : f_w_kinds [.loc 1, d] (yS q pl past own r) = .ok (.loc (yS q pl past own r).length) (yS q pl past own r ++ [.lst (kindsL due)]) := by
  have e1 : f_w_ask [.loc 1, d] (yS q pl past own r ++ [.lst []]) = .exc (clsOf due) (payOf due) (yS q pl past own r ++ [.lst []]) := e (r ++ [O.lst []])
  generalize yS q pl past own r = s at e1 ⊢
  clear e
  unfold f_w_kinds
  rcases hd with rfl | rfl | rfl
  · simp [b_w_kinds, e1, clsOf, payOf, exNs, catchF, subC, asIn, hbs, hb1, clr, isiL, isiX, preL, lstAt_appk, Nat.add_assoc]
    exact gc_fresh (k := 5) rfl rfl
  · simp [b_w_kinds, e1, clsOf, payOf, exNs, catchF, subC, asIn, hbs, hb1, clr, isiL, isiX, preL, lstAt_appk, Nat.add_assoc]
    exact gc_fresh (k := 5) rfl rfl
  · simp [b_w_kinds, e1, clsOf, payOf, exNs, catchF, subC, asIn, hbs, hb1, clr, isiL, isiX, preL, lstAt_appk, Nat.add_assoc]
    exact gc_fresh (k := 5) rfl rfl
end
end M1
namespace M1
open PySem PySem.Spec L2
section
variable {q : List D} {pl : D} {past own : List D} {r : Sto}
@[simp] theorem yS_app {t : Sto} : yS q pl past own r ++ t = yS q pl past own (r ++ t) := rfl
@[simp] theorem yS_l3 : lstAt (yS q pl past own r) 3 = some own := rfl
@[simp] theorem yS_i1 : insAt (yS q pl past own r) 1 14 = some [(51, pl), (49, .non), (50, .loc 2)] := rfl
@[simp] theorem yS_set3 {o : List D} : (yS q pl past own r).set 3 (.lst o) = yS q pl past o r := rfl
@[simp] theorem yS_length : (yS q pl past own r).length = r.length + 4 := rfl
@[simp] theorem yS_at {k : Nat} : lstAt (yS q pl past own r) (k + 4) = lstAt r k := rfl
theorem eqD_l {st : Sto} {m n : Nat} {L : List D} {P : List PyData} (h1 : lstAt st m = some L) (h2 : lstAt st n = some L) (hL : pyds0 L = some P) (hs : SeqAt.shaped (.list P) = true) (he : PyData.eqv (.list P) (.list P) = true) : eqD st (.loc m) (.loc n) = some true := by
  have e1 : pyd st (.loc m) = some (.list P) := by
    show (match lstAt st m with | some ds => (pyds0 ds).map PyData.list | _ => none) = _
    rw [h1]; dsimp only; rw [hL]; rfl
  have e2 : pyd st (.loc n) = some (.list P) := by
    show (match lstAt st n with | some ds => (pyds0 ds).map PyData.list | _ => none) = _
    rw [h2]; dsimp only; rw [hL]; rfl
  unfold eqD
  rw [e1, e2]
  dsimp only
  rw [if_pos ⟨hs, hs⟩, he]
theorem kinds_eq {st : Sto} {m n : Nat} {due : Int} (hd : due = 1 ∨ due = 2 ∨ due = 3) (h1 : lstAt st m = some (kindsL due)) (h2 : lstAt st n = some (kindsL due)) : cmpD .ne (.loc m) (.loc n) st = .ok (.bl false) st := by
  refine ne_ (b := true) ?_
  rcases hd with rfl | rfl | rfl
  · exact eqD_l h1 h2 (P := [.bool true, .bool false, .bool false, .bool false, .bool false, .bool false, .bool false, .bool false, .bool true]) rfl rfl (by decide +kernel)
  · exact eqD_l h1 h2 (P := [.bool false, .bool true, .bool false, .bool false, .bool false, .bool false, .bool false, .bool false, .bool true]) rfl rfl (by decide +kernel)
  · exact eqD_l h1 h2 (P := [.bool false, .bool false, .bool true, .bool false, .bool false, .bool false, .bool false, .bool false, .bool true]) rfl rfl (by decide +kernel)
theorem init_ok {q : List D} {pl : D} : f_Yard_init [.loc 1, pl] [.lst q, .ins 14 []] = .ok .non [.lst q, .ins 14 [(51, pl), (49, .non), (50, .loc 2)], .lst []] := by
  unfold f_Yard_init
  simp [b_Yard_init, putN]
  unfold gc
  rw [if_neg]
  intro h
  rcases h 1 (by simp) with e | ⟨o, e, c⟩
  · simp at e
  · simp at e
    subst e
    simp at c
end
/-- what a turn of the law's loop keeps -/
def LI (ns : List Int) (i : Nat) (ρ : Env) (st : Sto) : Prop := ∃ q pl past r a b c d e f, Pool ns (600 + 100 * i) q ∧ PlanD pl ∧ (∀ x ∈ past, PlanD x) ∧ past.length ≤ i ∧
  ρ = [some (.frz (ns.map .int)), some (.loc 0), some pl, some (.loc 1), some (.loc 3), a, b, c, d, e, f] ∧ st = yS q pl past past r
theorem turn_law {ns : List Int} (hs : ∀ z ∈ ns, Small z) {i : Nat} (hi : i < 100) {ρ : Env} {st : Sto} (h : LI ns i ρ st) : ∃ ρ2 st2, denS lb_law_1 (ρ.set 5 (some (.int i))) st = .nx ρ2 st2 ∧ LI ns (i + 1) ρ2 st2 := by
  obtain ⟨q, pl, past, r, a, b, c, d, e, f, hq, hpl, hpast, hlen, rfl, rfl⟩ := h
  -- the deed, drawn
  obtain ⟨own, q1, r1, dd, hq1, hdd, eo⟩ : ∃ (own : Nat) (q1 : List D) (r1 : Sto) (dd : D), Pool ns (600 + 100 * (i + 1)) q1 ∧ DeedD dd ∧
      ((¬ (0 < i ∧ i < ns.length) ∧ own = 0 ∧ f_w_deed_of [.loc 0, pl] (yS q pl past past r) = .ok dd (yS q1 pl past past r1)) ∨
       ((0 < i ∧ i < ns.length) ∧ ∃ s1, f_w_pool [.frz (ns.map .int), .int i] (yS q pl past past r) = .ok (.loc own) s1 ∧ f_w_deed_of [.loc own, pl] s1 = .ok dd (yS q1 pl past past r1))) := by
    by_cases hk : 0 < i ∧ i < ns.length
    · obtain ⟨q2, hP2, e2⟩ := f_pool_ok hs (at_ := i) (by omega) (st := yS q pl past past r)
      obtain ⟨dd, q3, hP3, hdd, e3⟩ := f_deed_ok hs (b := 0) (by decide) (st := yS q pl past past (r ++ [.lst q2])) (p := r.length + 4) (by simp) hP2 hpl
      have x : ∀ z, (yS q pl past past (r ++ [O.lst q2])).set (r.length + 4) (.lst z) = yS q pl past past (r ++ [.lst z]) := fun z => by
        show O.lst q :: _ :: _ :: _ :: ((r ++ [O.lst q2]).set r.length (.lst z)) = _
        rw [List.set_append_right _ _ (Nat.le_refl _), Nat.sub_self]; rfl
      rw [x, x] at e3
      exact ⟨r.length + 4, q, r ++ [.lst q3], dd, pool_len hq (by omega), hdd, .inr ⟨hk, yS q pl past past (r ++ [O.lst q2]), e2, e3⟩⟩
    · obtain ⟨dd, q3, hP3, hdd, e3⟩ := f_deed_ok hs (b := 600 + 100 * i) (by omega) (st := yS q pl past past r) (p := 0) (by simp) hq hpl
      exact ⟨0, q3, r, dd, pool_len hP3 (by omega), hdd, .inl ⟨hk, rfl, e3⟩⟩
  obtain ⟨due, later, past', k, z, rfl, hcl, hlater, hpast', eA, hcase⟩ := deed_done hpl hpast (by omega) hdd
  have eS : ∀ st, f_w_same 6 [later, later] st = .ok (.bl true) st := fun st => f_same_ok 6 later st hlater.lay
  have eN : ∀ q past own r, f_Yard_plan_now [.loc 1] (yS q later past own r) = .ok later (yS q later past own r) := fun q past own r => now_ok hlater
  have hsz : past.length < sizeLine := Nat.lt_of_le_of_lt hlen (Nat.lt_trans hi (by decide))
  have hb : ∀ b, (0 < i ∧ i < ns.length ↔ b = true) → (decide (0 < i) && decide (i < ns.length)) = b := fun b hb => by
    cases b with
    | true => simp [hb.mpr rfl]
    | false =>
      have : ¬ (0 < i ∧ i < ns.length) := fun z => by have := hb.mp z; cases this
      simp; omega
  have fin : ∀ q pl past r a b c d e f, Pool ns (600 + 100 * (i + 1)) q → PlanD pl → (∀ x ∈ past, PlanD x) → past.length ≤ i + 1 → LI ns (i + 1) [some (.frz (ns.map .int)), some (.loc 0), some pl, some (.loc 1), some (.loc 3), a, b, c, d, e, f] (yS q pl past past r) :=
    fun q pl past r a b c d e f h1 h2 h3 h4 => ⟨q, pl, past, r, a, b, c, d, e, f, h1, h2, h3, h4, rfl, rfl⟩
  rcases hcase with ⟨rfl, eK, hk⟩ | ⟨hdue, rfl, rfl, eK⟩
  · have eD := done_ok (q := q1) (own := past) (r := r1) hlater hpast' (eK _ _ _)
    rcases hk with ⟨rfl, hne, rfl⟩ | ⟨hk, rfl⟩
    · have hpop : ∃ y, past[past.length - 1]? = some y := ⟨_, List.getElem?_eq_getElem (by have := List.length_pos_iff.mpr hne; omega)⟩
      obtain ⟨y, hpop⟩ := hpop
      have hl2 : past.dropLast.length ≤ i + 1 := by simp; omega
      rcases eo with ⟨hno, rfl, e1⟩ | ⟨hyes, s1, e0, e1⟩
      · simp [lb_law_1, hb false (by simp [hno]), e1, eA, eD, atI_eq, pop_eq, hpop, eN, eS]
        exact ⟨_, _, ⟨rfl, rfl⟩, fin _ _ _ _ _ _ _ _ _ _ hq1 hlater hpast' hl2⟩
      · simp [lb_law_1, hb true (by simp [hyes]), e0, e1, eA, eD, atI_eq, pop_eq, hpop, eN, eS]
        exact ⟨_, _, ⟨rfl, rfl⟩, fin _ _ _ _ _ _ _ _ _ _ hq1 hlater hpast' hl2⟩
    · have hk3 : ¬ k = 3 := by omega
      have hl2 : (past ++ [pl]).length ≤ i + 1 := by simp; omega
      rcases eo with ⟨hno, rfl, e1⟩ | ⟨hyes, s1, e0, e1⟩
      · simp [lb_law_1, hb false (by simp [hno]), e1, eA, eD, atI_eq, append_eq, hsz, hk, hk3, eN, eS]
        exact ⟨_, _, ⟨rfl, rfl⟩, fin _ _ _ _ _ _ _ _ _ _ hq1 hlater hpast' hl2⟩
      · simp [lb_law_1, hb true (by simp [hyes]), e0, e1, eA, eD, atI_eq, append_eq, hsz, hk, hk3, eN, eS]
        exact ⟨_, _, ⟨rfl, rfl⟩, fin _ _ _ _ _ _ _ _ _ _ hq1 hlater hpast' hl2⟩
  · have eD := done_no (q := q1) (own := past') (r := r1) hdue (eK _ _ _)
    have eKi := kinds_no (q := q1) (own := past') (r := r1 ++ [.lst (kindsL due)]) hdue (fun r => eK _ _ _)
    have d0 : ¬ due = 0 := by omega
    have d1 : 0 < due := by omega
    have dl : [D.bl (decide (due = 1)), D.bl (decide (due = 2)), D.bl (decide (due = 3)), D.bl false, D.bl false, D.bl false, D.bl false, D.bl false, D.bl true] = kindsL due := by
      rcases hdue with rfl | rfl | rfl <;> rfl
    have kl : (kindsL due).length = 9 := rfl
    have eQ : ∀ s : Sto, lstAt s (r1.length + 1 + 4) = some (kindsL due) → lstAt s (r1.length + 4) = some (kindsL due) → cmpD .ne (.loc (r1.length + 1 + 4)) (.loc (r1.length + 4)) s = .ok (.bl false) s := fun s h1 h2 => kinds_eq hdue h1 h2
    simp at eKi
    rcases eo with ⟨hno, rfl, e1⟩ | ⟨hyes, s1, e0, e1⟩
    · simp [lb_law_1, hb false (by simp [hno]), e1, eA, eD, atI_eq, d0, d1, dl, kl, eKi, eQ, lstAt_appk, lstAt_app0, eN, eS]
      exact ⟨_, _, ⟨rfl, rfl⟩, fin _ _ _ _ _ _ _ _ _ _ hq1 hlater hpast' (by omega)⟩
    · simp [lb_law_1, hb true (by simp [hyes]), e0, e1, eA, eD, atI_eq, d0, d1, dl, kl, eKi, eQ, lstAt_appk, lstAt_app0, eN, eS]
      exact ⟨_, _, ⟨rfl, rfl⟩, fin _ _ _ _ _ _ _ _ _ _ hq1 hlater hpast' (by omega)⟩
/-- all is taken back -/
theorem undo_law {ns : List Int} {q : List D} {r : Sto} {a b c d e f : Option D} {pl0 : D} : ∀ (n : Nat) (past : List D) (pl : D), past.length = n → PlanD pl → (∀ x ∈ past, PlanD x) → ∃ pl', PlanD pl' ∧
    whileF (den wc_law_1).t (denS wb_law_1) [some (.frz (ns.map .int)), some (.loc 0), some pl0, some (.loc 1), some (.loc 3), a, b, c, d, e, f] (yS q pl past past r) = .nx [some (.frz (ns.map .int)), some (.loc 0), some pl0, some (.loc 1), some (.loc 3), a, b, c, d, e, f] (yS q pl' [] [] r)
  | 0, past, pl, hn, h, _ => by
    have : past = [] := List.length_eq_zero_iff.mp hn
    subst this
    refine ⟨pl, h, whileF_end ?_⟩
    simp [wc_law_1]
  | n + 1, past, pl, hn, h, hp => by
    have hne : past ≠ [] := by intro z; subst z; cases hn
    obtain ⟨past', y, rfl⟩ : ∃ p l, past = p ++ [l] := ⟨past.dropLast, past.getLast hne, (List.dropLast_concat_getLast hne).symm⟩
    have hy : PlanD y := hp y (by simp)
    obtain ⟨pl', h', e⟩ := undo_law (ns := ns) (q := q) (r := r) (a := a) (b := b) (c := c) (d := d) (e := e) (f := f) (pl0 := pl0) n past' y (by simpa using hn) hy fun x hx => hp x (by simp [hx])
    refine ⟨pl', h', whileF_turn (st1 := yS q pl (past' ++ [y]) (past' ++ [y]) r) ?_ ?_ e (by intro z; cases z)⟩
    · simp [wc_law_1]
    · have e1 := back_ok (q := q) (pl := pl) (own := past' ++ [y]) (r := r) hp
      have e2 := now_ok (q := q) (past := past') (own := past' ++ [y]) (r := r) hy
      have e3 := f_same_ok 6 y (yS q y past' past' r) hy.lay
      simp [wb_law_1, e1, e2, e3, pop_eq]
theorem intBits_ge (z : Int) : z.natAbs.log2 ≤ Builtin.Int.intBits z := by
  unfold Builtin.Int.intBits
  split
  · rename_i h
    have e : z = 0 := by simpa using h
    subst e
    decide
  · omega
theorem small_of {z : Int} (h : Builtin.Int.intBits z ≤ 1048576) : Small z := by
  show z.natAbs < 2 ^ 1048577
  have h1 := intBits_ge z
  by_cases h0 : z.natAbs = 0
  · rw [h0]; exact Nat.two_pow_pos _
  · rw [← Nat.log2_lt h0]; omega
theorem law_pure : ∀ ns : List Int, ns.length ≤ 63 → (∀ z ∈ ns, Builtin.Int.intBits z ≤ 1048576) → ∃ st, f_law [.frz (ns.map .int)] [] = .ok (.bl true) st := by
  intro ns hl hb
  have hs : ∀ z ∈ ns, Small z := fun z hz => small_of (hb z hz)
  obtain ⟨q0, hP0, e0⟩ := f_pool_ok hs (at_ := 0) (by decide) (st := [])
  obtain ⟨pl, q1, hP1, hpl, e1⟩ := f_plan_ok hs (b := 0) (by decide) (st := [.lst q0]) (p := 0) (by simp) hP0
  obtain ⟨m, q2, hP2, m0, m1, e2⟩ := f_next_ok hs (b := 500) (by decide) (st := yS q1 pl [] [] []) (p := 0) (by simp) (by simpa using hP1) (size := 24) (by decide) (big_lt (n := 24) (by decide))
  have em : makeD f_Yard_init 14 [pl] [.lst q1] = .ok (.loc 1) [.lst q1, .ins 14 [(51, pl), (49, .non), (50, .loc 2)], .lst []] := by
    show (f_Yard_init [.loc 1, pl] [.lst q1, .ins 14 []]).bind _ = _
    rw [init_ok]; rfl
  have hf : [O.lst q1, O.ins 14 [(51, pl), (49, .non), (50, .loc 2)], O.lst [], O.lst []] = yS q1 pl [] [] [] := rfl
  have e0' : f_w_pool [.frz (ns.map .int), .int 0] [] = .ok (.loc 0) [.lst q0] := e0
  have e1' : f_w_plan [.loc 0] [.lst q0] = .ok pl [.lst q1] := e1
  have e2' : f_w_next [.loc 0, .int 24] (yS q1 pl [] [] []) = .ok (.int m) (yS q2 pl [] [] []) := e2
  refine ⟨[], ?_⟩
  unfold f_law
  simp [b_law, e0', e1', em, hf, e2', cut_to]
  generalize hJ : (if 4 + m < ((min 60 ns.length : Nat) : Int) then ((min 60 ns.length : Nat) : Int) else 4 + m) = J
  have J0 : 0 ≤ J := by subst hJ; split <;> omega
  have J1 : J ≤ 60 := by subst hJ; split <;> omega
  have rg : rgOk J := ⟨by omega, by omega⟩
  obtain ⟨ρ', st', eL, hLI⟩ := forF_ix (t := .one 5) (live := []) (body := denS lb_law_1) (l := (List.range J.toNat).map fun i => D.int (i : Nat)) (LI ns)
    (fun i d ρ s hd hI => by
      have hi : i < J.toNat := by
        have := (List.getElem?_eq_some_iff.mp hd).1
        simpa using this
      have hd' : d = .int i := by
        rw [List.getElem?_map, List.getElem?_range hi] at hd
        exact (Option.some.inj hd).symm
      subst hd'
      obtain ⟨ρ2, st2, e, h2⟩ := turn_law hs (by omega) hI
      exact ⟨live_nil.mpr trivial, _, ρ2, st2, asgOne _ _, e, h2⟩) (fun _ _ _ => live_nil.mpr trivial)
    (ρ := [some (.frz (ns.map .int)), some (.loc 0), some pl, some (.loc 1), some (.loc 3), none, none, none, none, none, none]) (st := yS q2 pl [] [] [O.lst (List.take 60 (List.map D.int ns))])
    ⟨q2, pl, [], _, _, _, _, _, _, _, pool_len hP2 (by omega), hpl, (by simp), (by simp), rfl, rfl⟩
  obtain ⟨q3, pl3, past, r3, a, b, c, d, e, f, hP3, hpl3, hpast, hlen, rfl, rfl⟩ := hLI
  obtain ⟨pl', hpl', eW⟩ := undo_law (ns := ns) (q := q3) (r := r3) (a := a) (b := b) (c := c) (d := d) (e := e) (f := f) (pl0 := pl3) past.length past pl3 rfl hpl3 hpast
  have eA : f_w_ask [.loc 1, .tup [.int 3, .non]] (yS q3 pl' [] [] r3) = .exc (clsOf 3) (payOf 3) (yS q3 pl' [] [] r3) := by
    obtain ⟨bs, rs, gs, rfl, _⟩ := id hpl'
    have e := back_no (q := q3) (past := []) (own := []) (r := r3) hpl' (by simp) (by simp) rfl
    unfold f_w_ask
    simp [b_w_ask, atI_eq, e]
    exact gcx_same keep_refl (by intro d hd; cases hd) rfl
  have eD := done_no (q := q3) (own := []) (r := r3) (.inr (.inr rfl)) eA
  simp [rg, eL, eW, eD]
  exact gc_val (st0 := []) (d := .bl true) (fun k hk => absurd hk (by simp)) rfl
end M1
namespace M1
open PySem PySem.Spec L2 PyProof.Rows
def loose0 : List Str := ["__name__", "_wall", "left", "meets", "unit", "givens", "moved_number", "moved_line", "kept_with", "_law_pool", "_law_next", "_law_wide", "_law_same", "_law_sized", "_law_row", "_law_plan", "_law_deed_of", "_law_after", "_law_ask", "_law_done"]
def loose1 : List Str := ["_law_kinds", "YardError", "NoNumber", "NoRow", "NoChange", "BelowNought", "NoText", "NoName", "Twice", "TooGreat", "Yard", "MOST_ROWS"]
def looseW : List Str := loose0 ++ (loose1)
theorem run (w : World) : HandSHeadRun.RunEq RowW (PySem.W.view RowW.prog [36]) hkW ob 4000 looseW w := by
  intro os
  kernel_rfl
end M1
namespace M1
open PySem PySem.Spec L2 PyProof.Rows
theorem ps_law (w : World) (K : PySem.W.Frag) (mg : Str → Option Value) (c : SaysM txt K) : ∃ fd, (∀ base, K.In base → base.Ns mainGlobals mg → FnOk PySem.Challenge.rw_cutyard_k66_a_yard_changed.prog w K mg base (L2.CX PySem.Challenge.rw_cutyard_k66_a_yard_changed.prog w) 8 (He.fAd K ("law", none)) fd ["_law_script"] (spM K 1 f_law)) ∧ ∀ (s : Shared) (u : Value), BindsTo s fd ⟨[u], []⟩ [("_law_script", u)] :=
  last_ (P := PySem.Challenge.rw_cutyard_k66_a_yard_changed.prog) (w := w) (mg := mg) c (d := D_law) (mem_fn 26 rfl) (N := N_law) (x := "_law_script") (b := b_law) (lev := 7) (by decide +kernel) (by decide +kernel) (by decide +kernel) rfl (fun _ _ _ _ _ _ us hl => match us, hl with | [_], _ => rfl) (l := [.fn "_law_pool" f_w_pool, .fn "_law_plan" f_w_plan, .mk 14 f_Yard_init, .fn "_law_next" f_w_next, .fn "_law_pool" f_w_pool, .fn "_law_deed_of" f_w_deed_of, .fn "_law_after" f_w_after, .fn "_law_done" f_w_done, .fn "_law_kinds" f_w_kinds, .fn "_law_same" (f_w_same 6), .mt 14 "plan_now" f_Yard_plan_now, .mt 14 "back" f_Yard_back, .fn "_law_same" (f_w_same 6), .mt 14 "plan_now" f_Yard_plan_now, .fn "_law_done" f_w_done]) rfl (fun base s => frees s) fun base s => ⟨((DefOk.fn s (ok_w_pool s) (mem_fa 48 rfl)).mono (by decide : 1 ≤ 7)), ((DefOk.fn s (ok_w_plan s) (mem_fa 49 rfl)).mono (by decide : 5 ≤ 7)), ((DefOk.make s (ok_Yard_init s) (mem_fa 50 rfl) (mem_fa 51 rfl)).mono (by decide : 2 ≤ 7)), ((DefOk.fn s (ok_w_next s) (mem_fa 20 rfl)).mono (by decide : 1 ≤ 7)), ((DefOk.fn s (ok_w_pool s) (mem_fa 48 rfl)).mono (by decide : 1 ≤ 7)), ((DefOk.fn s (ok_w_deed_of s) (mem_fa 52 rfl)).mono (by decide : 5 ≤ 7)), ((DefOk.fn s (ok_w_after s) (mem_fa 53 rfl)).mono (by decide : 1 ≤ 7)), ((DefOk.fn s (ok_w_done s) (mem_fa 54 rfl)).mono (by decide : 6 ≤ 7)), ((DefOk.fn s (ok_w_kinds s) (mem_fa 55 rfl)).mono (by decide : 6 ≤ 7)), ((DefOk.fn s (ok_w_same s) (mem_fa 47 rfl)).mono (by decide : 7 ≤ 7)), ((DefOk.mt s (ok_Yard_plan_now s) (by decide +kernel) (mem_fa 24 rfl) (mem_fa 56 rfl)).mono (by decide : 1 ≤ 7)), ((DefOk.mt s (ok_Yard_back s) (by decide +kernel) (mem_fa 24 rfl) (mem_fa 45 rfl)).mono (by decide : 1 ≤ 7)), ((DefOk.fn s (ok_w_same s) (mem_fa 47 rfl)).mono (by decide : 7 ≤ 7)), ((DefOk.mt s (ok_Yard_plan_now s) (by decide +kernel) (mem_fa 24 rfl) (mem_fa 56 rfl)).mono (by decide : 1 ≤ 7)), ((DefOk.fn s (ok_w_done s) (mem_fa 54 rfl)).mono (by decide : 6 ≤ 7)), trivial⟩
end M1
open PySem PySem.W PySem.Calls PyProof.Rows
theorem PySem.Challenge.cw_cutyard_k66_a_yard_changed_holds : PySem.Challenge.rw_cutyard_k66_a_yard_changed.Holds := by
  w_on; o_law
  refine HandSHeadRun.head_any (r := OpenLaw.row PySem.Challenge.rw_cutyard_k66_a_yard_changed) (q := view (OpenLaw.row PySem.Challenge.rw_cutyard_k66_a_yard_changed).prog [36]) (H := M1.hkW) (ob := M1.ob) (M := 4000) (loose := M1.looseW) (d := HandSHeadRun.topDef (OpenLaw.row PySem.Challenge.rw_cutyard_k66_a_yard_changed).prog 36) (kwd := []) M1.ob_eq
    (by kernel_rfl) (fun s => by kernel_rfl) M1.run (by kernel_rfl) (by kernel_rfl) (by kernel_rfl) (by rfl) (by first | assumption | decide +kernel) (by decide +kernel) ⟨rfl, rfl, rfl, rfl, rfl, by decide +kernel⟩ ?hw ?hc
  case hw => w_witness2
  case hc =>
    have en : (HandSHeadRun.topDef (OpenLaw.row PySem.Challenge.rw_cutyard_k66_a_yard_changed).prog 36).name = ("law" : PySem.Str) := by kernel_rfl
    refine M1.walk_M (l := PySem.Challenge.rw_cutyard_k66_a_yard_changed) (n := 63) (k := 8) (x := "_law_script") (t := M1.txt) (f := M1.f_law) (j := 4) rfl (by decide) (by kernel_rfl) ⟨rfl, by decide, by decide⟩ (fun w K mg c => ?ps) ?g M1.law_pure
    case ps => rw [en]; exact M1.ps_law w K mg c
    case g => rw [en]; exact M1.mem_fa 57 rfl
