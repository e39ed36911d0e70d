import PyProof.Rows.All
import Wide.All
import OpenK.AllK
import Wide.FinOn
import HandS.ForMost
import HandS.ForExc
import HandS.Evl
import HandS.AnyAll
import HandS.TupAny
import HandS.TupMul
import HandS.IsInst
import HandS.Style
import HandS.Conv
import HandS.StrMore
import HandS.Codes
import HandS.Deep
import HandS.SortInts
import HandS.Wide
import HandS.Zip
import HandS.Rev
import PyProof.P3In
import HandS.Text
import PyProof.WalksMore
import HandS.More
import HandS.Walk
import HandS.TryOnly
import HandS.Flow
import HandS.GenList
import HandS.Lambda
import HandS.RevTup
import HandS.Defaults
import HandS.HeadWalk
import HandS.HeadHook4
import HandS.SortRule
import HandS.Star
import KE.GoesMore
import KE.DataFind
import PyProof.Draws
import PyProof.EnumMake
import HandS.Head2
import PySem.Challenge.RW_lostastold_k81_whole_checks_and_bodies_b
set_option Elab.async false
set_option linter.all false
set_option maxRecDepth 100000
/-! The value layer: data, store, what stands for what, results, judgements. -/
namespace M
open PySem PySem.Spec PyProof.Rows L2

/-- data: immutable values (lst: a list that nobody changes; fro: one that is locked from outside, as the script), and loc n: the n-th mutable object of the store -/
inductive D where
  | non | bl (b : Bool) | int (i : Int) | str (x : Str) | tup (xs : List D) | lst (xs : List D) | fro (xs : List D) | loc (n : Nat) | ref (a : Addr) | ty (n : String)
  deriving Inhabited
/-- a mutable object -/
inductive OB where
  | lst (xs : List D)
abbrev Store := List OB
abbrev Env := List (Option D)
/-- where the objects of the store stand; what is hidden: lists that are being made -/
structure Rh where
  l : List Addr
  h : List Addr
/-- the tables of code objects of the defs -/
class Tabs where
  t : List Addr
variable [Tabs]

/-- a list of the head's -/
def KL (K : PySem.W.Frag) (a : Addr) (xs : List V) : Prop := ∃ (o : Obj) (its : Array Value) (n : Nat), K.lookup a = some o ∧ o.cls = .type "list" ∧ o.dict = none ∧ o.data = .seq its n ∧ its.size ≤ sizeLine ∧ Vals xs its.toList
mutual
inductive RepD (K : PySem.W.Frag) (ρ : Rh) (H : Hp) : D → V → Prop
  | non : RepD K ρ H .non .non
  | bl (b : Bool) : RepD K ρ H (.bl b) (.bl b)
  | int (i : Int) : RepD K ρ H (.int i) (.int i)
  | str (x : Str) : RepD K ρ H (.str x) (.str x)
  | tup {a : Addr} {vs : List V} {ds : List D} : SqT K H a vs → RepDs K ρ H ds vs → RepD K ρ H (.tup ds) (.ref a)
  | lst {a : Addr} {vs : List V} {ds : List D} : H a = some (.lst vs) → a ∉ ρ.l → a ∉ ρ.h → RepDs K ρ H ds vs → RepD K ρ H (.lst ds) (.ref a)
  | fro {a : Addr} {vs : List V} {ds : List D} : Rd H a (.lst vs) → a ∉ ρ.l → a ∉ ρ.h → RepDs K ρ H ds vs → RepD K ρ H (.fro ds) (.ref a)
  | frk {a : Addr} {vs : List V} {ds : List D} : KL K a vs → RepDs K ρ H ds vs → RepD K ρ H (.fro ds) (.ref a)
  | loc {n : Nat} {a : Addr} : ρ.l[n]? = some a → RepD K ρ H (.loc n) (.ref a)
  | ref (a : Addr) : RepD K ρ H (.ref a) (.ref a)
  | ty (n : String) : RepD K ρ H (.ty n) (.ty n)
inductive RepDs (K : PySem.W.Frag) (ρ : Rh) (H : Hp) : List D → List V → Prop
  | nil : RepDs K ρ H [] []
  | cons {d : D} {ds : List D} {v : V} {vs : List V} : RepD K ρ H d v → RepDs K ρ H ds vs → RepDs K ρ H (d :: ds) (v :: vs)
end

/-- an object of the store stands at a -/
def ObRel (K : PySem.W.Frag) (ρ : Rh) (H : Hp) (a : Addr) : OB → Prop
  | .lst ds => ∃ vs, H a = some (.lst vs) ∧ RepDs K ρ H ds vs
/-- the object at c is a code object whose table stands at P -/
def CodeX (c P : Addr) : HO := .ext fun h => PySem.W.CodeHd h c P
/-- a table of code objects, each with its own table -/
def TabN (H : Hp) (P : Addr) : Prop := ∃ ps : Array Value, H P = some (.tbl ps) ∧ TriplesOk ps.toList ∧ ∀ (pos : Pos) (cv : Value), codeAmong pos ps.toList = some cv → ∃ c P' qs, cv = .ref c ∧ H c = some (CodeX c P') ∧ H P' = some (.tbl qs) ∧ TriplesOk qs.toList
theorem tabN_upd {H : Hp} {a p : Addr} {o : HO} (t : TabN H a) (hp : ∀ o', H p = some o' → ∃ vs, o' = .lst vs) : TabN (upd H p o) a := by
  obtain ⟨ps, e, k, d⟩ := t
  have ne : ∀ b u, H b = some u → (∀ vs, u ≠ .lst vs) → b ≠ p := fun b u e n z => by
    rw [z] at e
    obtain ⟨vs, q⟩ := hp u e
    exact n vs q
  refine ⟨ps, by rw [upd_ne (ne a _ e fun _ z => by cases z)]; exact e, k, fun pos cv hc => ?_⟩
  obtain ⟨c, P', qs, h1, h2, h3, h4⟩ := d pos cv hc
  exact ⟨c, P', qs, h1, by rw [upd_ne (ne c _ h2 fun _ z => by cases z)]; exact h2, by rw [upd_ne (ne P' _ h3 fun _ z => by cases z)]; exact h3, h4⟩
/-- H' b is no table -/
abbrev NT (o : HO) : Prop := ∀ ps, o ≠ .tbl ps
structure Rel (K : PySem.W.Frag) (ρ : Rh) (H : Hp) (S : Store) : Prop where
  len : ρ.l.length = S.length
  nd : ρ.l.Nodup
  at_ : ∀ (n : Nat) (o : OB) (a : Addr), S[n]? = some o → ρ.l[n]? = some a → ObRel K ρ H a o
  hid : ∀ a ∈ ρ.h, ∃ vs, H a = some (.lst vs)
  tab : ∀ a ∈ Tabs.t, TabN H a
/-- the heap has grown; only what ρ tells of may have changed -/
structure Fr (ρ : Rh) (H : Hp) (ρ' : Rh) (H' : Hp) : Prop where
  new : ∃ l, ρ' = ⟨ρ.l ++ l, ρ.h⟩ ∧ ∀ a ∈ l, H a = none
  keep : ∀ a o, H a = some o → a ∉ ρ.l → NT o → H' a = some o
  live : ∀ a o, H a = some o → ∃ o', H' a = some o'
def EnvRel (K : PySem.W.Frag) (ρ : Rh) (H : Hp) (σ : L2.St) (e : Env) : Prop :=
  σ.length = e.length ∧ ∀ (i : Nat) (d : D), e[i]? = some (some d) → ∃ v, σ[i]? = some (some v) ∧ RepD K ρ H d v

theorem Fr.refl (ρ : Rh) (H : Hp) : Fr ρ H ρ H := ⟨⟨[], by simp, by simp⟩, fun _ _ h _ _ => h, fun a o h => ⟨o, h⟩⟩
theorem Fr.trans {ρ ρ1 ρ2 : Rh} {H H1 H2 : Hp} (f : Fr ρ H ρ1 H1) (g : Fr ρ1 H1 ρ2 H2) : Fr ρ H ρ2 H2 := by
  obtain ⟨l, rfl, hl⟩ := f.new
  obtain ⟨k, rfl, hk⟩ := g.new
  refine ⟨⟨l ++ k, by simp, fun a m => ?_⟩, fun a o h n nt => g.keep a o (f.keep a o h n nt) (fun m => ?_) nt, fun a o h => ?_⟩
  · rcases List.mem_append.mp m with m | m
    · exact hl a m
    · cases q : H a with
      | none => rfl
      | some o =>
        obtain ⟨o', z⟩ := f.live a o q
        rw [hk a m] at z; cases z
  · rcases List.mem_append.mp m with m | m
    · exact n m
    · rw [hl a m] at h; cases h
  · obtain ⟨o', z⟩ := f.live a o h
    exact g.live a o' z
/-- a new object that the store does not tell of -/
theorem Fr.laid {ρ : Rh} {H : Hp} {p : Addr} {o : HO} (h : H p = none) : Fr ρ H ρ (upd H p o) :=
  ⟨⟨[], by simp, by simp⟩, fun a u e _ _ => by rw [upd_ne (ne_of_none e h)]; exact e, fun a u e => ⟨u, by rw [upd_ne (ne_of_none e h)]; exact e⟩⟩
/-- .. that it tells of from now on -/
theorem Fr.laidL {ρ : Rh} {H : Hp} {p : Addr} {o : HO} (h : H p = none) : Fr ρ H ⟨ρ.l ++ [p], ρ.h⟩ (upd H p o) :=
  ⟨⟨[p], rfl, by simpa using h⟩, fun a u e _ _ => by rw [upd_ne (ne_of_none e h)]; exact e, fun a u e => ⟨u, by rw [upd_ne (ne_of_none e h)]; exact e⟩⟩
/-- an object of the store is changed -/
theorem Fr.put {ρ : Rh} {H : Hp} {p : Addr} {o : HO} (h : p ∈ ρ.l) : Fr ρ H ρ (upd H p o) :=
  ⟨⟨[], by simp, by simp⟩, fun a u e n _ => by
    have z : a ≠ p := fun z => n (by rw [z]; exact h)
    rw [upd_ne z]; exact e, fun a u e => by
    by_cases z : a = p
    · exact ⟨o, by rw [z, upd_same]⟩
    · exact ⟨u, by rw [upd_ne z]; exact e⟩⟩
theorem Fr.at_ {ρ ρ' : Rh} {H H' : Hp} (f : Fr ρ H ρ' H') {n : Nat} {a : Addr} (h : ρ.l[n]? = some a) : ρ'.l[n]? = some a := by
  obtain ⟨l, rfl, _⟩ := f.new
  show (ρ.l ++ l)[n]? = some a
  rw [List.getElem?_append_left (List.getElem?_eq_some_iff.mp h).1]; exact h

theorem Fr.hid {ρ ρ' : Rh} {H H' : Hp} (f : Fr ρ H ρ' H') : ρ'.h = ρ.h := by obtain ⟨l, rfl, _⟩ := f.new; rfl
/-- what ρ tells of is no tuple -/
def Free (ρ : Rh) (H : Hp) : Prop := ∀ a ∈ ρ.l, ∃ vs, H a = some (.lst vs)
theorem Rel.free {K : PySem.W.Frag} {ρ : Rh} {H : Hp} {S : Store} (r : Rel K ρ H S) : Free ρ H := fun a m => by
  obtain ⟨n, hn, e⟩ := List.mem_iff_getElem.mp m
  have e1 : ρ.l[n]? = some a := List.getElem?_eq_some_iff.mpr ⟨hn, e⟩
  have hs : n < S.length := by rw [← r.len]; exact hn
  have q := r.at_ n S[n] a (List.getElem?_eq_getElem hs) e1
  cases h : S[n] with
  | lst ds => rw [h] at q; obtain ⟨vs, z, _⟩ := q; exact ⟨vs, z⟩
theorem sqt_fr {K : PySem.W.Frag} {ρ ρ' : Rh} {H H' : Hp} (F : Free ρ H) (f : Fr ρ H ρ' H') {a : Addr} {vs : List V} (h : SqT K H a vs) : SqT K H' a vs := by
  have key : ∀ o, H a = some o → (∀ ws, o ≠ .lst ws) → NT o → H' a = some o := fun o e ne nt => f.keep a o e (fun m => by
    obtain ⟨ws, z⟩ := F a m
    rw [e] at z
    exact ne ws (Option.some.inj z)) nt
  rcases h with (h | ⟨o, h⟩) | h
  · exact .inl (.inl (key _ h (fun ws z => by cases z) fun ps z => by cases z))
  · exact .inl (.inr ⟨o, key _ h (fun ws z => by cases z) fun ps z => by cases z⟩)
  · exact .inr h
theorem rd_fr {ρ ρ' : Rh} {H H' : Hp} (f : Fr ρ H ρ' H') {a : Addr} {ws : List V} (h : Rd H a (.lst ws)) (n : a ∉ ρ.l) : Rd H' a (.lst ws) ∧ a ∉ ρ'.l := by
  obtain ⟨l, rfl, hl⟩ := f.new
  have nn : ∀ o, H a = some o → a ∉ ρ.l ++ l := fun o e m => by
    rcases List.mem_append.mp m with m | m
    · exact n m
    · rw [hl a m] at e; cases e
  rcases h with h | ⟨o, h⟩
  · exact ⟨.inl (f.keep a _ h n fun ps z => by cases z), nn _ h⟩
  · exact ⟨.inr ⟨o, f.keep a _ h n fun ps z => by cases z⟩, nn _ h⟩
mutual
theorem RepD.fr {K : PySem.W.Frag} {ρ ρ' : Rh} {H H' : Hp} (F : Free ρ H) (f : Fr ρ H ρ' H') : ∀ (d : D) (v : V), RepD K ρ H d v → RepD K ρ' H' d v
  | .non, _, h => by cases h; exact .non
  | .bl b, _, h => by cases h; exact .bl b
  | .int i, _, h => by cases h; exact .int i
  | .str x, _, h => by cases h; exact .str x
  | .tup ds, _, h => by
    cases h with
    | tup hs hd => exact .tup (sqt_fr F f hs) (RepDs.fr F f ds _ hd)
  | .lst ds, _, h => by
    cases h with
    | lst hs hn hh hd =>
      obtain ⟨_, b⟩ := rd_fr f (Rd.of hs) hn
      exact .lst (f.keep _ _ hs hn fun ps z => by cases z) b (by rw [f.hid]; exact hh) (RepDs.fr F f ds _ hd)
  | .fro ds, _, h => by
    cases h with
    | fro hs hn hh hd =>
      obtain ⟨a, b⟩ := rd_fr f hs hn
      exact .fro a b (by rw [f.hid]; exact hh) (RepDs.fr F f ds _ hd)
    | frk hk hd => exact .frk hk (RepDs.fr F f ds _ hd)
  | .loc n, _, h => by
    cases h with
    | loc e => exact .loc (f.at_ e)
  | .ref a, _, h => by cases h; exact .ref a
  | .ty n, _, h => by cases h; exact .ty n
theorem RepDs.fr {K : PySem.W.Frag} {ρ ρ' : Rh} {H H' : Hp} (F : Free ρ H) (f : Fr ρ H ρ' H') : ∀ (ds : List D) (vs : List V), RepDs K ρ H ds vs → RepDs K ρ' H' ds vs
  | [], _, h => by cases h; exact .nil
  | d :: ds, _, h => by
    cases h with
    | cons h1 h2 => exact .cons (RepD.fr F f d _ h1) (RepDs.fr F f ds _ h2)
end
theorem EnvRel.fr {K : PySem.W.Frag} {ρ ρ' : Rh} {H H' : Hp} {σ : L2.St} {e : Env} (F : Free ρ H) (f : Fr ρ H ρ' H') (h : EnvRel K ρ H σ e) : EnvRel K ρ' H' σ e :=
  ⟨h.1, fun i d q => let ⟨v, a, b⟩ := h.2 i d q; ⟨v, a, RepD.fr F f d v b⟩⟩
section
variable {K : PySem.W.Frag} {ρ : Rh} {H : Hp} {ds es : List D} {vs ws : List V}
theorem RepDs.length : ∀ {ds : List D} {vs : List V}, RepDs K ρ H ds vs → ds.length = vs.length
  | [], _, h => by cases h; rfl
  | _ :: ds, _, h => by
    cases h with
    | cons h1 h2 => simp [RepDs.length h2]
theorem RepDs.get : ∀ {ds : List D} {vs : List V} {i : Nat} {d : D}, RepDs K ρ H ds vs → ds[i]? = some d → ∃ v, vs[i]? = some v ∧ RepD K ρ H d v
  | [], _, _, _, h, e => by simp at e
  | d :: ds, _, 0, _, h, e => by
    cases h with
    | cons h1 h2 => simp at e; subst e; exact ⟨_, rfl, h1⟩
  | d :: ds, _, i + 1, _, h, e => by
    cases h with
    | cons h1 h2 =>
      obtain ⟨v, a, b⟩ := RepDs.get (i := i) h2 (by simpa using e)
      exact ⟨v, by simpa using a, b⟩
theorem RepDs.getV : ∀ {ds : List D} {vs : List V} {i : Nat} {v : V}, RepDs K ρ H ds vs → vs[i]? = some v → ∃ d, ds[i]? = some d ∧ RepD K ρ H d v := fun {ds vs i v} h e => by
  have hl := h.length
  have hi : i < ds.length := by rw [hl]; exact (List.getElem?_eq_some_iff.mp e).1
  obtain ⟨w, a, b⟩ := h.get (List.getElem?_eq_getElem hi)
  rw [e] at a; cases a
  exact ⟨_, List.getElem?_eq_getElem hi, b⟩
theorem RepDs.append : ∀ {ds es : List D} {vs ws : List V}, RepDs K ρ H ds vs → RepDs K ρ H es ws → RepDs K ρ H (ds ++ es) (vs ++ ws)
  | [], _, _, _, h, g => by cases h; exact g
  | _ :: _, _, _, _, h, g => by
    cases h with
    | cons h1 h2 => exact .cons h1 (RepDs.append h2 g)
theorem RepDs.take : ∀ {ds : List D} {vs : List V} (n : Nat), RepDs K ρ H ds vs → RepDs K ρ H (ds.take n) (vs.take n)
  | _, _, 0, _ => by simp; exact .nil
  | [], _, n + 1, h => by cases h; exact .nil
  | _ :: _, _, n + 1, h => by
    cases h with
    | cons h1 h2 => exact .cons h1 (RepDs.take n h2)
theorem RepDs.drop : ∀ {ds : List D} {vs : List V} (n : Nat), RepDs K ρ H ds vs → RepDs K ρ H (ds.drop n) (vs.drop n)
  | _, _, 0, h => by simpa using h
  | [], _, n + 1, h => by cases h; exact .nil
  | _ :: _, _, n + 1, h => by
    cases h with
    | cons h1 h2 => exact RepDs.drop n h2
theorem RepDs.set {d : D} {v : V} (r : RepD K ρ H d v) : ∀ {ds : List D} {vs : List V} (i : Nat), RepDs K ρ H ds vs → RepDs K ρ H (ds.set i d) (vs.set i v)
  | [], _, _, h => by cases h; exact .nil
  | _ :: _, _, 0, h => by
    cases h with
    | cons h1 h2 => exact .cons r h2
  | _ :: _, _, i + 1, h => by
    cases h with
    | cons h1 h2 => exact .cons h1 (RepDs.set r i h2)
theorem RepDs.of_get : ∀ {ds : List D} {vs : List V}, ds.length = vs.length → (∀ (i : Nat) (d : D) (v : V), ds[i]? = some d → vs[i]? = some v → RepD K ρ H d v) → RepDs K ρ H ds vs
  | [], [], _, _ => .nil
  | [], _ :: _, h, _ => by simp at h
  | _ :: _, [], h, _ => by simp at h
  | d :: ds, v :: vs, h, q => .cons (q 0 d v rfl rfl) (RepDs.of_get (by simpa using h) fun i e w a b => q (i + 1) e w (by simpa using a) (by simpa using b))
theorem RepDs.reverse (h : RepDs K ρ H ds vs) : RepDs K ρ H ds.reverse vs.reverse := by
  have hl := h.length
  refine .of_get (by simp [hl]) fun i d v a b => ?_
  have hi : i < ds.length := by have := (List.getElem?_eq_some_iff.mp a).1; simpa using this
  rw [List.getElem?_reverse hi] at a
  rw [List.getElem?_reverse (by omega)] at b
  obtain ⟨w, c, r⟩ := h.get a
  rw [hl, b] at c; cases c
  exact r
theorem RepD.inj_int {i : Int} {v : V} (h : RepD K ρ H (.int i) v) : v = .int i := by cases h; rfl
theorem RepD.inj_str {x : Str} {v : V} (h : RepD K ρ H (.str x) v) : v = .str x := by cases h; rfl
theorem RepD.inj_bl {b : Bool} {v : V} (h : RepD K ρ H (.bl b) v) : v = .bl b := by cases h; rfl
theorem RepD.inj_non {v : V} (h : RepD K ρ H .non v) : v = .non := by cases h; rfl
theorem RepDs.ints : ∀ {ns : List Int} {vs : List V}, RepDs K ρ H (ns.map D.int) vs → vs = ns.map V.int
  | [], _, h => by cases h; rfl
  | n :: ns, _, h => by
    cases h with
    | cons h1 h2 => rw [h1.inj_int, RepDs.ints h2]; rfl
theorem RepDs.strs : ∀ {ns : List Str} {vs : List V}, RepDs K ρ H (ns.map D.str) vs → vs = ns.map V.str
  | [], _, h => by cases h; rfl
  | n :: ns, _, h => by
    cases h with
    | cons h1 h2 => rw [h1.inj_str, RepDs.strs h2]; rfl
theorem RepDs.of_ints : ∀ (ns : List Int), RepDs K ρ H (ns.map D.int) (ns.map V.int)
  | [] => .nil
  | n :: ns => .cons (.int n) (RepDs.of_ints ns)
theorem RepDs.of_strs : ∀ (ns : List Str), RepDs K ρ H (ns.map D.str) (ns.map V.str)
  | [] => .nil
  | n :: ns => .cons (.str n) (RepDs.of_strs ns)
end

/-! ### the relation under the heap's steps -/
section
variable {K : PySem.W.Frag} {ρ : Rh} {H : Hp} {S : Store}
theorem ObRel.fr {ρ' : Rh} {H' : Hp} {a : Addr} {o : OB} (F : Free ρ H) (f : Fr ρ H ρ' H') (h : ObRel K ρ H a o) (k : ∀ u, H a = some u → H' a = some u) : ObRel K ρ' H' a o := by
  cases o with
  | lst ds => obtain ⟨vs, e, r⟩ := h; exact ⟨vs, k _ e, RepDs.fr F f ds vs r⟩
theorem tabG_laid {a p : Addr} {o : HO} (t : TabN H a) (h : H p = none) : TabN (upd H p o) a := tabN_upd t fun o' e => by rw [h] at e; cases e
theorem Rel.laid (r : Rel K ρ H S) {p : Addr} {o : HO} (h : H p = none) : Rel K ρ (upd H p o) S :=
  ⟨r.len, r.nd, fun n u a e1 e2 => (r.at_ n u a e1 e2).fr r.free (Fr.laid h) fun w q => by rw [upd_ne (ne_of_none q h)]; exact q, fun a m => let ⟨vs, z⟩ := r.hid a m; ⟨vs, by rw [upd_ne (ne_of_none z h)]; exact z⟩, fun a m => tabG_laid (r.tab a m) h⟩
theorem Rel.lt (r : Rel K ρ H S) {n : Nat} {o : OB} (e : S[n]? = some o) : ∃ a, ρ.l[n]? = some a ∧ a ∈ ρ.l ∧ ObRel K ρ H a o := by
  have hn : n < ρ.l.length := by rw [r.len]; exact (List.getElem?_eq_some_iff.mp e).1
  exact ⟨ρ.l[n], List.getElem?_eq_getElem hn, List.getElem_mem hn, r.at_ n o _ e (List.getElem?_eq_getElem hn)⟩
theorem Rel.laidL (r : Rel K ρ H S) {p : Addr} {vs : List V} {ds : List D} (h : H p = none) (q : RepDs K ρ H ds vs) : Rel K ⟨ρ.l ++ [p], ρ.h⟩ (upd H p (.lst vs)) (S ++ [.lst ds]) := by
  have np : p ∉ ρ.l := fun m => by obtain ⟨ws, z⟩ := r.free p m; rw [h] at z; cases z
  have f : Fr ρ H ⟨ρ.l ++ [p], ρ.h⟩ (upd H p (.lst vs)) := Fr.laidL h
  refine ⟨by simp [r.len], ?_, fun n u a e1 e2 => ?_, fun a m => let ⟨vs, z⟩ := r.hid a m; ⟨vs, by rw [upd_ne (ne_of_none z h)]; exact z⟩, fun a m => tabG_laid (r.tab a m) h⟩
  · show (ρ.l ++ [p]).Nodup
    rw [List.nodup_append]
    exact ⟨r.nd, by simp, fun a ha b hb => by simp at hb; subst hb; rintro rfl; exact np ha⟩
  · have e2 : (ρ.l ++ [p])[n]? = some a := e2
    by_cases hn : n < S.length
    · rw [List.getElem?_append_left hn] at e1
      rw [List.getElem?_append_left (by rw [r.len]; exact hn)] at e2
      exact (r.at_ n u a e1 e2).fr r.free f fun w q => by rw [upd_ne (ne_of_none q h)]; exact q
    · rw [List.getElem?_append_right (by omega)] at e1
      rw [List.getElem?_append_right (by rw [r.len]; omega)] at e2
      rw [r.len] at e2
      have h0 : n - S.length = 0 := by
        rcases Nat.eq_zero_or_pos (n - S.length) with z | z
        · exact z
        · rw [List.getElem?_eq_none (by simp; omega)] at e1; cases e1
      rw [h0] at e1 e2
      simp at e1 e2
      subst e1 e2
      exact ⟨vs, upd_same, RepDs.fr r.free f ds vs q⟩
theorem Rel.put (r : Rel K ρ H S) {n : Nat} {p : Addr} {vs : List V} {ds : List D} (hp : ρ.l[n]? = some p) (q : RepDs K ρ H ds vs) : Rel K ρ (upd H p (.lst vs)) (S.set n (.lst ds)) := by
  have hn : n < ρ.l.length := (List.getElem?_eq_some_iff.mp hp).1
  have mp : p ∈ ρ.l := List.mem_of_getElem? hp
  have f : Fr ρ H ρ (upd H p (.lst vs)) := Fr.put mp
  refine ⟨by simp [r.len], r.nd, fun m u a e1 e2 => ?_, fun a m => let ⟨ws, z⟩ := r.hid a m; by
    by_cases e : a = p
    · exact ⟨vs, by rw [e, upd_same]⟩
    · exact ⟨ws, by rw [upd_ne e]; exact z⟩, fun a m => by
    refine tabN_upd (r.tab a m) fun o' e => ?_
    obtain ⟨ws, q⟩ := r.free p mp
    rw [q] at e
    exact ⟨ws, (Option.some.inj e).symm⟩⟩
  by_cases hm : m = n
  · subst hm
    rw [hp] at e2; cases e2
    rw [List.getElem?_set_self (by rw [← r.len]; exact hn)] at e1
    cases e1
    exact ⟨vs, upd_same, RepDs.fr r.free f ds vs q⟩
  · rw [List.getElem?_set_ne (Ne.symm hm)] at e1
    have na : a ≠ p := fun z => hm (by
      subst z
      obtain ⟨h1, z1⟩ := List.getElem?_eq_some_iff.mp e2
      obtain ⟨h2, z2⟩ := List.getElem?_eq_some_iff.mp hp
      exact (List.getElem_inj r.nd).mp (z1.trans z2.symm))
    exact (r.at_ m u a e1 e2).fr r.free f fun w q => by rw [upd_ne na]; exact q
end

/-- with one more hidden -/
abbrev Rh.hide (ρ : Rh) (p : Addr) : Rh := ⟨ρ.l, p :: ρ.h⟩
/-! ### hidden lists -/
/-- what ρ' sees too -/
structure Sees (H : Hp) (ρ ρ' : Rh) : Prop where
  loc : ∀ (n : Nat) (a : Addr), ρ.l[n]? = some a → ρ'.l[n]? = some a
  out : ∀ (a : Addr) (vs : List V), Rd H a (.lst vs) → a ∉ ρ.l → a ∉ ρ.h → a ∉ ρ'.l ∧ a ∉ ρ'.h
mutual
theorem RepD.sees {K : PySem.W.Frag} {ρ ρ' : Rh} {H : Hp} (s : Sees H ρ ρ') : ∀ (d : D) (v : V), RepD K ρ H d v → RepD K ρ' H d v
  | .non, _, h => by cases h; exact .non
  | .bl b, _, h => by cases h; exact .bl b
  | .int i, _, h => by cases h; exact .int i
  | .str x, _, h => by cases h; exact .str x
  | .tup ds, _, h => by
    cases h with
    | tup hs hd => exact .tup hs (RepDs.sees s ds _ hd)
  | .lst ds, _, h => by
    cases h with
    | lst hs hn hh hd =>
      obtain ⟨a, b⟩ := s.out _ _ (Rd.of hs) hn hh
      exact .lst hs a b (RepDs.sees s ds _ hd)
  | .fro ds, _, h => by
    cases h with
    | fro hs hn hh hd =>
      obtain ⟨a, b⟩ := s.out _ _ hs hn hh
      exact .fro hs a b (RepDs.sees s ds _ hd)
    | frk hk hd => exact .frk hk (RepDs.sees s ds _ hd)
  | .loc n, _, h => by
    cases h with
    | loc e => exact .loc (s.loc _ _ e)
  | .ref a, _, h => by cases h; exact .ref a
  | .ty n, _, h => by cases h; exact .ty n
theorem RepDs.sees {K : PySem.W.Frag} {ρ ρ' : Rh} {H : Hp} (s : Sees H ρ ρ') : ∀ (ds : List D) (vs : List V), RepDs K ρ H ds vs → RepDs K ρ' H ds vs
  | [], _, h => by cases h; exact .nil
  | d :: ds, _, h => by
    cases h with
    | cons h1 h2 => exact .cons (RepD.sees s d _ h1) (RepDs.sees s ds _ h2)
end
theorem EnvRel.sees {K : PySem.W.Frag} {ρ ρ' : Rh} {H : Hp} {σ : L2.St} {e : Env} (s : Sees H ρ ρ') (h : EnvRel K ρ H σ e) : EnvRel K ρ' H σ e :=
  ⟨h.1, fun i d q => let ⟨v, a, b⟩ := h.2 i d q; ⟨v, a, RepD.sees s d v b⟩⟩
theorem ObRel.sees {K : PySem.W.Frag} {ρ ρ' : Rh} {H : Hp} {a : Addr} {o : OB} (s : Sees H ρ ρ') (h : ObRel K ρ H a o) : ObRel K ρ' H a o := by
  cases o with
  | lst ds => obtain ⟨vs, e, r⟩ := h; exact ⟨vs, e, RepDs.sees s ds vs r⟩
section
variable {K : PySem.W.Frag} {ρ : Rh} {H : Hp} {S : Store} {p : Addr}
theorem rd_some {a : Addr} {u : HO} (h : Rd H a u) : H a ≠ none := by
  rcases h with h | ⟨o, h⟩ <;> (rw [h]; exact fun z => nomatch z)
theorem Sees.hide (h : H p = none) : Sees H ρ (ρ.hide p) := ⟨fun _ _ e => e, fun a vs r n m => ⟨n, fun z => by
  rcases List.mem_cons.mp z with z | z
  · rw [z] at r; exact rd_some r h
  · exact m z⟩⟩
theorem Sees.unhide : Sees H (ρ.hide p) ρ := ⟨fun _ _ e => e, fun a vs r n m => ⟨n, fun z => m (List.mem_cons_of_mem _ z)⟩⟩
theorem Sees.shown : Sees H (ρ.hide p) ⟨ρ.l ++ [p], ρ.h⟩ := ⟨fun n a e => by
    show (ρ.l ++ [p])[n]? = some a
    rw [List.getElem?_append_left (List.getElem?_eq_some_iff.mp e).1]; exact e,
  fun a vs r n m => ⟨fun z => by
    rcases List.mem_append.mp z with z | z
    · exact n z
    · rw [List.mem_singleton] at z
      exact m (by rw [z]; exact List.mem_cons_self), fun z => m (List.mem_cons_of_mem _ z)⟩⟩
/-- a new list is laid, hidden -/
theorem Rel.laidH (r : Rel K ρ H S) (h : H p = none) {vs : List V} : Rel K (ρ.hide p) (upd H p (.lst vs)) S := by
  have r2 := r.laid (o := .lst vs) h
  have np : p ∉ ρ.l := fun m => by obtain ⟨ws, z⟩ := r.free p m; rw [h] at z; cases z
  refine ⟨r.len, r.nd, fun n o a e1 e2 => ?_, fun a m => ?_, r2.tab⟩
  · have q := (r.at_ n o a e1 e2).sees (Sees.hide (p := p) h)
    have F : Free (ρ.hide p) H := r.free
    exact q.fr F (Fr.laid h) fun w q => by rw [upd_ne (ne_of_none q h)]; exact q
  · rcases List.mem_cons.mp m with m | m
    · exact ⟨vs, by rw [m, upd_same]⟩
    · exact r2.hid a m
theorem RepDs.laidH (r : Rel K ρ H S) (h : H p = none) {vs ws : List V} {ds : List D} (q : RepDs K ρ H ds ws) : RepDs K (ρ.hide p) (upd H p (.lst vs)) ds ws :=
  RepDs.fr (ρ := ρ.hide p) (show Free (ρ.hide p) H from r.free) (Fr.laid h) _ _ (RepDs.sees (Sees.hide h) _ _ q)
theorem EnvRel.laidH (r : Rel K ρ H S) (h : H p = none) {vs : List V} {σ : L2.St} {e : Env} (q : EnvRel K ρ H σ e) : EnvRel K (ρ.hide p) (upd H p (.lst vs)) σ e :=
  EnvRel.fr (ρ := ρ.hide p) (show Free (ρ.hide p) H from r.free) (Fr.laid h) (q.sees (Sees.hide h))
theorem Rel.unhide (r : Rel K (ρ.hide p) H S) : Rel K ρ H S := ⟨r.len, r.nd, fun n o a e1 e2 => (r.at_ n o a e1 e2).sees Sees.unhide, fun a m => r.hid a (List.mem_cons_of_mem _ m), r.tab⟩
theorem Rel.newh (r : Rel K ρ H S) (h : H p = none) : p ∉ ρ.l ∧ p ∉ ρ.h := by
  refine ⟨fun m => ?_, fun m => ?_⟩
  · obtain ⟨ws, z⟩ := r.free p m
    rw [h] at z; cases z
  · obtain ⟨ws, z⟩ := r.hid p m
    rw [h] at z; cases z
/-- a hidden list is shown: an object of the store from now on -/
theorem Rel.shown (r : Rel K (ρ.hide p) H S) (hp : p ∉ ρ.l) {vs : List V} {ds : List D} (e : H p = some (.lst vs)) (q : RepDs K (ρ.hide p) H ds vs) : Rel K ⟨ρ.l ++ [p], ρ.h⟩ H (S ++ [.lst ds]) := by
  refine ⟨by simpa using r.len, ?_, fun n u a e1 e2 => ?_, fun a m => r.hid a (List.mem_cons_of_mem _ m), r.tab⟩
  · show (ρ.l ++ [p]).Nodup
    rw [List.nodup_append]
    exact ⟨r.nd, by simp, fun a ha b hb => by simp at hb; subst hb; rintro rfl; exact hp ha⟩
  · have e2 : (ρ.l ++ [p])[n]? = some a := e2
    have hl : ρ.l.length = S.length := r.len
    by_cases hn : n < S.length
    · rw [List.getElem?_append_left hn] at e1
      rw [List.getElem?_append_left (by rw [hl]; exact hn)] at e2
      exact (r.at_ n u a e1 e2).sees Sees.shown
    · rw [List.getElem?_append_right (by omega)] at e1
      rw [List.getElem?_append_right (by rw [hl]; omega), hl] at e2
      have h0 : n - S.length = 0 := by
        rcases Nat.eq_zero_or_pos (n - S.length) with z | z
        · exact z
        · rw [List.getElem?_eq_none (by simp; omega)] at e1; cases e1
      rw [h0] at e1 e2
      simp at e1 e2
      subst e1 e2
      exact ⟨vs, e, RepDs.sees Sees.shown ds vs q⟩
theorem Fr.shown {ρ' : Rh} {H' : Hp} (f : Fr ρ H ρ' H') (h : H p = none) : Fr ρ H ⟨ρ'.l ++ [p], ρ'.h⟩ H' := by
  obtain ⟨l, rfl, hl⟩ := f.new
  refine ⟨⟨l ++ [p], by simp, fun a m => ?_⟩, f.keep, f.live⟩
  rcases List.mem_append.mp m with m | m
  · exact hl a m
  · rw [List.mem_singleton.mp m]; exact h
end

/-! ### results -/
inductive Res (α : Type) where
  | ok (a : α) (S : Store) | ex (c : Str) (S : Store) | bad
def Res.bind {α β : Type} (r : Res α) (f : α → Store → Res β) : Res β := match r with
  | .ok a S => f a S
  | .ex c S => .ex c S
  | .bad => .bad
@[simp] theorem Res.bind_ok {α β : Type} (a : α) (S : Store) (f : α → Store → Res β) : (Res.ok a S).bind f = f a S := rfl
@[simp] theorem Res.bind_ex {α β : Type} (c : Str) (S : Store) (f : α → Store → Res β) : (Res.ex c S : Res α).bind f = .ex c S := rfl
@[simp] theorem Res.bind_bad {α β : Type} (f : α → Store → Res β) : (Res.bad : Res α).bind f = .bad := rfl
abbrev ME := Env → Store → Res D
abbrev MT := Env → Store → Res Bool
abbrev MA := Env → Store → Res (List D)
inductive Fl where
  | nx | rt (d : D) | bk | ct | ex (c : Str)
/-- a statement: how it ends, the slots, the store; none: nothing is known -/
abbrev MS := Env → Store → Option (Fl × Env × Store)

/-! ### readings -/
section
variable (K : PySem.W.Frag) (mg : Str → Option Value) (W : WX)
/-- what a result must lead to: P of the value, the store, what ρ tells and the heap -/
def Post {α : Type} (P : α → Store → Rh → Hp → Prop) (ρ : Rh) (H : Hp) (σ : L2.St) : Res α → Prop
  | .ok a S' => ∀ ρ' H', Fr ρ H ρ' H' → Rel K ρ' H' S' → P a S' ρ' H'
  | .ex c S' => ∀ ρ' H' C, Fr ρ H ρ' H' → Rel K ρ' H' S' → mg c = some (.ref C) → W (.ref C) none σ H'
  | .bad => False
abbrev PostE (ρ : Rh) (H : Hp) (σ : L2.St) (Q : VK) : Res D → Prop := Post K mg W (fun d _ ρ' H' => ∀ v, RepD K ρ' H' d v → Q v H') ρ H σ
abbrev PostT (ρ : Rh) (H : Hp) (σ : L2.St) (Q : Bool → Hp → Prop) : Res Bool → Prop := Post K mg W (fun b _ _ H' => Q b H') ρ H σ
abbrev PostA (ρ : Rh) (H : Hp) (σ : L2.St) (Q : List V → Hp → Prop) : Res (List D) → Prop := Post K mg W (fun ds _ ρ' H' => ∀ vs, RepDs K ρ' H' ds vs → Q vs H') ρ H σ
def PostN (ρ : Rh) (H : Hp) (σ : L2.St) (Q : VK) : Res (List D) → Prop
  | .ok ds S' => ∀ ρ' H' p vs, Fr ρ H ρ' H' → Rel K (ρ'.hide p) H' S' → H p = none → p ∉ ρ'.l → H' p = some (.lst vs) → RepDs K (ρ'.hide p) H' ds vs → Q (.ref p) H'
  | .ex c S' => ∀ ρ' H' C, Fr ρ H ρ' H' → Rel K ρ' H' S' → mg c = some (.ref C) → W (.ref C) none σ H'
  | .bad => False
def PostS (ρ : Rh) (H : Hp) (Dn : Ends) : Option (Fl × Env × Store) → Prop
  | none => False
  | some (.nx, e', S') => ∀ ρ' H' σ', Fr ρ H ρ' H' → Rel K ρ' H' S' → EnvRel K ρ' H' σ' e' → Dn.nx σ' H'
  | some (.rt d, _, S') => ∀ ρ' H' v, Fr ρ H ρ' H' → Rel K ρ' H' S' → RepD K ρ' H' d v → Dn.rt v H'
  | some (.bk, e', S') => ∀ ρ' H' σ', Fr ρ H ρ' H' → Rel K ρ' H' S' → EnvRel K ρ' H' σ' e' → Dn.bk σ' H'
  | some (.ct, e', S') => ∀ ρ' H' σ', Fr ρ H ρ' H' → Rel K ρ' H' S' → EnvRel K ρ' H' σ' e' → Dn.ct σ' H'
  | some (.ex c, e', S') => ∀ ρ' H' σ' C, Fr ρ H ρ' H' → Rel K ρ' H' S' → EnvRel K ρ' H' σ' e' → mg c = some (.ref C) → W (.ref C) none σ' H'
def tE (m : ME) : TE := fun σ H Q => ∃ ρ e S, EnvRel K ρ H σ e ∧ Rel K ρ H S ∧ PostE K mg W ρ H σ Q (m e S)
def tN (m : MA) : TE := fun σ H Q => ∃ ρ e S, EnvRel K ρ H σ e ∧ Rel K ρ H S ∧ PostN K mg W ρ H σ Q (m e S)
def tT (m : MT) : TT := fun σ H Q => ∃ ρ e S, EnvRel K ρ H σ e ∧ Rel K ρ H S ∧ PostT K mg W ρ H σ Q (m e S)
def tA (m : MA) : TA := fun σ H Q => ∃ ρ e S, EnvRel K ρ H σ e ∧ Rel K ρ H S ∧ PostA K mg W ρ H σ Q (m e S)
def tS (m : MS) : TS := fun Dn σ H => ∃ ρ e S, EnvRel K ρ H σ e ∧ Rel K ρ H S ∧ PostS K mg W ρ H Dn (m e S)
end
section
variable {K : PySem.W.Frag} {mg : Str → Option Value} {W : WX} {ρ ρ1 : Rh} {H H1 : Hp} {σ : L2.St}
theorem Post.fr {α : Type} {P : α → Store → Rh → Hp → Prop} (f : Fr ρ H ρ1 H1) : ∀ {r : Res α}, Post K mg W P ρ H σ r → Post K mg W P ρ1 H1 σ r
  | .ok _ _, h => fun ρ' H' g => h ρ' H' (f.trans g)
  | .ex _ _, h => fun ρ' H' C g => h ρ' H' C (f.trans g)
  | .bad, h => h
theorem Post.mono {α : Type} {P P' : α → Store → Rh → Hp → Prop} : ∀ {r : Res α}, Post K mg W P ρ H σ r → (∀ a S ρ' H', Fr ρ H ρ' H' → Rel K ρ' H' S → P a S ρ' H' → P' a S ρ' H') → Post K mg W P' ρ H σ r
  | .ok _ _, h, k => fun ρ' H' g R => k _ _ _ _ g R (h ρ' H' g R)
  | .ex _ _, h, _ => h
  | .bad, h, _ => h
/-- one behind the other -/
theorem Post.bind {α β : Type} {P : β → Store → Rh → Hp → Prop} {f : α → Store → Res β} : ∀ {r : Res α}, Post K mg W P ρ H σ (r.bind f) → Post K mg W (fun a S1 ρ1 H1 => Post K mg W P ρ1 H1 σ (f a S1)) ρ H σ r
  | .ok _ _, h => fun ρ' H' g R => Post.fr g h
  | .ex _ _, h => h
  | .bad, h => h
theorem PostN.fr {Q : VK} (f : Fr ρ H ρ1 H1) : ∀ {r : Res (List D)}, PostN K mg W ρ H σ Q r → PostN K mg W ρ1 H1 σ Q r
  | .ok _ _, h => fun ρ' H' p vs g R n => h ρ' H' p vs (f.trans g) R (by
      cases q : H p with
      | none => rfl
      | some o => obtain ⟨o', z⟩ := f.live p o q; rw [n] at z; cases z)
  | .ex _ _, h => fun ρ' H' C g => h ρ' H' C (f.trans g)
  | .bad, h => h
theorem PostS.fr {Dn : Ends} (f : Fr ρ H ρ1 H1) : ∀ {r : Option (Fl × Env × Store)}, PostS K mg W ρ H Dn r → PostS K mg W ρ1 H1 Dn r
  | none, h => h
  | some (.nx, _, _), h => fun ρ' H' σ' g => h ρ' H' σ' (f.trans g)
  | some (.rt _, _, _), h => fun ρ' H' v g => h ρ' H' v (f.trans g)
  | some (.bk, _, _), h => fun ρ' H' σ' g => h ρ' H' σ' (f.trans g)
  | some (.ct, _, _), h => fun ρ' H' σ' g => h ρ' H' σ' (f.trans g)
  | some (.ex _, _, _), h => fun ρ' H' σ' C g => h ρ' H' σ' C (f.trans g)
end

/-! ### judgements -/
section
variable (X : Cx) (W : WX)
abbrev EM (e : Expr) (m : ME) : Prop := PE X e (tE X.K X.mg W m)
abbrev NM (e : Expr) (m : MA) : Prop := PE X e (tN X.K X.mg W m)
abbrev TM (e : Expr) (m : MT) : Prop := PT X e (tT X.K X.mg W m)
abbrev WM (e : Expr) (m : MT) : Prop := PW X e (tT X.K X.mg W m)
abbrev AM (es : List Expr) (m : MA) : Prop := PA X es (tA X.K X.mg W m)
abbrev SM (s : Stmt) (m : MS) : Prop := PS X s (tS X.K X.mg W m)
abbrev BM (b : List Stmt) (m : MS) : Prop := PSs X b (tS X.K X.mg W m)
end
section
variable {X : Cx} {e : Expr} {es : List Expr} {st : Stmt} {sts : List Stmt}
theorem pe_imp {t t' : TE} (h : PE X e t) (i : ∀ σ H Q, t' σ H Q → t σ H Q) : PE X e t' := ⟨fun pins s σ H Q I q => h.run pins s σ H Q I (i _ _ _ q)⟩
theorem pt_imp {t t' : TT} (h : PT X e t) (i : ∀ σ H Q, t' σ H Q → t σ H Q) : PT X e t' := ⟨fun pins s σ H Q I q => h.run pins s σ H Q I (i _ _ _ q)⟩
theorem pw_imp {t t' : TT} (h : PW X e t) (i : ∀ σ H Q, t' σ H Q → t σ H Q) : PW X e t' := ⟨fun wh pins s σ H Q I q => h.run wh pins s σ H Q I (i _ _ _ q)⟩
theorem pa_imp {t t' : TA} (h : PA X es t) (i : ∀ σ H Q, t' σ H Q → t σ H Q) : PA X es t' := ⟨fun pos pins s σ H Q I q => h.run pos pins s σ H Q I (i _ _ _ q)⟩
theorem ps_imp {t t' : TS} (h : PS X st t) (i : ∀ D σ H, t' D σ H → t D σ H) : PS X st t' := ⟨fun pins s σ H D I q => h.run pins s σ H D I (i _ _ _ q)⟩
theorem pss_imp {t t' : TS} (h : PSs X sts t) (i : ∀ D σ H, t' D σ H → t D σ H) : PSs X sts t' := ⟨fun pins s σ H D I q => h.run pins s σ H D I (i _ _ _ q)⟩
end
end M


set_option Elab.async false
set_option linter.all false
set_option maxRecDepth 100000
set_option maxHeartbeats 2000000
namespace M
open PySem PySem.Spec PyProof.Rows L2
variable [Tabs]

/-! ### reading lists -/
/-- the items of a list or of a tuple -/
def lstOf (S : Store) : D → Option (List D)
  | .lst xs => some xs
  | .fro xs => some xs
  | .loc n => match S[n]? with
    | some (.lst xs) => some xs
    | _ => none
  | _ => none
/-- .. of a list that is not locked -/
def lstOf' (S : Store) : D → Option (List D)
  | .lst xs => some xs
  | .loc n => match S[n]? with
    | some (.lst xs) => some xs
    | _ => none
  | _ => none
def seqOf (S : Store) : D → Option (List D)
  | .tup xs => some xs
  | d => lstOf S d
section
variable {K : PySem.W.Frag} {ρ : Rh} {H : Hp} {S : Store} {d : D} {v : V} {xs : List D}
theorem lstOf'_rep (R : Rel K ρ H S) (h : RepD K ρ H d v) (e : lstOf' S d = some xs) : ∃ a vs, v = .ref a ∧ H a = some (.lst vs) ∧ RepDs K ρ H xs vs := by
  cases d <;> simp only [lstOf'] at e <;> try cases e
  case lst => cases h with | lst a b b' c => exact ⟨_, _, rfl, a, c⟩
  case loc n =>
    cases h with
    | loc ha =>
      split at e
      · rename_i ys hs
        cases e
        obtain ⟨vs, q, r⟩ := R.at_ n _ _ hs ha
        exact ⟨_, vs, rfl, q, r⟩
      · cases e
theorem lstOf_rep (R : Rel K ρ H S) (h : RepD K ρ H d v) (e : lstOf S d = some xs) : ∃ a vs, v = .ref a ∧ SqL K H a vs ∧ RepDs K ρ H xs vs := by
  cases d <;> simp only [lstOf] at e <;> try cases e
  case lst => cases h with | lst a b b' c => exact ⟨_, _, rfl, .inl (Rd.of a), c⟩
  case fro => cases h with
    | fro a b b' c => exact ⟨_, _, rfl, .inl a, c⟩
    | frk a c => exact ⟨_, _, rfl, .inr a, c⟩
  case loc n =>
    cases h with
    | loc ha =>
      split at e
      · rename_i ys hs
        cases e
        obtain ⟨vs, q, r⟩ := R.at_ n _ _ hs ha
        exact ⟨_, vs, rfl, .inl (Rd.of q), r⟩
      · cases e
theorem seqOf_rep (R : Rel K ρ H S) (h : RepD K ρ H d v) (e : seqOf S d = some xs) : ∃ a vs, v = .ref a ∧ (SqL K H a vs ∨ SqT K H a vs) ∧ RepDs K ρ H xs vs := by
  by_cases ht : ∃ ys, d = .tup ys
  · obtain ⟨ys, rfl⟩ := ht
    simp only [seqOf] at e
    cases e
    cases h with | tup a b => exact ⟨_, _, rfl, .inr a, b⟩
  · have e' : lstOf S d = some xs := by
      cases d <;> first | exact e | exact absurd ⟨_, rfl⟩ ht
    obtain ⟨a, vs, h1, h2, h3⟩ := lstOf_rep R h e'
    exact ⟨a, vs, h1, .inl h2, h3⟩
end

/-! ### what a pure operation comes to -/
def PostV (K : PySem.W.Frag) (ρ : Rh) (H : Hp) (S : Store) (Q : VK) : Option D → Prop
  | some d => ∀ ρ' H', Fr ρ H ρ' H' → Rel K ρ' H' S → ∀ v, RepD K ρ' H' d v → Q v H'
  | none => False
def Res.of {α : Type} (o : Option α) (S : Store) : Res α := match o with
  | some d => .ok d S
  | none => .bad
@[simp] theorem Res.of_some {α : Type} (d : α) (S : Store) : Res.of (some d) S = .ok d S := rfl
@[simp] theorem Res.of_none {α : Type} (S : Store) : Res.of (none : Option α) S = .bad := rfl
section
variable {K : PySem.W.Frag} {mg : Str → Option Value} {W : WX} {ρ : Rh} {H : Hp} {S : Store} {σ : L2.St} {Q : VK}
theorem PostE.of {o : Option D} (h : PostE K mg W ρ H σ Q (Res.of o S)) : PostV K ρ H S Q o := by
  cases o with
  | none => exact h
  | some d => exact h
/-- a value that is there -/
theorem PostV.use (R : Rel K ρ H S) {d : D} {v : V} (r : RepD K ρ H d v) (h : PostV K ρ H S Q (some d)) : Q v H := h ρ H (Fr.refl _ _) R v r
/-- a new tuple, a new list by value -/
theorem PostV.newT (R : Rel K ρ H S) {ds : List D} {vs : List V} (r : RepDs K ρ H ds vs) (h : PostV K ρ H S Q (some (.tup ds))) : ∀ p, H p = none → Q (.ref p) (upd H p (.tup vs)) := fun p hp =>
  h ρ _ (Fr.laid hp) (R.laid hp) _ (.tup (SqT.of upd_same) (RepDs.fr R.free (Fr.laid hp) _ _ r))
theorem PostV.newL (R : Rel K ρ H S) {ds : List D} {vs : List V} (r : RepDs K ρ H ds vs) (h : PostV K ρ H S Q (some (.lst ds))) : ∀ p, H p = none → Q (.ref p) (upd H p (.lst vs)) := fun p hp =>
  h ρ _ (Fr.laid hp) (R.laid hp) _ (.lst upd_same (R.newh hp).1 (R.newh hp).2 (RepDs.fr R.free (Fr.laid hp) _ _ r))
end
/-- two values, a pure operation on them -/
abbrev DOp := D → D → Store → Option D
def OpD (X : Cx) (f : Value → Value → Sem Value) (g : DOp) : Prop :=
  ∀ (pins : List (Addr × Obj)) (s : Shared) (σ : L2.St) (ρ : Rh) (H : Hp) (S : Store) (dx dy : D) (vx vy : V) (ux uy : Value) (Q : VK), Inv X pins σ H s → Rel X.K ρ H S → RepD X.K ρ H dx vx → RepD X.K ρ H dy vy → RelV vx ux → RelV vy uy →
    PostV X.K ρ H S Q (g dx dy S) → wpAny (model X.prog X.w) X.A (f ux uy) (EP X pins σ Q) X.xe s
def rOpD (K : PySem.W.Frag) (g : DOp) : R2 := fun x y H Q => ∃ ρ S dx dy, Rel K ρ H S ∧ RepD K ρ H dx x ∧ RepD K ρ H dy y ∧ PostV K ρ H S Q (g dx dy S)
theorem OpD.r {X : Cx} {f : Value → Value → Sem Value} {g : DOp} (o : OpD X f g) : OpR X f (rOpD X.K g) := fun pins s σ H x y v u Q I rx ry ⟨ρ, S, dx, dy, R, r1, r2, q⟩ => o pins s σ ρ H S dx dy x y v u Q I R r1 r2 rx ry q

/-! ### expressions -/
def mVar (i : Nat) : ME := fun e S => match e[i]? with
  | some (some d) => .ok d S
  | _ => .bad
def mC (d : D) : ME := fun _ S => .ok d S
def mBin (g : DOp) (a b : ME) : ME := fun e S => (a e S).bind fun x S1 => (b e S1).bind fun y S2 => .of (g x y S2) S2
section
variable {X : Cx} {W : WX} {a b c : Expr} {ma mb mc : ME} {pos : Pos}
theorem em_var {e : Expr} {i : Nat} (h : PE X e (tVar i)) : EM X W e (mVar i) := pe_imp h fun σ H Q ⟨ρ, e, S, he, R, q⟩ => by
  unfold mVar at q
  split at q
  · rename_i d hd
    obtain ⟨v, h1, h2⟩ := he.2 i d hd
    exact ⟨v, h1, q ρ H (Fr.refl _ _) R v h2⟩
  · exact q.elim
theorem em_c {e : Expr} {v : V} {d : D} (h : PE X e (tC v)) (r : ∀ ρ H, RepD X.K ρ H d v) : EM X W e (mC d) := pe_imp h fun σ H Q ⟨ρ, e, S, he, R, q⟩ => q ρ H (Fr.refl _ _) R v (r ρ H)
theorem em_int {i : Int} {j pos} : EM X W (.Constant (.int i) j pos) (mC (.int i)) := em_c pe_int fun _ _ => .int i
theorem em_str {x : Str} {j pos} : EM X W (.Constant (.str x) j pos) (mC (.str x)) := em_c pe_str fun _ _ => .str x
theorem em_bl {b : Bool} {j pos} : EM X W (.Constant (.bool b) j pos) (mC (.bl b)) := em_c pe_bl fun _ _ => .bl b
theorem em_non {j pos} : EM X W (.Constant .none j pos) (mC .non) := em_c pe_non fun _ _ => .non
/-- two in a row -/
theorem tE_bin {g : D → D → Store → Res D} {r : R2} (hr : ∀ ρ H S dx dy vx vy Q σ, Rel X.K ρ H S → RepD X.K ρ H dx vx → RepD X.K ρ H dy vy → PostE X.K X.mg W ρ H σ Q (g dx dy S) → r vx vy H Q) {σ : L2.St} {H : Hp} {Q : VK}
    (h : tE X.K X.mg W (fun e S => (ma e S).bind fun x S1 => (mb e S1).bind fun y S2 => g x y S2) σ H Q) : tOp r (tE X.K X.mg W ma) (tE X.K X.mg W mb) σ H Q := by
  obtain ⟨ρ, e, S, he, R, q⟩ := h
  refine ⟨ρ, e, S, he, R, (Post.bind q).mono fun x S1 ρ1 H1 f1 R1 q v rx => ?_⟩
  refine ⟨ρ1, e, S1, he.fr R.free f1, R1, (Post.bind q).mono fun y S2 ρ2 H2 f2 R2 q v2 ry => ?_⟩
  exact hr ρ2 H2 S2 x y v v2 Q σ R2 (RepD.fr R1.free f2 _ _ rx) ry q
theorem em_bin {op : Operator} {g : DOp} (o : OpD X (binaryOp op) g) (ha : EM X W a ma) (hb : EM X W b mb) : EM X W (.BinOp a op b pos) (mBin g ma mb) :=
  pe_imp (pe_op o.r ha hb) fun σ H Q h => tE_bin (fun ρ H S dx dy vx vy Q σ R rx ry q => ⟨ρ, S, dx, dy, R, rx, ry, q.of⟩) h
/-- a comparison as a value -/
theorem em_cmp {op : CmpOp} {g : DOp} (o : OpD X (compareOp op) g) (ha : EM X W a ma) (hb : EM X W b mb) (hm : behindInMarks op b = false) : EM X W (.Compare a [op] [b] pos) (mBin g ma mb) :=
  pe_imp (pe_cmpR o.r ha hb hm) fun σ H Q h => tE_bin (fun ρ H S dx dy vx vy Q σ R rx ry q => ⟨ρ, S, dx, dy, R, rx, ry, q.of⟩) h
/-- the truth value of a value that is one -/
def bOf : D → Option Bool
  | .bl b => some b
  | _ => none
def mB (m : ME) : MT := fun e S => (m e S).bind fun d S1 => .of (bOf d) S1
theorem tE_test {m : ME} {σ : L2.St} {H : Hp} {Q : Bool → Hp → Prop} (h : tT X.K X.mg W (mB m) σ H Q) : tE X.K X.mg W m σ H fun x H' => ∃ k, x = .bl k ∧ Q k H' := by
  obtain ⟨ρ, e, S, he, R, q⟩ := h
  refine ⟨ρ, e, S, he, R, (Post.bind q).mono fun x S1 ρ1 H1 f1 R1 q v rx => ?_⟩
  cases x with
  | bl b => cases rx; exact ⟨b, rfl, q ρ1 H1 (Fr.refl _ _) R1⟩
  | _ => exact q.elim
theorem tOp_mono {r : R2} {ta tb : TE} {σ : L2.St} {H : Hp} {Q : VK} (h : tOp r ta tb σ H Q) : tOp r ta tb σ H Q := h
theorem tm_cmp {op : CmpOp} {g : DOp} (o : OpD X (compareOp op) g) (ha : EM X W a ma) (hb : EM X W b mb) (hm : behindInMarks op b = false) : TM X W (.Compare a [op] [b] pos) (mB (mBin g ma mb)) :=
  pt_imp (pt_cmpR o.r ha hb hm) fun σ H Q h => tE_bin (fun ρ H S dx dy vx vy Q σ R rx ry q => ⟨ρ, S, dx, dy, R, rx, ry, q.of⟩) (tE_test h)
/-- the truth of any value -/
def truOf (S : Store) : D → Option Bool
  | .non => some false
  | .bl b => some b
  | .int i => some (i != 0)
  | .str x => if x.length ≤ sizeLine then some ((x.length : Int) != 0) else none
  | d => match seqOf S d with
    | some xs => some (!xs.isEmpty)
    | none => none
def mTru (m : ME) : MT := fun e S => (m e S).bind fun d S1 => .of (truOf S1 d) S1
theorem isEmpty_rep {K : PySem.W.Frag} {ρ : Rh} {H : Hp} {xs : List D} {vs : List V} (h : RepDs K ρ H xs vs) : vs.isEmpty = xs.isEmpty := by
  cases h <;> rfl
theorem truOf_rep {K : PySem.W.Frag} {ρ : Rh} {H : Hp} {S : Store} (R : Rel K ρ H S) {d : D} {v : V} {k : Bool} (h : RepD K ρ H d v) (e : truOf S d = some k) : TruV K v H k := by
  have seq : ∀ {xs}, seqOf S d = some xs → k = (!xs.isEmpty) → TruV K v H k := fun {xs} e1 e2 => by
    obtain ⟨a, vs, rfl, q, r⟩ := seqOf_rep R h e1
    rw [← isEmpty_rep r] at e2
    rcases q with q | q
    · exact .inl ⟨vs, q, e2⟩
    · exact .inr (.inl ⟨vs, q, e2⟩)
  have gen : (match seqOf S d with | some xs => some (!xs.isEmpty) | none => none) = some k → TruV K v H k := fun z => by
    split at z
    · rename_i xs e1
      exact seq e1 (Option.some.inj z).symm
    · cases z
  cases d with
  | non => cases h; exact (Option.some.inj e).symm
  | bl b => cases h; exact (Option.some.inj e).symm
  | int i => cases h; exact (Option.some.inj e).symm
  | str x =>
    cases h
    have e : (if x.length ≤ sizeLine then some ((x.length : Int) != 0) else none) = some k := e
    by_cases hz : x.length ≤ sizeLine
    · rw [if_pos hz] at e
      exact ⟨hz, (Option.some.inj e).symm⟩
    · rw [if_neg hz] at e
      cases e
  | tup xs => exact gen e
  | lst xs => exact gen e
  | fro xs => exact gen e
  | loc n => exact gen e
  | ref a => exact gen e
  | ty n => exact gen e
theorem tm_tru (ha : EM X W a ma) (he : ∀ whole, isTrue a X.env whole = (do let v ← whole; standAt a.pos; holding [v] (truthy v))) : TM X W a (mTru ma) :=
  pt_imp (pt_truth ha he) fun σ H Q h => by
    obtain ⟨ρ, e, S, he, R, q⟩ := h
    refine ⟨ρ, e, S, he, R, (Post.bind q).mono fun x S1 ρ1 H1 f1 R1 q v rx => ?_⟩
    cases hk : truOf S1 x with
    | none => rw [hk] at q; exact q.elim
    | some k =>
      rw [hk] at q
      exact ⟨k, truOf_rep R1 rx hk, q ρ1 H1 (Fr.refl _ _) R1⟩
/-! and, or, not -/
def mAnd (a b : MT) : MT := fun e S => (a e S).bind fun c S1 => if c = true then b e S1 else .ok false S1
def mOr (a b : MT) : MT := fun e S => (a e S).bind fun c S1 => if c = true then .ok true S1 else b e S1
def mNot (a : MT) : MT := fun e S => (a e S).bind fun c S1 => .ok (!c) S1
variable {ta tb : MT} {rest : List Expr}
theorem tT_then {σ : L2.St} {H : Hp} {Q : Bool → Hp → Prop} {t : MT} {f : Bool → Env → Store → Res Bool} {u : Bool → Hp → Prop}
    (hu : ∀ ρ H c e S, EnvRel X.K ρ H σ e → Rel X.K ρ H S → PostT X.K X.mg W ρ H σ Q (f c e S) → u c H)
    (h : tT X.K X.mg W (fun e S => (t e S).bind fun c S1 => f c e S1) σ H Q) : tT X.K X.mg W t σ H u := by
  obtain ⟨ρ, e, S, he, R, q⟩ := h
  exact ⟨ρ, e, S, he, R, (Post.bind q).mono fun x S1 ρ1 H1 f1 R1 q => hu ρ1 H1 x e S1 (he.fr R.free f1) R1 q⟩
theorem wm_and1 (ha : TM X W a ta) : WM X W (.BoolOp .And [a] pos) ta := pw_and1 ha
theorem wm_or1 (ha : TM X W a ta) : WM X W (.BoolOp .Or [a] pos) ta := pw_or1 ha
theorem wm_and (ha : TM X W a ta) (hb : WM X W (.BoolOp .And (b :: rest) pos) tb) : WM X W (.BoolOp .And (a :: b :: rest) pos) (mAnd ta tb) :=
  pw_imp (pw_and ha hb) fun σ H Q h => tT_then (f := fun c e S => if c = true then tb e S else .ok false S) (fun ρ H c e S he R q => by
    cases c with
    | true => exact ⟨ρ, e, S, he, R, q⟩
    | false => exact q ρ H (Fr.refl _ _) R) h
theorem wm_or (ha : TM X W a ta) (hb : WM X W (.BoolOp .Or (b :: rest) pos) tb) : WM X W (.BoolOp .Or (a :: b :: rest) pos) (mOr ta tb) :=
  pw_imp (pw_or ha hb) fun σ H Q h => tT_then (f := fun c e S => if c = true then .ok true S else tb e S) (fun ρ H c e S he R q => by
    cases c with
    | false => exact ⟨ρ, e, S, he, R, q⟩
    | true => exact q ρ H (Fr.refl _ _) R) h
theorem tm_w (h : WM X W a ta) : TM X W a ta := h.pt
theorem tm_not (ha : TM X W a ta) : TM X W (.UnaryOp .Not a pos) (mNot ta) :=
  pt_imp (pt_not ha) fun σ H Q h => tT_then (f := fun c e S => .ok (!c) S) (fun ρ H c e S he R q => q ρ H (Fr.refl _ _) R) h
/-! .. as values -/
def mIte (t : MT) (a b : ME) : ME := fun e S => (t e S).bind fun c S1 => if c = true then a e S1 else b e S1
def mAndV (a b : ME) : ME := fun e S => (a e S).bind fun d S1 => match d with
  | .bl c => if c = true then b e S1 else .ok (.bl false) S1
  | _ => .bad
def mOrV (a b : ME) : ME := fun e S => (a e S).bind fun d S1 => match d with
  | .bl c => if c = true then .ok (.bl true) S1 else b e S1
  | _ => .bad
def mNotV (a : ME) : ME := fun e S => (a e S).bind fun d S1 => match d with
  | .bl c => .ok (.bl (!c)) S1
  | _ => .bad
theorem tE_then {σ : L2.St} {H : Hp} {Q : VK} {t : ME} {f : D → Env → Store → Res D} {u : VK}
    (hu : ∀ ρ H d v e S, EnvRel X.K ρ H σ e → Rel X.K ρ H S → RepD X.K ρ H d v → PostE X.K X.mg W ρ H σ Q (f d e S) → u v H)
    (h : tE X.K X.mg W (fun e S => (t e S).bind fun c S1 => f c e S1) σ H Q) : tE X.K X.mg W t σ H u := by
  obtain ⟨ρ, e, S, he, R, q⟩ := h
  exact ⟨ρ, e, S, he, R, (Post.bind q).mono fun x S1 ρ1 H1 f1 R1 q v r => hu ρ1 H1 x v e S1 (he.fr R.free f1) R1 r q⟩
theorem em_one {op} (ha : EM X W a ma) : EM X W (.BoolOp op [a] pos) ma := pe_one ha
theorem em_and (ha : EM X W a ma) (hb : EM X W (.BoolOp .And (b :: rest) pos) mb) : EM X W (.BoolOp .And (a :: b :: rest) pos) (mAndV ma mb) :=
  pe_imp (pe_and ha hb) fun σ H Q h => tE_then (f := fun d e S => match d with | .bl c => if c = true then mb e S else .ok (.bl false) S | _ => .bad) (fun ρ H d v e S he R r q => by
    cases d with
    | bl c =>
      cases r
      refine ⟨c, rfl, ?_⟩
      cases c with
      | true => exact ⟨ρ, e, S, he, R, q⟩
      | false => exact q ρ H (Fr.refl _ _) R _ (.bl false)
    | _ => exact q.elim) h
theorem em_or (ha : EM X W a ma) (hb : EM X W (.BoolOp .Or (b :: rest) pos) mb) : EM X W (.BoolOp .Or (a :: b :: rest) pos) (mOrV ma mb) :=
  pe_imp (pe_or ha hb) fun σ H Q h => tE_then (f := fun d e S => match d with | .bl c => if c = true then .ok (.bl true) S else mb e S | _ => .bad) (fun ρ H d v e S he R r q => by
    cases d with
    | bl c =>
      cases r
      refine ⟨c, rfl, ?_⟩
      cases c with
      | false => exact ⟨ρ, e, S, he, R, q⟩
      | true => exact q ρ H (Fr.refl _ _) R _ (.bl true)
    | _ => exact q.elim) h
theorem em_not (ha : EM X W a ma) : EM X W (.UnaryOp .Not a pos) (mNotV ma) :=
  pe_imp (pe_not ha) fun σ H Q h => tE_then (f := fun d e S => match d with | .bl c => .ok (.bl (!c)) S | _ => .bad) (fun ρ H d v e S he R r q => by
    cases d with
    | bl c => cases r; exact ⟨c, rfl, q ρ H (Fr.refl _ _) R _ (.bl _)⟩
    | _ => exact q.elim) h
theorem em_ite (hc : TM X W c ta) (ha : EM X W a ma) (hb : EM X W b mb) : EM X W (.IfExp c a b pos) (mIte ta ma mb) :=
  pe_imp (pe_ifExp hc ha hb) fun σ H Q ⟨ρ, e, S, he, R, q⟩ => by
    refine ⟨ρ, e, S, he, R, (Post.bind q).mono fun x S1 ρ1 H1 f1 R1 q => ?_⟩
    cases x with
    | true => exact ⟨ρ1, e, S1, he.fr R.free f1, R1, q⟩
    | false => exact ⟨ρ1, e, S1, he.fr R.free f1, R1, q⟩
end
end M


set_option Elab.async false
set_option linter.all false
set_option maxRecDepth 100000
set_option maxHeartbeats 4000000
namespace M
open PySem PySem.Spec PyProof.Rows L2
variable [Tabs]

/-! ### tuple * int, the cases that HandS.TupMul leaves -/
theorem tuple_mulSame (l : Addr) (items : Array Value) (n : Nat) (dd : Option Addr) (sl : Array (Option Value)) (x : Int) (u : Tok) (c0 : (decide (x < -(2 ^ 63)) || decide (x ≥ 2 ^ 63)) = false) (c1 : (items.isEmpty || x == 1) = true) :
    Meets (Builtin.«tuple.__mul__» ⟨[.ref l, .int x u], []⟩) (fun _ R s => s.heap.get? l = some { cls := .type "tuple", dict := dd, data := .seq items n, slots := sl } ∧ R (.ok (.ret (Value.ref l))) s) :=
  .of_wp fun prog w A R s h => by
    obtain ⟨hp, g, d, tk, os⟩ := s
    obtain ⟨hl, h⟩ := h
    have f1 := AutoSeq1.idx_int
    wp_walk using wpAny_loadPart' hl
    repeat (first
      | (refine wpAny_ite_false (decide_eq_false (by rw [c0]; exact Bool.false_ne_true)) ?_; wp_walk using wpAny_loadPart' hl)
      | (refine wpAny_ite_true (decide_eq_true (by rw [c1])) ?_; wp_walk using wpAny_loadPart' hl))
    exact ⟨_, rfl, h⟩
theorem tuple_mulNone (l : Addr) (items : Array Value) (n : Nat) (dd : Option Addr) (sl : Array (Option Value)) (x : Int) (u : Tok) (c0 : (decide (x < -(2 ^ 63)) || decide (x ≥ 2 ^ 63)) = false) (c1 : (items.isEmpty || x == 1) = false) (c2 : (decide (x ≤ 0) || items.isEmpty) = true) :
    Meets (Builtin.«tuple.__mul__» ⟨[.ref l, .int x u], []⟩) (fun _ R s => s.heap.get? l = some { cls := .type "tuple", dict := dd, data := .seq items n, slots := sl } ∧
      R (.ok (.ret (Value.ref s.heap.objs.size))) { s with heap := s.heap.push { cls := Value.type "tuple", data := Data.seq #[] }, toks := s.toks }) :=
  .of_wp fun prog w A R s h => by
    obtain ⟨hp, g, d, tk, os⟩ := s
    obtain ⟨hl, h⟩ := h
    have f1 := AutoSeq1.idx_int
    wp_walk using wpAny_loadPart' hl
    repeat (first
      | (refine wpAny_ite_false (decide_eq_false (by rw [c0]; exact Bool.false_ne_true)) ?_; wp_walk using wpAny_loadPart' hl)
      | (refine wpAny_ite_false (decide_eq_false (by rw [c1]; exact Bool.false_ne_true)) ?_; wp_walk using wpAny_loadPart' hl)
      | (refine wpAny_ite_true (decide_eq_true (by rw [c2])) ?_; wp_walk using wpAny_loadPart' hl))
    exact ⟨_, rfl, h⟩

section
variable {X : Cx}
/-- tuple * int -/
theorem op_repT_same {xs : List V} {l : Addr} {k : Int} {pins : List (Addr × Obj)} {s : Shared} {σ : L2.St} {H : Hp} {Q : VK} {t : Tok} (I : Inv X pins σ H s) (hT : SqT X.K H l xs) (hk : -(2 ^ 63) ≤ k ∧ k < 2 ^ 63) (h1 : xs = [] ∨ k = 1) (q : Q (.ref l) H) :
    wpAny (model X.prog X.w) X.A (binaryOp .Mult (.ref l) (.int k t)) (EP X pins σ Q) X.xe s := by
  obtain ⟨its, r, ⟨⟨cls, dd, data, sl⟩, ho, hc, n, hd⟩, hs⟩ := I.tuple hT
  simp only at hc hd
  subst hc hd
  have c0 : (decide (k < -(2 ^ 63)) || decide (k ≥ 2 ^ 63)) = false := by
    rw [decide_eq_false (by omega), decide_eq_false (by omega)] <;> rfl
  have c1 : (its.toArray.isEmpty || k == 1) = true := by
    rcases h1 with h1 | h1
    · subst h1; cases r; rfl
    · subst h1; simp
  exact wpAny_binaryOp_repeat_ref (T := "tuple") (U := "int") (by decide) ⟨_, ho, rfl⟩ (fun s' => typeIs_int s' k t) noFill_tuple_mul F.fills_int_mul F.slot_int_rmul repeat_tuple F.slot_int_index.lookup
    (call_meets F.slot_int_rmul (typeIs_int s k t) F.entry_int_rmul (F.args_int_rmul_2 _ _) (int_rmul_tuple k t l its.toArray n dd sl)
      ⟨ho, rfl, ⟨_, ho, rfl⟩, call_meets F.slot_tuple_mul ⟨_, ho, rfl⟩ F.entry_tuple_mul (F.args_tuple_mul_2 _ _) (tuple_mulSame l its.toArray n dd sl k t c0 c1) ⟨ho, .ref l, H, I, rfl, q⟩⟩)
theorem op_repT_none {xs : List V} {l : Addr} {k : Int} {pins : List (Addr × Obj)} {s : Shared} {σ : L2.St} {H : Hp} {Q : VK} {t : Tok} (I : Inv X pins σ H s) (hT : SqT X.K H l xs) (hk : -(2 ^ 63) ≤ k ∧ k < 2 ^ 63) (h1 : xs ≠ []) (h2 : k ≤ 0) (q : ∀ p, H p = none → Q (.ref p) (upd H p (.tup []))) :
    wpAny (model X.prog X.w) X.A (binaryOp .Mult (.ref l) (.int k t)) (EP X pins σ Q) X.xe s := by
  obtain ⟨its, r, ⟨⟨cls, dd, data, sl⟩, ho, hc, n, hd⟩, hs⟩ := I.tuple hT
  simp only at hc hd
  subst hc hd
  have c0 : (decide (k < -(2 ^ 63)) || decide (k ≥ 2 ^ 63)) = false := by
    rw [decide_eq_false (by omega), decide_eq_false (by omega)] <;> rfl
  have hi : its.toArray.isEmpty = false := by
    cases its with
    | nil => cases r; exact absurd rfl h1
    | cons a b => rfl
  have c1 : (its.toArray.isEmpty || k == 1) = false := by
    rw [hi, Bool.false_or]
    exact beq_eq_false_iff_ne.mpr (by omega)
  have c2 : (decide (k ≤ 0) || its.toArray.isEmpty) = true := by
    rw [decide_eq_true h2]; rfl
  refine wpAny_binaryOp_repeat_ref (T := "tuple") (U := "int") (by decide) ⟨_, ho, rfl⟩ (fun s' => typeIs_int s' k t) noFill_tuple_mul F.fills_int_mul F.slot_int_rmul repeat_tuple F.slot_int_index.lookup
    (call_meets F.slot_int_rmul (typeIs_int s k t) F.entry_int_rmul (F.args_int_rmul_2 _ _) (int_rmul_tuple k t l its.toArray n dd sl)
      ⟨ho, rfl, ⟨_, ho, rfl⟩, call_meets F.slot_tuple_mul ⟨_, ho, rfl⟩ F.entry_tuple_mul (F.args_tuple_mul_2 _ _) (tuple_mulNone l its.toArray n dd sl k t c0 c1 c2) ⟨ho, ?_⟩⟩)
  refine ⟨.ref s.heap.objs.size, _, I.laid (t' := s.toks) (o := .tup []) (fun b ob q => Heap.get?_push_of_some _ q) (Nat.le_refl _) ?_, rfl, q _ (I.hok.fresh (Nat.le_refl _))⟩
  exact ⟨Nat.zero_le _, [], .nil, IsTup.new _ _⟩
end

/-! ### numbers -/
/-- a product that the model reckons whatever the size of one side -/
def mulOk (i j : Int) : Bool := decide (i.natAbs < 2 ^ 64) || decide (j.natAbs < 2 ^ 64) || decide (i.natAbs < 2 ^ 400000 ∧ j.natAbs < 2 ^ 400000)
def dAdd : DOp
  | .int i, .int j, _ => some (.int (i + j))
  | .str x, .str y, _ => if x.length + y.length ≤ sizeLine then some (.str (x ++ y)) else none
  | .tup xs, .tup ys, _ => if xs.length + ys.length ≤ sizeLine then some (.tup (xs ++ ys)) else none
  | x, y, S => match lstOf' S x, lstOf' S y with
    | some xs, some ys => if xs.length + ys.length ≤ sizeLine then some (.lst (xs ++ ys)) else none
    | _, _ => none
def dSub : DOp
  | .int i, .int j, _ => some (.int (i - j))
  | _, _, _ => none
def dMul : DOp
  | .int i, .int j, _ => if i.natAbs < 2 ^ 64 ∨ j.natAbs < 2 ^ 64 then some (.int (i * j)) else none
  | .str x, .int k, _ => if k < 2 ^ 20 ∧ -(2 ^ 20) < k ∧ x.length * k.toNat ≤ 2 ^ 20 then some (.str (Txt.mul x k)) else none
  | .tup xs, .int k, _ => if k ≤ 1000 ∧ -1000 ≤ k ∧ xs.length ≤ 1000 then some (.tup (List.replicate k.toNat xs).flatten) else none
  | x, .int k, S => match lstOf' S x with
    | some xs => if k ≤ 1000 ∧ -1000 ≤ k ∧ xs.length ≤ 1000 then some (.lst (List.replicate k.toNat xs).flatten) else none
    | none => none
  | _, _, _ => none
def dFdiv : DOp
  | .int i, .int j, _ => if 0 < j ∧ j < 1073741824 then some (.int (i / j)) else none
  | _, _, _ => none
def dMod : DOp
  | .int i, .int j, _ => if 0 < j then some (.int (i % j)) else none
  | _, _, _ => none
def dPow : DOp
  | .int i, .int j, _ => if 0 ≤ j ∧ j ≤ 1000000 ∧ i.natAbs < 2 ^ 64 then some (.int (i ^ j.toNat)) else none
  | _, _, _ => none
def dShl : DOp
  | .int i, .int j, _ => if 0 ≤ j ∧ j ≤ 1000000 ∧ i.natAbs < 2 ^ 64 then some (.int (i * 2 ^ j.toNat)) else none
  | _, _, _ => none
def dShr : DOp
  | .int i, .int j, _ => if 0 ≤ j then some (.int (i / 2 ^ j.toNat)) else none
  | _, _, _ => none
def dAnd : DOp
  | .int i, .int j, _ => some (.int (Builtin.bitAnd i j))
  | _, _, _ => none
def dXor : DOp
  | .int i, .int j, _ => some (.int (Builtin.bitXor i j))
  | _, _, _ => none
section
variable {X : Cx}
theorem inj1 {α : Type} {a b : α} (h : some a = some b) : a = b := Option.some.inj h
/-- two ints by HandS's rule -/
theorem opd_int {f : Value → Value → Sem Value} {g : DOp} (h : ∀ (dx dy : D) (S : Store) (d : D), g dx dy S = some d → ∃ i j, dx = .int i ∧ dy = .int j ∧
      ∀ (pins : List (Addr × Obj)) (s : Shared) (σ : L2.St) (H : Hp) (vx vy : Value) (Q : VK), Inv X pins σ H s → RelV (.int i) vx → RelV (.int j) vy → (∀ v, (∀ ρ, RepD X.K ρ H d v) → Q v H) → wpAny (model X.prog X.w) X.A (f vx vy) (EP X pins σ Q) X.xe s) : OpD X f g :=
  fun pins s σ ρ H S dx dy vx vy ux uy Q I R rx ry r1 r2 q => by
    cases e : g dx dy S with
    | none => rw [e] at q; exact q.elim
    | some d =>
      rw [e] at q
      obtain ⟨i, j, rfl, rfl, k⟩ := h dx dy S d e
      cases rx
      cases ry
      exact k pins s σ H ux uy Q I r1 r2 fun v rv => q ρ H (Fr.refl _ _) R v (rv ρ)
theorem opd_sub : OpD X (binaryOp .Sub) dSub := opd_int fun dx dy S d e => by
  cases dx <;> cases dy <;> simp only [dSub] at e <;> try cases e
  rename_i i j
  exact ⟨i, j, rfl, rfl, fun pins s σ H vx vy Q I r1 r2 q => op_sub pins s σ H _ _ vx vy Q I r1 r2 ⟨i, j, rfl, rfl, q _ fun ρ => .int _⟩⟩
theorem opd_fdiv : OpD X (binaryOp .FloorDiv) dFdiv := opd_int fun dx dy S d e => by
  cases dx <;> cases dy <;> simp only [dFdiv] at e <;> try cases e
  rename_i i j
  split at e
  · rename_i hc
    cases e
    exact ⟨i, j, rfl, rfl, fun pins s σ H vx vy Q I r1 r2 q => op_fdiv pins s σ H _ _ vx vy Q I r1 r2 ⟨i, j, rfl, rfl, hc, q _ fun ρ => .int _⟩⟩
  · cases e
theorem opd_mod : OpD X (binaryOp .Mod) dMod := opd_int fun dx dy S d e => by
  cases dx <;> cases dy <;> simp only [dMod] at e <;> try cases e
  rename_i i j
  split at e
  · rename_i hc
    cases e
    exact ⟨i, j, rfl, rfl, fun pins s σ H vx vy Q I r1 r2 q => op_mod pins s σ H _ _ vx vy Q I r1 r2 ⟨i, j, rfl, rfl, hc, q _ fun ρ => .int _⟩⟩
  · cases e
theorem opd_pow : OpD X (binaryOp .Pow) dPow := opd_int fun dx dy S d e => by
  cases dx <;> cases dy <;> simp only [dPow] at e <;> try cases e
  rename_i i j
  split at e
  · rename_i hc
    cases e
    exact ⟨i, j, rfl, rfl, fun pins s σ H vx vy Q I r1 r2 q => op_pow pins s σ H _ _ vx vy Q I r1 r2 ⟨i, j, rfl, rfl, hc, q _ fun ρ => .int _⟩⟩
  · cases e
theorem opd_shl : OpD X (binaryOp .LShift) dShl := opd_int fun dx dy S d e => by
  cases dx <;> cases dy <;> simp only [dShl] at e <;> try cases e
  rename_i i j
  split at e
  · rename_i hc
    cases e
    exact ⟨i, j, rfl, rfl, fun pins s σ H vx vy Q I r1 r2 q => op_shl pins s σ H _ _ vx vy Q I r1 r2 ⟨i, j, rfl, rfl, hc, q _ fun ρ => .int _⟩⟩
  · cases e
theorem opd_shr : OpD X (binaryOp .RShift) dShr := opd_int fun dx dy S d e => by
  cases dx <;> cases dy <;> simp only [dShr] at e <;> try cases e
  rename_i i j
  split at e
  · rename_i hc
    cases e
    exact ⟨i, j, rfl, rfl, fun pins s σ H vx vy Q I r1 r2 q => op_shr pins s σ H _ _ vx vy Q I r1 r2 ⟨i, j, rfl, rfl, hc, q _ fun ρ => .int _⟩⟩
  · cases e
theorem opd_and : OpD X (binaryOp .BitAnd) dAnd := opd_int fun dx dy S d e => by
  cases dx <;> cases dy <;> simp only [dAnd] at e <;> try cases e
  rename_i i j
  exact ⟨i, j, rfl, rfl, fun pins s σ H vx vy Q I r1 r2 q => op_and pins s σ H _ _ vx vy Q I r1 r2 ⟨i, j, rfl, rfl, q _ fun ρ => .int _⟩⟩
theorem opd_xor : OpD X (binaryOp .BitXor) dXor := opd_int fun dx dy S d e => by
  cases dx <;> cases dy <;> simp only [dXor] at e <;> try cases e
  rename_i i j
  exact ⟨i, j, rfl, rfl, fun pins s σ H vx vy Q I r1 r2 q => op_xor pins s σ H _ _ vx vy Q I r1 r2 ⟨i, j, rfl, rfl, q _ fun ρ => .int _⟩⟩
theorem rep_nil {K : PySem.W.Frag} {ρ : Rh} {H : Hp} {ds : List D} {vs : List V} (h : RepDs K ρ H ds vs) : vs = [] ↔ ds = [] := by
  cases h <;> simp
theorem opd_add : OpD X (binaryOp .Add) dAdd := fun pins s σ ρ H S dx dy vx vy ux uy Q I R rx ry r1 r2 q => by
  have lists : ∀ xs ys, lstOf' S dx = some xs → lstOf' S dy = some ys → PostV X.K ρ H S Q (if xs.length + ys.length ≤ sizeLine then some (.lst (xs ++ ys)) else none) → wpAny (model X.prog X.w) X.A (binaryOp .Add ux uy) (EP X pins σ Q) X.xe s := fun xs ys e1 e2 q => by
    obtain ⟨a, vs, rfl, ha, ra⟩ := lstOf'_rep R rx e1
    obtain ⟨b, ws, rfl, hb, rb⟩ := lstOf'_rep R ry e2
    by_cases hz : xs.length + ys.length ≤ sizeLine
    · rw [if_pos hz] at q
      refine op_cat pins s σ H _ _ ux uy Q I r1 r2 ⟨a, b, vs, ws, rfl, rfl, ha, hb, by rw [← ra.length, ← rb.length]; exact hz, q.newL R (ra.append rb)⟩
    · rw [if_neg hz] at q; exact q.elim
  have gen : PostV X.K ρ H S Q (match lstOf' S dx, lstOf' S dy with
    | some xs, some ys => if xs.length + ys.length ≤ sizeLine then some (.lst (xs ++ ys)) else none
    | _, _ => none) → wpAny (model X.prog X.w) X.A (binaryOp .Add ux uy) (EP X pins σ Q) X.xe s := fun q => by
    split at q
    · exact lists _ _ (by assumption) (by assumption) q
    · exact q.elim
  by_cases h1 : (∃ i j, dx = .int i ∧ dy = .int j) ∨ (∃ x y, dx = .str x ∧ dy = .str y) ∨ (∃ x y, dx = .tup x ∧ dy = .tup y)
  · rcases h1 with ⟨i, j, rfl, rfl⟩ | ⟨x, y, rfl, rfl⟩ | ⟨x, y, rfl, rfl⟩
    · cases rx; cases ry
      exact op_add pins s σ H _ _ ux uy Q I r1 r2 ⟨i, j, rfl, rfl, q.use R (.int _)⟩
    · cases rx; cases ry
      simp only [dAdd] at q
      by_cases hz : x.length + y.length ≤ sizeLine
      · rw [if_pos hz] at q
        exact op_add_str pins s σ H _ _ ux uy Q I r1 r2 ⟨x, y, rfl, rfl, hz, q.use R (.str _)⟩
      · rw [if_neg hz] at q; exact q.elim
    · simp only [dAdd] at q
      by_cases hz : x.length + y.length ≤ sizeLine
      · rw [if_pos hz] at q
        cases rx with
        | tup hx rx =>
        cases ry with
        | tup hy ry =>
          rename_i a vs b ws
          refine op_catA pins s σ H _ _ ux uy Q I r1 r2 ⟨a, b, vs, ws, rfl, rfl, hx, hy, by rw [← rx.length, ← ry.length]; exact hz, fun e => ?_, fun _ e => ?_, fun _ _ => q.newT R (rx.append ry)⟩
          · rw [(rep_nil rx).mp e] at q
            exact q.use R (.tup hy ry)
          · rw [(rep_nil ry).mp e, List.append_nil] at q
            exact q.use R (.tup hx rx)
      · rw [if_neg hz] at q; exact q.elim
  · cases dx <;> cases dy <;> first
      | exact gen q
      | exact (h1 (.inl ⟨_, _, rfl, rfl⟩)).elim
      | exact (h1 (.inr (.inl ⟨_, _, rfl, rfl⟩))).elim
      | exact (h1 (.inr (.inr ⟨_, _, rfl, rfl⟩))).elim
theorem rep_flat {K : PySem.W.Frag} {ρ : Rh} {H : Hp} {ds : List D} {vs : List V} (h : RepDs K ρ H ds vs) : ∀ n : Nat, RepDs K ρ H (List.replicate n ds).flatten (List.replicate n vs).flatten
  | 0 => .nil
  | n + 1 => by simp only [List.replicate_succ, List.flatten_cons]; exact h.append (rep_flat h n)
theorem opd_mul : OpD X (binaryOp .Mult) dMul := fun pins s σ ρ H S dx dy vx vy ux uy Q I R rx ry r1 r2 q => by
  cases dy with
  | int k =>
    cases ry
    have lists : ∀ xs, lstOf' S dx = some xs → PostV X.K ρ H S Q (if k ≤ 1000 ∧ -1000 ≤ k ∧ xs.length ≤ 1000 then some (.lst (List.replicate k.toNat xs).flatten) else none) → wpAny (model X.prog X.w) X.A (binaryOp .Mult ux uy) (EP X pins σ Q) X.xe s := fun xs e1 q => by
      obtain ⟨a, vs, rfl, ha, ra⟩ := lstOf'_rep R rx e1
      by_cases hz : k ≤ 1000 ∧ -1000 ≤ k ∧ xs.length ≤ 1000
      · rw [if_pos hz] at q
        refine op_rep pins s σ H _ _ ux uy Q I r1 r2 ⟨a, k, vs, rfl, rfl, ha, by omega, by omega, ?_, q.newL R (rep_flat ra _)⟩
        rw [← ra.length, sizeLine_eq]
        have : xs.length * k.toNat ≤ 1000 * 1000 := Nat.mul_le_mul hz.2.2 (by omega)
        omega
      · rw [if_neg hz] at q; exact q.elim
    have gen : PostV X.K ρ H S Q (match lstOf' S dx with
      | some xs => if k ≤ 1000 ∧ -1000 ≤ k ∧ xs.length ≤ 1000 then some (.lst (List.replicate k.toNat xs).flatten) else none
      | none => none) → wpAny (model X.prog X.w) X.A (binaryOp .Mult ux uy) (EP X pins σ Q) X.xe s := fun q => by
      split at q
      · exact lists _ (by assumption) q
      · exact q.elim
    cases dx with
    | int i =>
      cases rx
      simp only [dMul] at q
      by_cases hz : i.natAbs < 2 ^ 64 ∨ k.natAbs < 2 ^ 64
      · rw [if_pos hz] at q
        exact op_mul pins s σ H _ _ ux uy Q I r1 r2 ⟨i, k, rfl, rfl, hz.elim (fun h => .inl ⟨by omega, by omega⟩) (fun h => .inr ⟨by omega, by omega⟩), q.use R (.int _)⟩
      · rw [if_neg hz] at q; exact q.elim
    | str x =>
      cases rx
      simp only [dMul] at q
      by_cases hz : k < 2 ^ 20 ∧ -(2 ^ 20) < k ∧ x.length * k.toNat ≤ 2 ^ 20
      · rw [if_pos hz] at q
        obtain ⟨t, rfl⟩ := r1
        obtain ⟨u, rfl⟩ := r2
        refine SB.mul ⟨by rw [decide_eq_false (by omega), decide_eq_false (by omega)] <;> rfl, fun h1 h2 h3 => ?_, fun h1 h2 => ?_⟩ fun t' tk => ⟨.str (Txt.mul x k), H, I.tok tk, ⟨_, rfl⟩, q.use R (.str _)⟩
        · have hx : (x.length : Int) ≤ 2 ^ 20 := by
            have : x.length * 1 ≤ x.length * k.toNat := Nat.mul_le_mul_left _ (by omega)
            omega
          have : (2 ^ 63 - 1) / k ≥ (2 ^ 63 - 1) / (2 ^ 20) := by
            rw [ge_iff_le, Int.le_ediv_iff_mul_le (by omega)]
            have h5 : ((2 ^ 63 - 1) / (2 ^ 20) : Int) * k ≤ ((2 ^ 63 - 1) / (2 ^ 20) : Int) * 2 ^ 20 := Int.mul_le_mul_of_nonneg_left (by omega) (by decide)
            have h6 : ((2 ^ 63 - 1) / (2 ^ 20) : Int) * 2 ^ 20 ≤ 2 ^ 63 - 1 := by decide
            omega
          have h7 : ((2 ^ 63 - 1) / (2 ^ 20) : Int) ≥ 2 ^ 20 := by decide
          omega
        · unfold Builtin.Str.tooLong
          rw [sizeLine_eq]
          exact decide_eq_false (by omega)
      · rw [if_neg hz] at q; exact q.elim
    | tup xs =>
      simp only [dMul] at q
      by_cases hz : k ≤ 1000 ∧ -1000 ≤ k ∧ xs.length ≤ 1000
      · rw [if_pos hz] at q
        cases rx with
        | tup hx rx =>
          rename_i a vs
          cases r1
          by_cases h0 : xs = []
          · subst h0
            cases rx
            obtain ⟨t, rfl⟩ := r2
            refine op_repT_same I hx ⟨by omega, by omega⟩ (.inl rfl) ?_
            have e : (List.replicate k.toNat ([] : List D)).flatten = [] := by simp
            rw [e] at q
            exact q.use R (.tup hx .nil)
          · have h0' : vs ≠ [] := fun z => h0 ((rep_nil rx).mp z)
            by_cases h1 : k = 1
            · subst h1
              obtain ⟨t, rfl⟩ := r2
              refine op_repT_same I hx ⟨by omega, by omega⟩ (.inr rfl) ?_
              have e : (List.replicate (1 : Int).toNat xs).flatten = xs := by simp
              rw [e] at q
              exact q.use R (.tup hx rx)
            · by_cases h2 : k ≤ 0
              · obtain ⟨t, rfl⟩ := r2
                refine op_repT_none I hx ⟨by omega, by omega⟩ h0' h2 ?_
                have e : k.toNat = 0 := by omega
                rw [e] at q
                exact q.newT R .nil
              · exact op_repT pins s σ H _ _ _ uy Q I (show L2.RelV (.ref a) (Value.ref a) from rfl) r2 ⟨a, k, vs, rfl, rfl, hx, h0', by omega, by omega, by rw [← rx.length]; omega, q.newT R (rep_flat rx _)⟩
      · rw [if_neg hz] at q; exact q.elim
    | _ => exact gen q
  | _ => cases dx <;> exact q.elim
/-! negation -/
def dNeg : D → Store → Option D
  | .int i, _ => some (.int (-i))
  | _, _ => none
end
end M


set_option Elab.async false
set_option linter.all false
set_option maxRecDepth 100000
set_option maxHeartbeats 4000000
namespace M
open PySem PySem.Spec PyProof.Rows L2
variable [Tabs]

/-! ### data as the model's own -/
mutual
def toPy0 : D → Option PyData
  | .non => some .none
  | .bl b => some (.bool b)
  | .int i => some (.int i)
  | .str x => some (.str x)
  | .tup xs => (toPys0 xs).map .tuple
  | .lst xs => (toPys0 xs).map .list
  | .fro _ => none
  | .loc _ => none
  | .ref _ => none
  | .ty _ => none
def toPys0 : List D → Option (List PyData)
  | [] => some []
  | d :: ds => match toPy0 d, toPys0 ds with
    | some p, some ps => some (p :: ps)
    | _, _ => none
end
def toPy (S : Store) : D → Option PyData
  | .loc n => match S[n]? with
    | some (.lst xs) => (toPys0 xs).map .list
    | _ => none
  | d => toPy0 d
section
variable {K : PySem.W.Frag} {ρ : Rh} {H : Hp} {S : Store}
mutual
theorem toPy0_rep : ∀ (d : D) (v : V) (p : PyData), RepD K ρ H d v → toPy0 d = some p → Dp K H v p
  | .non, _, _, h, e => by cases h; simp only [toPy0] at e; cases e; exact .non
  | .bl b, _, _, h, e => by cases h; simp only [toPy0] at e; cases e; exact .bl b
  | .int i, _, _, h, e => by cases h; simp only [toPy0] at e; cases e; exact .int i
  | .str x, _, _, h, e => by cases h; simp only [toPy0] at e; cases e; exact .str x
  | .tup ds, _, _, h, e => by
    cases h with
    | tup hs hd =>
      simp only [toPy0, Option.map_eq_some_iff] at e
      obtain ⟨ps, e1, rfl⟩ := e
      exact .tup hs (toPys0_rep ds _ ps hd e1)
  | .lst ds, _, _, h, e => by
    cases h with
    | lst hs _ _ hd =>
      simp only [toPy0, Option.map_eq_some_iff] at e
      obtain ⟨ps, e1, rfl⟩ := e
      exact .lst (.inl (.inl hs)) (toPys0_rep ds _ ps hd e1)
  | .fro ds, _, _, h, e => by simp only [toPy0] at e; cases e
  | .loc _, _, _, _, e => by simp only [toPy0] at e; cases e
  | .ref _, _, _, _, e => by simp only [toPy0] at e; cases e
  | .ty _, _, _, _, e => by simp only [toPy0] at e; cases e
theorem toPys0_rep : ∀ (ds : List D) (vs : List V) (ps : List PyData), RepDs K ρ H ds vs → toPys0 ds = some ps → DpAll K H vs ps
  | [], _, _, h, e => by cases h; simp only [toPys0] at e; cases e; exact .nil
  | d :: ds, _, _, h, e => by
    cases h with
    | cons h1 h2 =>
      simp only [toPys0] at e
      split at e
      · cases e
        exact .cons (toPy0_rep d _ _ h1 (by assumption)) (toPys0_rep ds _ _ h2 (by assumption))
      · cases e
end
theorem toPy_rep (R : Rel K ρ H S) {d : D} {v : V} {p : PyData} (h : RepD K ρ H d v) (e : toPy S d = some p) : Dp K H v p := by
  cases d with
  | loc n =>
    cases h with
    | loc ha =>
      simp only [toPy] at e
      split at e
      · rename_i xs hs
        rw [Option.map_eq_some_iff] at e
        obtain ⟨ps, e1, rfl⟩ := e
        obtain ⟨vs, q, r⟩ := R.at_ n _ _ hs ha
        exact .lst (.inl (.inl q)) (toPys0_rep xs _ ps r e1)
      · cases e
  | _ => exact toPy0_rep _ _ _ h e
end

/-! ### comparisons -/
def dEq : DOp
  | .str x, .str y, _ => some (.bl (decide (x = y)))
  | x, y, S => match toPy S x, toPy S y with
    | some p, some q => if SeqAt.shaped p = true ∧ SeqAt.shaped q = true then some (.bl (PyData.eqv p q)) else none
    | _, _ => none
def dNot : D → Option D
  | .bl b => some (.bl (!b))
  | _ => none
def dNe : DOp := fun x y S => (dEq x y S).bind dNot
def dLt : DOp
  | .int i, .int j, _ => some (.bl (decide (i < j)))
  | .str x, .str y, _ => some (.bl (decide (x.cps.toList < y.cps.toList)))
  | _, _, _ => none
def dLe : DOp
  | .int i, .int j, _ => some (.bl (decide (i ≤ j)))
  | .str x, .str y, _ => some (.bl (!decide (y.cps.toList < x.cps.toList)))
  | _, _, _ => none
def dGt : DOp
  | .int i, .int j, _ => some (.bl (decide (j < i)))
  | .str x, .str y, _ => some (.bl (decide (y.cps.toList < x.cps.toList)))
  | _, _, _ => none
def dGe : DOp
  | .int i, .int j, _ => some (.bl (decide (j ≤ i)))
  | .str x, .str y, _ => some (.bl (!decide (x.cps.toList < y.cps.toList)))
  | _, _, _ => none
def isNon : D → Bool
  | .non => true
  | _ => false
def dIs : DOp
  | x, .non, _ => some (.bl (isNon x))
  | .bl a, .bl b, _ => some (.bl (decide (a = b)))
  | _, _, _ => none
def dIsNot : DOp
  | x, .non, _ => some (.bl (!isNon x))
  | .bl a, .bl b, _ => some (.bl (!decide (a = b)))
  | _, _, _ => none
def dIn : DOp
  | .str x, .str y, _ => some (.bl (Txt.contains y x))
  | x, y, S => match toPy S x, toPy S y with
    | some p, some (.list qs) => if SeqAt.shaped p = true ∧ SeqAt.shaped (.list qs) = true then some (.bl (qs.any fun z => PyData.eqv z p)) else none
    | some p, some (.tuple qs) => if SeqAt.shaped p = true ∧ SeqAt.shaped (.list qs) = true then some (.bl (qs.any fun z => PyData.eqv z p)) else none
    | _, _ => none
def dNotIn : DOp := fun x y S => (dIn x y S).bind dNot
section
variable {X : Cx}
theorem isNon_rep {K : PySem.W.Frag} {ρ : Rh} {H : Hp} {d : D} {v : V} (h : RepD K ρ H d v) : decide (v = V.non) = isNon d := by
  cases h <;> rfl
theorem dEq_gen {x y : D} {S : Store} (h : ¬ ∃ a b, x = .str a ∧ y = .str b) : dEq x y S = match toPy S x, toPy S y with
    | some p, some q => if SeqAt.shaped p = true ∧ SeqAt.shaped q = true then some (.bl (PyData.eqv p q)) else none
    | _, _ => none := by
  cases x <;> cases y <;> first | rfl | exact (h ⟨_, _, rfl, rfl⟩).elim
theorem opd_eq (hu : X.A.units + 64 < cLine) : OpD X (compareOp .Eq) dEq := fun pins s σ ρ H S dx dy vx vy ux uy Q I R rx ry r1 r2 q => by
  by_cases h : ∃ a b, dx = .str a ∧ dy = .str b
  · obtain ⟨a, b, rfl, rfl⟩ := h
    cases rx; cases ry
    refine op_eq pins s σ H _ _ ux uy Q I r1 r2 ⟨rfl, ?_⟩
    have e : decide (V.str a = V.str b) = decide (a = b) := by simp
    rw [e]
    exact q.use R (.bl _)
  · rw [dEq_gen h] at q
    split at q
    · rename_i p p' h1 h2
      by_cases hs : SeqAt.shaped p = true ∧ SeqAt.shaped p' = true
      · rw [if_pos hs] at q
        exact op_eqD hu pins s σ H _ _ ux uy Q I r1 r2 ⟨p, p', toPy_rep R rx h1, toPy_rep R ry h2, hs.1, hs.2, q.use R (.bl _)⟩
      · rw [if_neg hs] at q; exact q.elim
    · exact q.elim
theorem opd_ne (hu : X.A.units + 64 < cLine) : OpD X (compareOp .NotEq) dNe := fun pins s σ ρ H S dx dy vx vy ux uy Q I R rx ry r1 r2 q => by
  unfold dNe at q
  by_cases h : ∃ a b, dx = .str a ∧ dy = .str b
  · obtain ⟨a, b, rfl, rfl⟩ := h
    cases rx; cases ry
    refine op_ne pins s σ H _ _ ux uy Q I r1 r2 ⟨rfl, ?_⟩
    have e : decide (V.str a = V.str b) = decide (a = b) := by simp
    rw [e]
    exact q.use R (.bl _)
  · rw [dEq_gen h] at q
    split at q
    · rename_i p p' h1 h2
      by_cases hs : SeqAt.shaped p = true ∧ SeqAt.shaped p' = true
      · rw [if_pos hs] at q
        exact op_neD hu pins s σ H _ _ ux uy Q I r1 r2 ⟨p, p', toPy_rep R rx h1, toPy_rep R ry h2, hs.1, hs.2, q.use R (.bl _)⟩
      · rw [if_neg hs] at q; exact q.elim
    · exact q.elim
theorem opd_lt : OpD X (compareOp .Lt) dLt := fun pins s σ ρ H S dx dy vx vy ux uy Q I R rx ry r1 r2 q => by
  cases dx <;> cases dy <;> first
    | exact q.elim
    | (cases rx; cases ry; exact op_lt pins s σ H _ _ ux uy Q I r1 r2 ⟨_, _, rfl, rfl, q.use R (.bl _)⟩)
    | (cases rx; cases ry; exact op_lt_str pins s σ H _ _ ux uy Q I r1 r2 ⟨_, _, rfl, rfl, q.use R (.bl _)⟩)
theorem opd_le : OpD X (compareOp .LtE) dLe := fun pins s σ ρ H S dx dy vx vy ux uy Q I R rx ry r1 r2 q => by
  cases dx <;> cases dy <;> first
    | exact q.elim
    | (cases rx; cases ry; exact op_le pins s σ H _ _ ux uy Q I r1 r2 ⟨_, _, rfl, rfl, q.use R (.bl _)⟩)
    | (cases rx; cases ry; exact op_le_str pins s σ H _ _ ux uy Q I r1 r2 ⟨_, _, rfl, rfl, q.use R (.bl _)⟩)
theorem opd_gt : OpD X (compareOp .Gt) dGt := fun pins s σ ρ H S dx dy vx vy ux uy Q I R rx ry r1 r2 q => by
  cases dx <;> cases dy <;> first
    | exact q.elim
    | (cases rx; cases ry; exact op_gt pins s σ H _ _ ux uy Q I r1 r2 ⟨_, _, rfl, rfl, q.use R (.bl _)⟩)
    | (cases rx; cases ry; exact op_gt_str pins s σ H _ _ ux uy Q I r1 r2 ⟨_, _, rfl, rfl, q.use R (.bl _)⟩)
theorem opd_ge : OpD X (compareOp .GtE) dGe := fun pins s σ ρ H S dx dy vx vy ux uy Q I R rx ry r1 r2 q => by
  cases dx <;> cases dy <;> first
    | exact q.elim
    | (cases rx; cases ry; exact op_ge pins s σ H _ _ ux uy Q I r1 r2 ⟨_, _, rfl, rfl, q.use R (.bl _)⟩)
    | (cases rx; cases ry; exact op_ge_str pins s σ H _ _ ux uy Q I r1 r2 ⟨_, _, rfl, rfl, q.use R (.bl _)⟩)
theorem opd_is : OpD X (compareOp .Is) dIs := fun pins s σ ρ H S dx dy vx vy ux uy Q I R rx ry r1 r2 q => by
  cases dy with
  | non =>
    have e : dIs dx .non S = some (.bl (isNon dx)) := by cases dx <;> rfl
    rw [e] at q
    have e2 := isNon_rep rx
    cases ry
    refine op_isN pins s σ H _ _ ux uy Q I r1 r2 ⟨rfl, ?_⟩
    rw [e2]
    exact q.use R (.bl _)
  | bl b =>
    cases dx with
    | bl a => cases rx; cases ry; exact op_isBl pins s σ H _ _ ux uy Q I r1 r2 ⟨a, b, rfl, rfl, q.use R (.bl _)⟩
    | _ => exact q.elim
  | _ => cases dx <;> exact q.elim
theorem opd_isNot : OpD X (compareOp .IsNot) dIsNot := fun pins s σ ρ H S dx dy vx vy ux uy Q I R rx ry r1 r2 q => by
  cases dy with
  | non =>
    have e : dIsNot dx .non S = some (.bl (!isNon dx)) := by cases dx <;> rfl
    rw [e] at q
    have e2 := isNon_rep rx
    cases ry
    refine op_notN pins s σ H _ _ ux uy Q I r1 r2 ⟨rfl, ?_⟩
    rw [e2]
    exact q.use R (.bl _)
  | bl b =>
    cases dx with
    | bl a => cases rx; cases ry; exact op_notBl pins s σ H _ _ ux uy Q I r1 r2 ⟨a, b, rfl, rfl, q.use R (.bl _)⟩
    | _ => exact q.elim
  | _ => cases dx <;> exact q.elim
theorem dIn_gen {x y : D} {S : Store} (h : ¬ ∃ a b, x = .str a ∧ y = .str b) : dIn x y S = match toPy S x, toPy S y with
    | some p, some (.list qs) => if SeqAt.shaped p = true ∧ SeqAt.shaped (.list qs) = true then some (.bl (qs.any fun z => PyData.eqv z p)) else none
    | some p, some (.tuple qs) => if SeqAt.shaped p = true ∧ SeqAt.shaped (.list qs) = true then some (.bl (qs.any fun z => PyData.eqv z p)) else none
    | _, _ => none := by
  cases x <;> cases y <;> first | rfl | exact (h ⟨_, _, rfl, rfl⟩).elim
theorem in_room {d : PyData} {qs : List PyData} (sd : SeqAt.shaped d = true) (hu : X.A.units + 65 < cLine) : X.A.units + 1 + min (PyData.depthAll qs) d.depth < cLine := by
  have h1 := SeqAt.depth_of_shaped sd
  have h2 := Nat.min_le_right (PyData.depthAll qs) d.depth
  omega
theorem opd_in_ (neg : Bool) (hu : X.A.units + 65 < cLine) : OpD X (compareOp (if neg then .NotIn else .In)) (if neg then dNotIn else dIn) := fun pins s σ ρ H S dx dy vx vy ux uy Q I R rx ry r1 r2 q => by
  by_cases h : ∃ a b, dx = .str a ∧ dy = .str b
  · obtain ⟨a, b, rfl, rfl⟩ := h
    cases rx; cases ry
    obtain ⟨t, rfl⟩ := r1
    obtain ⟨u, rfl⟩ := r2
    cases neg
    · exact SB.contains ⟨.bl _, H, I, rfl, q.use R (.bl _)⟩
    · exact SB.notContains ⟨.bl _, H, I, rfl, q.use R (.bl _)⟩
  · have fin : ∀ (k : Bool), dIn dx dy S = some (.bl k) → Q (.bl (if neg then !k else k)) H := fun k e => by
      cases neg
      · simp only [Bool.false_eq_true, if_false] at q ⊢
        rw [e] at q
        exact q.use R (.bl _)
      · simp only [if_true] at q ⊢
        unfold dNotIn at q
        rw [e] at q
        exact q.use R (.bl _)
    have none : dIn dx dy S = none → wpAny (model X.prog X.w) X.A (compareOp (if neg then .NotIn else .In) ux uy) (EP X pins σ Q) X.xe s := fun e => by
      cases neg
      · simp only [Bool.false_eq_true, if_false] at q
        rw [e] at q; exact q.elim
      · simp only [if_true] at q
        unfold dNotIn at q
        rw [e] at q; exact q.elim
    cases hd : dIn dx dy S with
    | none => exact none hd
    | some d =>
      have hd' := hd
      rw [dIn_gen h] at hd'
      split at hd'
      · rename_i p qs h1 h2
        split at hd'
        · rename_i hs
          cases hd'
          have fin := fin _ hd
          have d1 := toPy_rep R rx h1
          have d2 := toPy_rep R ry h2
          obtain ⟨as, e1⟩ := Dp.reads I p vx ux d1 r1
          obtain ⟨bs, e2⟩ := Dp.reads I (.list qs) vy uy d2 r2
          cases neg
          · exact SeqAt.in_list_reads e2 e1 (SeqAt.canLay_of_shaped hs.2) (SeqAt.canLay_of_shaped hs.1) (in_room hs.1 hu) ⟨.bl _, H, I, rfl, fin⟩
          · exact SeqAt.notIn_list_reads e2 e1 (SeqAt.canLay_of_shaped hs.2) (SeqAt.canLay_of_shaped hs.1) (in_room hs.1 hu) ⟨.bl _, H, I, rfl, fin⟩
        · cases hd'
      · rename_i p qs h1 h2
        split at hd'
        · rename_i hs
          cases hd'
          have fin := fin _ hd
          have d1 := toPy_rep R rx h1
          have d2 := toPy_rep R ry h2
          obtain ⟨as, e1⟩ := Dp.reads I p vx ux d1 r1
          obtain ⟨bs, e2⟩ := Dp.reads I (.tuple qs) vy uy d2 r2
          cases neg
          · exact SeqAt.in_tuple_reads e2 e1 (SeqAt.canLay_of_shaped hs.2) (SeqAt.canLay_of_shaped hs.1) (in_room hs.1 hu) ⟨.bl _, H, I, rfl, fin⟩
          · exact SeqAt.notIn_tuple_reads e2 e1 (SeqAt.canLay_of_shaped hs.2) (SeqAt.canLay_of_shaped hs.1) (in_room hs.1 hu) ⟨.bl _, H, I, rfl, fin⟩
        · cases hd'
      · cases hd'
theorem opd_in (hu : X.A.units + 65 < cLine) : OpD X (compareOp .In) dIn := opd_in_ false hu
theorem opd_notIn (hu : X.A.units + 65 < cLine) : OpD X (compareOp .NotIn) dNotIn := opd_in_ true hu
/-! two comparisons -/
def mChain (g g' : DOp) (a b c : ME) : ME := fun e S => (a e S).bind fun x S1 => (b e S1).bind fun y S2 => (Res.of (g x y S2) S2).bind fun k S3 => match k with
  | .bl k => if k = true then (c e S3).bind fun z S4 => .of (g' y z S4) S4 else .ok (.bl false) S3
  | _ => .bad
variable {W : WX} {a b c : Expr} {ma mb mc : ME} {pos : Pos}
theorem tE_chain {g g' : DOp} {σ : L2.St} {H : Hp} {Q : VK} (h : tE X.K X.mg W (mChain g g' ma mb mc) σ H Q) : tChain (rOpD X.K g) (rOpD X.K g') (tE X.K X.mg W ma) (tE X.K X.mg W mb) (tE X.K X.mg W mc) σ H Q := by
  obtain ⟨ρ, e, S, he, R, q⟩ := h
  refine ⟨ρ, e, S, he, R, (Post.bind q).mono fun x S1 ρ1 H1 f1 R1 q vx rx => ?_⟩
  refine ⟨ρ1, e, S1, he.fr R.free f1, R1, (Post.bind q).mono fun y S2 ρ2 H2 f2 R2 q vy ry => ?_⟩
  refine ⟨ρ2, S2, x, y, R2, RepD.fr R1.free f2 _ _ rx, ry, ?_⟩
  cases hk : g x y S2 with
  | none => rw [hk] at q; exact q.elim
  | some k =>
    rw [hk] at q
    intro ρ3 H3 f3 R3 v rv
    have q := Post.fr f3 q
    cases k with
    | bl k =>
      cases rv
      refine ⟨k, rfl, ?_⟩
      cases k with
      | true =>
        rw [if_pos rfl]
        refine ⟨ρ3, e, S2, ((he.fr R.free f1).fr R1.free f2).fr R2.free f3, R3, (Post.bind (r := mc e S2) (f := fun z S4 => Res.of (g' y z S4) S4) q).mono fun z S4 ρ4 H4 f4 R4 q vz rz => ?_⟩
        exact ⟨ρ4, S4, y, z, R4, RepD.fr R3.free f4 _ _ (RepD.fr R2.free f3 _ _ ry), rz, PostE.of (σ := σ) q⟩
      | false => exact q ρ3 H3 (Fr.refl _ _) R3 _ (.bl false)
    | _ => exact q.elim
theorem em_chain {op op' : CmpOp} {g g' : DOp} (o : OpD X (compareOp op) g) (o' : OpD X (compareOp op') g') (ha : EM X W a ma) (hb : EM X W b mb) (hc : EM X W c mc) (hm : lastMarks [op, op'] [b, c] = false := by with_unfolding_all rfl) :
    EM X W (.Compare a [op, op'] [b, c] pos) (mChain g g' ma mb mc) := pe_imp (pe_chain o.r o'.r ha hb hc hm) fun σ H Q h => tE_chain h
theorem tm_chain {op op' : CmpOp} {g g' : DOp} (o : OpD X (compareOp op) g) (o' : OpD X (compareOp op') g') (ha : EM X W a ma) (hb : EM X W b mb) (hc : EM X W c mc) (hm : lastMarks [op, op'] [b, c] = false := by with_unfolding_all rfl) :
    TM X W (.Compare a [op, op'] [b, c] pos) (mB (mChain g g' ma mb mc)) := pt_imp (pt_chain o.r o'.r ha hb hc hm) fun σ H Q h => tE_chain (tE_test h)
/-! negation -/
def mUn (g : D → Store → Option D) (a : ME) : ME := fun e S => (a e S).bind fun x S1 => .of (g x S1) S1
theorem em_neg (ha : EM X W a ma) : EM X W (.UnaryOp .USub a pos) (mUn dNeg ma) :=
  pe_imp (pe_un un_neg ha) fun σ H Q h => tE_then (f := fun x e S => .of (dNeg x S) S) (fun ρ H d v e S he R r q => by
    cases d with
    | int i => cases r; exact ⟨i, rfl, q ρ H (Fr.refl _ _) R _ (.int _)⟩
    | _ => exact q.elim) h
end
end M


set_option Elab.async false
set_option linter.all false
set_option maxRecDepth 100000
set_option maxHeartbeats 4000000
namespace M
open PySem PySem.Spec PyProof.Rows L2
variable [Tabs]

/-! ### items -/
def dIx : DOp
  | .str x, .int i, _ => if x.length ≤ sizeLine then (atI x.cps.toList i).map fun c => .str ⟨#[c]⟩ else none
  | d, .int i, S => (seqOf S d).bind fun xs => atI xs i
  | _, _, _ => none
theorem atI_rep {K : PySem.W.Frag} {ρ : Rh} {H : Hp} {xs : List D} {vs : List V} {i : Int} {d : D} (h : RepDs K ρ H xs vs) (e : atI xs i = some d) : ∃ v, atI vs i = some v ∧ RepD K ρ H d v := by
  unfold atI at e ⊢
  rw [← h.length]
  cases q : ixN xs.length i with
  | none => rw [q] at e; cases e
  | some j =>
    rw [q] at e
    obtain ⟨v, a, b⟩ := h.get (i := j) e
    exact ⟨v, a, b⟩
section
variable {X : Cx} {W : WX} {a b c : Expr} {ma mb mc : ME} {pos : Pos}
theorem em_ix (ha : EM X W a ma) (hb : EM X W b mb) (hs : PlainIx b) : EM X W (.Subscript a b pos) (mBin dIx ma mb) :=
  pe_imp (pe_ix ix_seq ha hb hs) fun σ H Q h => tE_bin (fun ρ H S dx dy vx vy Q σ R rx ry q => by
    have q := PostE.of q
    have seq : ∀ xs i, seqOf S dx = some xs → dy = .int i → PostV X.K ρ H S Q (atI xs i) → rIx X.K vx vy H Q := fun xs i e ei qa => by
      subst ei
      cases ry
      obtain ⟨a, vs, rfl, hq, r⟩ := seqOf_rep R rx e
      cases hk : atI xs i with
      | none => rw [hk] at qa; exact qa.elim
      | some d =>
        rw [hk] at qa
        obtain ⟨v, hv, rv⟩ := atI_rep r hk
        rcases hq with hq | hq
        · exact .inl ⟨a, vs, i, v, rfl, rfl, hq, hv, qa.use R rv⟩
        · exact .inr (.inl ⟨a, vs, i, v, rfl, rfl, hq, hv, qa.use R rv⟩)
    cases dy with
    | int i =>
      have gen : PostV X.K ρ H S Q ((seqOf S dx).bind fun xs => atI xs i) → rIx X.K vx vy H Q := fun q => by
        cases e : seqOf S dx with
        | none => rw [e] at q; exact q.elim
        | some xs => rw [e] at q; exact seq xs i e rfl q
      cases dx with
      | str x =>
        cases rx; cases ry
        simp only [dIx] at q
        by_cases hz : x.length ≤ sizeLine
        · rw [if_pos hz] at q
          cases hk : atI x.cps.toList i with
          | none => rw [hk] at q; exact q.elim
          | some c => rw [hk] at q; exact .inr (.inr ⟨x, i, c, rfl, rfl, hz, hk, q.use R (.str _)⟩)
        · rw [if_neg hz] at q; exact q.elim
      | _ => exact gen q
    | _ => cases dx <;> exact q.elim) h

/-! ### slices -/
def cutD (xs : List D) (lo hi : Option Int) : List D := (xs.drop (HT.sIx xs.length 0 lo)).take (HT.sIx xs.length xs.length hi - HT.sIx xs.length 0 lo)
theorem cutD_rep {K : PySem.W.Frag} {ρ : Rh} {H : Hp} {xs : List D} {vs : List V} (h : RepDs K ρ H xs vs) (lo hi : Option Int) : RepDs K ρ H (cutD xs lo hi) (cutV vs lo hi) := by
  unfold cutD cutV
  rw [h.length]
  exact (h.drop _).take _
theorem cutD_whole {xs : List D} {lo hi : Option Int} (h : HT.sIx xs.length 0 lo = 0 ∧ HT.sIx xs.length xs.length hi = xs.length) : cutD xs lo hi = xs := by
  unfold cutD
  rw [h.1, h.2]
  simp
def dSlice (d : D) (lo hi : Option Int) (S : Store) : Option D := match d with
  | .str x => if x.length ≤ sizeLine then some (.str (Txt.slice x lo hi)) else none
  | .tup xs => some (.tup (cutD xs lo hi))
  | d => (lstOf S d).map fun xs => .lst (cutD xs lo hi)
/-- a part of a slice -/
abbrev MO := Env → Store → Res (Option Int)
def mNo : MO := fun _ S => .ok none S
def iOf : D → Option Int
  | .int i => some i
  | _ => none
def mPart (m : ME) : MO := fun e S => (m e S).bind fun d S1 => .of ((iOf d).map some) S1
def tO (K : PySem.W.Frag) (mg : Str → Option Value) (W : WX) (m : MO) : TO := fun σ H Q => ∃ ρ e S, EnvRel K ρ H σ e ∧ Rel K ρ H S ∧ Post K mg W (fun o _ _ H' => Q o H') ρ H σ (m e S)
abbrev OM (X : Cx) (W : WX) (e : Option Expr) (m : MO) : Prop := PO X e (tO X.K X.mg W m)
theorem om_no : OM X W none mNo := ⟨fun pins s σ H Q I ⟨ρ, e, S, he, R, q⟩ => po_none.run pins s σ H Q I (q ρ H (Fr.refl _ _) R)⟩
theorem om_some (h : EM X W a ma) : OM X W (some a) (mPart ma) := ⟨fun pins s σ H Q I ⟨ρ, e, S, he, R, q⟩ => (po_some h).run pins s σ H Q I ⟨ρ, e, S, he, R, (Post.bind q).mono fun d S1 ρ1 H1 f1 R1 q v rv => by
  cases d with
  | int i => cases rv; exact ⟨i, rfl, q ρ1 H1 (Fr.refl _ _) R1⟩
  | _ => exact q.elim⟩⟩
def mSlice (a : ME) (lo hi : MO) : ME := fun e S => (a e S).bind fun d S1 => (lo e S1).bind fun l S2 => (hi e S2).bind fun h S3 => .of (dSlice d l h S3) S3
theorem em_slice {lo hi : Option Expr} {ml mh : MO} {p2 : Pos} (ha : EM X W a ma) (hl : OM X W lo ml) (hh : OM X W hi mh) : EM X W (.Subscript a (.Slice lo hi none p2) pos) (mSlice ma ml mh) :=
  pe_imp (pe_slice (sl_tupA.or (sl_list.or C8.sl_txt)) ha hl hh) fun σ H Q ⟨ρ, e, S, he, R, q⟩ => by
    refine ⟨ρ, e, S, he, R, (Post.bind q).mono fun d S1 ρ1 H1 f1 R1 q v rv => ?_⟩
    refine ⟨ρ1, e, S1, he.fr R.free f1, R1, (Post.bind q).mono fun l S2 ρ2 H2 f2 R2 q => ?_⟩
    refine ⟨ρ2, e, S2, (he.fr R.free f1).fr R1.free f2, R2, (Post.bind q).mono fun h S3 ρ3 H3 f3 R3 q => ?_⟩
    have rv := RepD.fr R2.free f3 _ _ (RepD.fr R1.free f2 _ _ rv)
    have q := PostE.of (σ := σ) q
    have gen : PostV X.K ρ3 H3 S3 Q ((lstOf S3 d).map fun xs => .lst (cutD xs l h)) → rSlL X.K v l h H3 Q := fun q => by
      cases e : lstOf S3 d with
      | none => rw [e] at q; exact q.elim
      | some xs =>
        rw [e] at q
        obtain ⟨a, vs, rfl, hq, r⟩ := lstOf_rep R3 rv e
        exact ⟨a, vs, rfl, hq, q.newL R3 (cutD_rep r l h)⟩
    cases d with
    | str x =>
      cases rv
      simp only [dSlice] at q
      by_cases hz : x.length ≤ sizeLine
      · rw [if_pos hz] at q; exact .inr (.inr ⟨x, rfl, hz, q.use R3 (.str _)⟩)
      · rw [if_neg hz] at q; exact q.elim
    | tup xs =>
      cases rv with
      | tup hx rx =>
        rename_i a vs
        simp only [dSlice] at q
        refine .inl ⟨a, vs, rfl, hx, fun hw => ?_, fun _ => q.newT R3 (cutD_rep rx l h)⟩
        rw [← rx.length] at hw
        rw [cutD_whole hw] at q
        exact q.use R3 (.tup hx rx)
    | _ => exact .inr (.inl (gen q))

/-! ### backwards -/
theorem adjust_back (n : Nat) : Builtin.Slice.sliceAdjust none none (-1) (n : Int) = ((n : Int) - 1, -1) := by
  unfold Builtin.Slice.sliceAdjust
  simp
theorem places_back (n : Nat) : Builtin.Slice.slicePlaces ((n : Int) - 1) (-1) (-1) = n := by
  unfold Builtin.Slice.slicePlaces
  have h1 : ¬ ((-1 : Int) > 0) := by omega
  simp only [h1, if_false]
  by_cases h : (n : Int) - 1 > -1
  · rw [if_pos h, show (- -1 : Int) = 1 by decide, Int.ediv_one]; omega
  · rw [if_neg h]; omega
theorem fm_congr {α β : Type} {f g : α → Option β} : ∀ {l : List α}, (∀ x ∈ l, f x = g x) → l.filterMap f = l.filterMap g
  | [], _ => rfl
  | x :: l, h => by
    rw [List.filterMap_cons, List.filterMap_cons, h x List.mem_cons_self, fm_congr fun y hy => h y (List.mem_cons_of_mem _ hy)]
theorem pick_back (xs : Array Value) : ((List.range xs.size).filterMap fun (m : Nat) => xs[(((xs.size : Int) - 1) + (m : Int) * -1).toNat]?).toArray = xs.toList.reverse.toArray := by
  have e : (List.range xs.size).filterMap (fun (m : Nat) => xs[(((xs.size : Int) - 1) + (m : Int) * -1).toNat]?) = ((List.range xs.size).map fun k => xs.size - 1 - k).filterMap (xs[·]?) := by
    rw [List.filterMap_map]
    apply fm_congr
    intro k hk
    have := List.mem_range.mp hk
    show xs[_]? = xs[xs.size - 1 - k]?
    congr 1
    omega
  rw [e, PySem.W.krv_range, List.filterMap_reverse, PySem.W.krv_all]
theorem getItem_tuple_back {prog : Program} {w : World} {A : Around} {E : Value → Shared → Prop} {s : Shared} {t sl : Addr} {items : Array Value} {tk : Tok} {Q : Value → Shared → Prop} (ht : IsTup s.heap t items) (hs : s.heap.IsSliceOf sl .none .none (.int (-1) tk))
    (h : Q (.ref s.heap.objs.size) { s with heap := s.heap.push { cls := .type "tuple", data := .seq items.toList.reverse.toArray } }) (hsz : items.size ≤ sizeLine) : wpAny (model prog w) A (getItem (.ref t) (.ref sl)) Q E s := by
  have htake : sizeOk (.seq items.toList.reverse.toArray) := by
    show items.toList.reverse.toArray.size ≤ sizeLine
    rw [List.size_toArray, List.length_reverse, Array.length_toList]
    exact hsz
  obtain ⟨os, hos, hcs, hds⟩ := id hs
  have hTs : s.TypeIs (.ref sl) "slice" := ⟨os, hos, hcs⟩
  unfold getItem
  try with_reducible refine wpAny_holding ?_
  first | refine wpAny_bind (wpAny_pure ?_) | skip
  refine wpAny_bind (wpAny_sequenceKey ht.typeIs (by decide) ?_)
  refine wpAny_bind (wpAny_callSpecial?_slot (name := Str.ofString "__getitem__") ht.typeIs PyProof.Rows.slot_tuple_getitem
    (wpAny_call_entry PyProof.Rows.slot_tuple_getitem ht.typeIs entry_tuple_getitem ?_ (args_tuple_getitem _ _)))
  show wpAny _ _ (Builtin.Tuple.tupleItemsOf (.ref t) >>= _) _ _ s
  refine wpAny_bind (tupleItemsOf_ ht ?_)
  refine wpAny_bind (wpAny_typeOf hTs ?_)
  rw [if_pos (by decide)]
  refine wpAny_bind ?_
  unfold Builtin.Slice.sliceApplied Builtin.Slice.sliceFields
  refine wpAny_bind (wpAny_bind (wpAny_field hos hds (x := .none) rfl (wpAny_bind (wpAny_field hos hds (x := .none) rfl (wpAny_bind (wpAny_field hos hds (x := .int (-1) tk) rfl (wpAny_pure ?_)))))))
  refine wpAny_bind (HT.slicePart_ (o := some (-1)) (.int (-1) tk) ?_)
  show wpAny _ _ (if ((-1 : Int) == 0) = true then _ else _) _ _ s
  rw [if_neg (by decide)]
  refine wpAny_bind (HT.slicePart_ (o := none) .none (wpAny_bind (HT.slicePart_ (o := none) .none (wpAny_bind (wpAny_pure ?_)))))
  show wpAny _ _ (match Builtin.Slice.sliceAdjust none none (-1) (items.size : Int) with | (lo, hi) => pure (lo, (-1 : Int), Builtin.Slice.slicePlaces lo hi (-1))) _ _ s
  rw [adjust_back]
  show wpAny _ _ (pure ((items.size : Int) - 1, (-1 : Int), Builtin.Slice.slicePlaces ((items.size : Int) - 1) (-1) (-1))) _ _ s
  rw [places_back]
  refine wpAny_pure ?_
  have hno : ¬ ((((items.size : Int) - 1) == 0 && (-1 : Int) == 1 && items.size == items.size) = true) := by simp
  show wpAny _ _ (if (((items.size : Int) - 1) == 0 && (-1 : Int) == 1 && items.size == items.size) = true then _ else _) _ _ s
  rw [if_neg hno, pick_back]
  first
    | exact wpAny_bind (m := Builtin.Tuple.tupleExact _) (wpAny_newObj_type (wpAny_pure ⟨_, rfl, wpAny_pure h⟩) htake)
    | exact wpAny_bind (m := Builtin.Tuple.tupleExact _) (wpAny_newObj_type (wpAny_bind (wpAny_pure (wpAny_pure ⟨_, rfl, wpAny_pure h⟩))) htake)
    | exact wpAny_bind (wpAny_bind (m := Builtin.Tuple.tupleExact _) (wpAny_newObj_type (wpAny_pure (wpAny_pure ⟨_, rfl, wpAny_pure h⟩)) htake))
    | exact wpAny_bind (wpAny_bind (m := Builtin.Tuple.tupleExact _) (wpAny_newObj_type (wpAny_pure ⟨_, rfl, wpAny_pure h⟩) htake))
def rRev (K : PySem.W.Frag) : V → Hp → VK → Prop := fun x H Q => (∃ a xs, x = .ref a ∧ SqL K H a xs ∧ ∀ p, H p = none → Q (.ref p) (upd H p (.lst xs.reverse))) ∨ (∃ a xs, x = .ref a ∧ SqT K H a xs ∧ ∀ p, H p = none → Q (.ref p) (upd H p (.tup xs.reverse)))
def tRev (K : PySem.W.Frag) (te : TE) : TE := fun σ H Q => te σ H fun x H1 => rRev K x H1 Q
theorem pe_rev {e : Expr} {te : TE} {k : Nat} {p1 p2 p3 pos : Pos} (he : PE X e te) : PE X (.Subscript e (.Slice none none (some (.UnaryOp .USub (.Constant (.int 1) k p1) p2)) p3) pos) (tRev X.K te) := by
  refine ⟨fun pins s σ H Q I h => ?_⟩
  refine Subscript_ (thn (he.run pins s σ H _ I h) fun v s1 ⟨x, H1, I1, r1, q1⟩ => ?_)
  have hst : PO X (some (.UnaryOp .USub (.Constant (.int 1) k p1) p2)) (tPart (tUn (rU fun i => .int (-i)) (tC (.int 1)))) := po_some (pe_un un_neg pe_int)
  refine wpAny_Slice (thn (po_none.run pins s1 σ H1 (fun o H2 => o = none ∧ H2 = H1) I1 ⟨rfl, rfl⟩) fun vl s2 ⟨l, H2, I2, pl, el, e2⟩ => ?_)
  subst el e2
  refine thn (po_none.run pins s2 σ H2 (fun o H3 => o = none ∧ H3 = H2) I2 ⟨rfl, rfl⟩) fun vu s3 ⟨u, H3, I3, pu, eu, e3⟩ => ?_
  subst eu e3
  refine thn (hst.run pins s3 σ H3 (fun o H4 => o = some (-1) ∧ H4 = H3) I3 ⟨1, rfl, -1, rfl, rfl, rfl⟩) fun vs s4 ⟨o, H4, I4, ps, eo, e4⟩ => ?_
  subst eo e4
  have I5 : Inv X pins σ H4 { s4 with heap := s4.heap.push { cls := .type "slice", data := .fields #[vl, vu, vs] } } := I4.kept (t' := s4.toks) fun b ob q => Heap.get?_push_of_some _ q
  rcases q1 with ⟨a, xs, ex, hx, q⟩ | ⟨a, xs, ex, hx, q⟩
  · subst ex
    cases r1
    obtain ⟨its, r, ht, hz⟩ := I5.list hx
    have hlen := r.length
    show wpAny (model X.prog X.w) X.A (subscriptTail e (.Slice none none (some (.UnaryOp .USub (.Constant (.int 1) k p1) p2)) p3) (.ref a) (.ref s4.heap.objs.size)) (EP X pins σ Q) X.xe { s4 with heap := s4.heap.push { cls := .type "slice", data := .fields #[vl, vu, vs] } }
    refine tail_any (ops := [.ref a, .ref s4.heap.objs.size]) ht.isList.typeIs (PySem.slot_list_getitem.lookup) ?_ (by with_unfolding_all rfl)
    refine wpAny_getItem_list_slice ht.isList (Heap.IsSliceOf.new _ vl vu vs) pl pu ps (by decide) ?_ (by rw [List.size_toArray]; omega)
    rw [PySem.W.krv_pick]
    refine ⟨.ref _, _, I5.laid (t' := s4.toks) (o := .lst xs.reverse) (fun b ob q => Heap.get?_push_of_some _ q) (Nat.le_refl _) ?_, rfl, q _ (I5.hok.fresh (Nat.le_refl _))⟩
    exact ⟨by rw [List.length_reverse]; exact hz, _, 0, r.reverse, Heap.get?_push_size _ rfl⟩
  · subst ex
    cases r1
    obtain ⟨its, r, ht, hz⟩ := I5.tuple hx
    have hlen := r.length
    cases pl; cases pu; cases ps
    show wpAny (model X.prog X.w) X.A (subscriptTail e (.Slice none none (some (.UnaryOp .USub (.Constant (.int 1) k p1) p2)) p3) (.ref a) (.ref s4.heap.objs.size)) (EP X pins σ Q) X.xe { s4 with heap := s4.heap.push { cls := .type "slice", data := .fields #[.none, .none, .int (-1) _] } }
    refine tail_any (ops := [.ref a, .ref s4.heap.objs.size]) ht.typeIs (PyProof.Rows.slot_tuple_getitem.lookup) ?_ (by with_unfolding_all rfl)
    refine getItem_tuple_back ht (Heap.IsSliceOf.new _ _ _ _) ?_ (by rw [List.size_toArray]; omega)
    refine ⟨.ref _, _, I5.laid (t' := s4.toks) (o := .tup xs.reverse) (fun b ob q => Heap.get?_push_of_some _ q) (Nat.le_refl _) ?_, rfl, q _ (I5.hok.fresh (Nat.le_refl _))⟩
    exact ⟨by rw [List.length_reverse]; exact hz, _, by simpa using r.reverse, IsTup.new _ _⟩
def dRev (d : D) (S : Store) : Option D := match d with
  | .tup xs => some (.tup xs.reverse)
  | d => (lstOf S d).map fun xs => .lst xs.reverse
theorem em_rev {k : Nat} {p1 p2 p3 : Pos} (ha : EM X W a ma) : EM X W (.Subscript a (.Slice none none (some (.UnaryOp .USub (.Constant (.int 1) k p1) p2)) p3) pos) (mUn dRev ma) :=
  pe_imp (pe_rev ha) fun σ H Q h => tE_then (f := fun x e S => .of (dRev x S) S) (fun ρ H d v e S he R r q => by
    have q := PostE.of (σ := σ) q
    have gen : PostV X.K ρ H S Q ((lstOf S d).map fun xs => .lst xs.reverse) → rRev X.K v H Q := fun q => by
      cases e : lstOf S d with
      | none => rw [e] at q; exact q.elim
      | some xs =>
        rw [e] at q
        obtain ⟨a, vs, rfl, hq, r⟩ := lstOf_rep R r e
        exact .inl ⟨a, vs, rfl, hq, q.newL R r.reverse⟩
    cases d with
    | tup xs => cases r with | tup hx rx => exact .inr ⟨_, _, rfl, hx, q.newT R rx.reverse⟩
    | _ => exact gen q) h
end
end M


set_option Elab.async false
set_option linter.all false
set_option maxRecDepth 100000
set_option maxHeartbeats 4000000
namespace M
open PySem PySem.Spec PyProof.Rows L2
variable [Tabs]

section
variable {X : Cx} {W : WX} {a b c e : Expr} {es : List Expr} {ma mb mc : ME} {m : MA} {pos : Pos}
/-! ### arguments, displays -/
def mNil : MA := fun _ S => .ok [] S
def mCons (a : ME) (r : MA) : MA := fun e S => (a e S).bind fun d S1 => (r e S1).bind fun ds S2 => .ok (d :: ds) S2
theorem am_nil : AM X W [] mNil := pa_imp pa_nil fun σ H Q ⟨ρ, e, S, he, R, q⟩ => q ρ H (Fr.refl _ _) R [] .nil
theorem am_cons (ha : EM X W e ma) (hr : AM X W es m) (hs : starEach (e :: es) X.env = (false, eval e X.env) :: starEach es X.env := by rfl) : AM X W (e :: es) (mCons ma m) :=
  pa_imp (pa_cons ha hr hs) fun σ H Q ⟨ρ, e, S, he, R, q⟩ => ⟨ρ, e, S, he, R, (Post.bind q).mono fun d S1 ρ1 H1 f1 R1 q v rv => ⟨ρ1, e, S1, he.fr R.free f1, R1, (Post.bind q).mono fun ds S2 ρ2 H2 f2 R2 q vs rvs =>
    q ρ2 H2 (Fr.refl _ _) R2 (v :: vs) (.cons (RepD.fr R1.free f2 _ _ rv) rvs)⟩⟩
/-- arguments, then something by their values -/
theorem tA_then {β : Type} {g : List D → Store → Res D} {σ : L2.St} {H : Hp} {Q : VK} {u : List V → Hp → Prop}
    (hu : ∀ ρ H ds vs S, Rel X.K ρ H S → RepDs X.K ρ H ds vs → PostE X.K X.mg W ρ H σ Q (g ds S) → u vs H)
    (h : tE X.K X.mg W (fun e S => (m e S).bind fun ds S1 => g ds S1) σ H Q) : tA X.K X.mg W m σ H u := by
  obtain ⟨ρ, e, S, he, R, q⟩ := h
  exact ⟨ρ, e, S, he, R, (Post.bind q).mono fun ds S1 ρ1 H1 f1 R1 q vs r => hu ρ1 H1 ds vs S1 R1 r q⟩
def mTup (m : MA) : ME := fun e S => (m e S).bind fun ds S1 => .of (if ds.length ≤ sizeLine then some (.tup ds) else none) S1
theorem em_tup {k} (h : AM X W es m) : EM X W (.Tuple es k pos) (mTup m) :=
  pe_imp (pe_tup h) fun σ H Q h => tA_then (g := fun ds S => .of (if ds.length ≤ sizeLine then some (.tup ds) else none) S) (β := D) (fun ρ H ds vs S R r q => by
    have q := PostE.of (σ := σ) q
    by_cases hz : ds.length ≤ sizeLine
    · rw [if_pos hz] at q
      exact ⟨by rw [← r.length]; exact hz, q.newT R r⟩
    · rw [if_neg hz] at q; exact q.elim) h
/-- a list of written items -/
def mLst (m : MA) : MA := fun e S => (m e S).bind fun ds S1 => .of (if ds.length ≤ sizeLine then some ds else none) S1
theorem PostN.of_new {σ : L2.St} {Q : VK} {ρ : Rh} {H : Hp} {S : Store} {ds : List D} {vs : List V} (R : Rel X.K ρ H S) (r : RepDs X.K ρ H ds vs) (q : PostN X.K X.mg W ρ H σ Q (.ok ds S)) : ∀ p, H p = none → Q (.ref p) (upd H p (.lst vs)) := fun p hp =>
  q ρ _ p vs (Fr.laid hp) (R.laidH hp) hp (R.newh hp).1 upd_same (RepDs.laidH R hp r)
theorem PostN.bind {α : Type} {σ : L2.St} {Q : VK} {ρ : Rh} {H : Hp} {f : α → Store → Res (List D)} : ∀ {r : Res α}, PostN X.K X.mg W ρ H σ Q (r.bind f) → Post X.K X.mg W (fun a S1 ρ1 H1 => PostN X.K X.mg W ρ1 H1 σ Q (f a S1)) ρ H σ r
  | .ok _ _, h => fun ρ' H' g R => PostN.fr g h
  | .ex _ _, h => h
  | .bad, h => h
theorem nm_lst (h : AM X W es m) : NM X W (.List es pos) (mLst m) :=
  pe_imp (pe_lst h) fun σ H Q ⟨ρ, e, S, he, R, q⟩ => ⟨ρ, e, S, he, R, (PostN.bind q).mono fun ds S1 ρ1 H1 f1 R1 q vs r => by
    by_cases hz : ds.length ≤ sizeLine
    · rw [if_pos hz] at q
      exact ⟨by rw [← r.length]; exact hz, PostN.of_new R1 r q⟩
    · rw [if_neg hz] at q; exact q.elim⟩
/-- a new list by value; as an object of the store -/
def asV (m : MA) : ME := fun e S => (m e S).bind fun ds S1 => .ok (.lst ds) S1
def asL (m : MA) : ME := fun e S => (m e S).bind fun ds S1 => .ok (.loc S1.length) (S1 ++ [.lst ds])
theorem em_val (h : NM X W e m) : EM X W e (asV m) := pe_imp h fun σ H Q ⟨ρ, e, S, he, R, q⟩ => ⟨ρ, e, S, he, R, by
  unfold asV at q
  cases hk : m e S with
  | bad => rw [hk] at q; exact q
  | ex c S1 => rw [hk] at q; exact q
  | ok ds S1 =>
    rw [hk] at q
    exact fun ρ' H' p vs f R' hp hn e1 r => q ρ' H' f R'.unhide _ (.lst e1 hn (fun m => by
      obtain ⟨ws, z⟩ := R.hid p (by rw [← f.hid]; exact m)
      rw [hp] at z; cases z) (RepDs.sees Sees.unhide _ _ r))⟩
theorem em_loc (h : NM X W e m) : EM X W e (asL m) := pe_imp h fun σ H Q ⟨ρ, e, S, he, R, q⟩ => ⟨ρ, e, S, he, R, by
  unfold asL at q
  cases hk : m e S with
  | bad => rw [hk] at q; exact q
  | ex c S1 => rw [hk] at q; exact q
  | ok ds S1 =>
    rw [hk] at q
    exact fun ρ' H' p vs f R' hp hn e1 r => q _ H' (f.shown hp) (R'.shown hn e1 r) _ (.loc (by
      show (ρ'.l ++ [p])[S1.length]? = some p
      have : ρ'.l.length = S1.length := R'.len
      rw [List.getElem?_append_right (by omega), this]; simp))⟩

/-! ### calls of what is built in -/
def CallD (X : Cx) (f : Value) (g : List D → Store → Option D) : Prop :=
  ∀ (pins : List (Addr × Obj)) (s : Shared) (σ : L2.St) (ρ : Rh) (H : Hp) (S : Store) (ds : List D) (vs : List V) (us : List Value) (Q : VK), Inv X pins σ H s → Rel X.K ρ H S → RepDs X.K ρ H ds vs → Vals vs us →
    PostV X.K ρ H S Q (g ds S) → wpAny (model X.prog X.w) X.A (call f us) (EP X pins σ Q) X.xe s
theorem CallD.r {f : Value} {g : List D → Store → Option D} (o : CallD X f g) : CallR X f (fun vs H Q => ∃ ρ S ds, Rel X.K ρ H S ∧ RepDs X.K ρ H ds vs ∧ PostV X.K ρ H S Q (g ds S)) :=
  fun pins s σ H xs us Q I r ⟨ρ, S, ds, R, rd, q⟩ => o pins s σ ρ H S ds xs us Q I R rd r q
def mCall (g : List D → Store → Option D) (m : MA) : ME := fun e S => (m e S).bind fun ds S1 => .of (g ds S1) S1
variable {id T : String} {x : Str} {p : Pos}
theorem em_callB {g : List D → Store → Option D} (o : CallD X (.builtin id) g) (hg : Gl X x) (hm : X.mg x = none) (hv : bootBuiltins x = some (.builtin id)) (ha : AM X W (e :: es) m) (hn : x ≠ "__name__" := by decide) (hdb : (x == ("__debug__" : Str)) = false := by decide)
    (he : starEach (e :: es) X.env = (false, eval e X.env) :: starEach es X.env := by rfl) (hpl : (backTo pos (starEach es X.env)).any (·.1) = false := by rfl) : EM X W (.Call (.Name x p) (e :: es) [] pos) (mCall g m) :=
  pe_imp (pe_callB o.r hg hm hv ha hn hdb he hpl) fun σ H Q h => tA_then (β := D) (g := fun ds S => .of (g ds S) S) (fun ρ H ds vs S R r q => ⟨ρ, S, ds, R, r, PostE.of (σ := σ) q⟩) h
theorem em_callTy {g : List D → Store → Option D} (o : CallD X (.type T) g) (hg : Gl X x) (hm : X.mg x = none) (hv : bootBuiltins x = some (.type T)) (ha : AM X W (e :: es) m) (hn : x ≠ "__name__" := by decide) (hdb : (x == ("__debug__" : Str)) = false := by decide)
    (he : starEach (e :: es) X.env = (false, eval e X.env) :: starEach es X.env := by rfl) (hpl : (backTo pos (starEach es X.env)).any (·.1) = false := by rfl) : EM X W (.Call (.Name x p) (e :: es) [] pos) (mCall g m) :=
  pe_imp (pe_callTy o.r hg hm hv ha hn hdb he hpl) fun σ H Q h => tA_then (β := D) (g := fun ds S => .of (g ds S) S) (fun ρ H ds vs S R r q => ⟨ρ, S, ds, R, r, PostE.of (σ := σ) q⟩) h
/-- .. that make a new list -/
def CallN (X : Cx) (f : Value) (g : List D → Store → Option (List D)) : Prop :=
  ∀ (pins : List (Addr × Obj)) (s : Shared) (σ : L2.St) (ρ : Rh) (H : Hp) (S : Store) (ds : List D) (vs : List V) (us : List Value) (Q : VK), Inv X pins σ H s → Rel X.K ρ H S → RepDs X.K ρ H ds vs → Vals vs us →
    (∃ zs, g ds S = some zs ∧ ∀ ws, RepDs X.K ρ H zs ws → ∀ p, H p = none → Q (.ref p) (upd H p (.lst ws))) → wpAny (model X.prog X.w) X.A (call f us) (EP X pins σ Q) X.xe s
def mCallN (g : List D → Store → Option (List D)) (m : MA) : MA := fun e S => (m e S).bind fun ds S1 => .of (g ds S1) S1
theorem tA_thenN {g : List D → Store → Res (List D)} {σ : L2.St} {H : Hp} {Q : VK} {u : List V → Hp → Prop}
    (hu : ∀ ρ H ds vs S, Rel X.K ρ H S → RepDs X.K ρ H ds vs → PostN X.K X.mg W ρ H σ Q (g ds S) → u vs H)
    (h : tN X.K X.mg W (fun e S => (m e S).bind fun ds S1 => g ds S1) σ H Q) : tA X.K X.mg W m σ H u := by
  obtain ⟨ρ, e, S, he, R, q⟩ := h
  exact ⟨ρ, e, S, he, R, (PostN.bind q).mono fun ds S1 ρ1 H1 f1 R1 q vs r => hu ρ1 H1 ds vs S1 R1 r q⟩
theorem CallN.r {f : Value} {g : List D → Store → Option (List D)} (o : CallN X f g) : CallR X f (fun vs H Q => ∃ ρ S ds, Rel X.K ρ H S ∧ RepDs X.K ρ H ds vs ∧ ∃ zs, g ds S = some zs ∧ ∀ ws, RepDs X.K ρ H zs ws → ∀ p, H p = none → Q (.ref p) (upd H p (.lst ws))) :=
  fun pins s σ H xs us Q I r ⟨ρ, S, ds, R, rd, q⟩ => o pins s σ ρ H S ds xs us Q I R rd r q
theorem nm_callTy {g : List D → Store → Option (List D)} (o : CallN X (.type T) g) (hg : Gl X x) (hm : X.mg x = none) (hv : bootBuiltins x = some (.type T)) (ha : AM X W (e :: es) m) (hn : x ≠ "__name__" := by decide) (hdb : (x == ("__debug__" : Str)) = false := by decide)
    (he : starEach (e :: es) X.env = (false, eval e X.env) :: starEach es X.env := by rfl) (hpl : (backTo pos (starEach es X.env)).any (·.1) = false := by rfl) : NM X W (.Call (.Name x p) (e :: es) [] pos) (mCallN g m) :=
  pe_imp (pe_callTy o.r hg hm hv ha hn hdb he hpl) fun σ H Q h => tA_thenN (g := fun ds S => .of (g ds S) S) (fun ρ H ds vs S R r q => ⟨ρ, S, ds, R, r, by
    cases hz : g ds S with
    | none => rw [hz] at q; exact q.elim
    | some zs => rw [hz] at q; exact ⟨zs, rfl, fun ws rw' => PostN.of_new R rw' q⟩⟩) h
theorem nm_callB {g : List D → Store → Option (List D)} (o : CallN X (.builtin id) g) (hg : Gl X x) (hm : X.mg x = none) (hv : bootBuiltins x = some (.builtin id)) (ha : AM X W (e :: es) m) (hn : x ≠ "__name__" := by decide) (hdb : (x == ("__debug__" : Str)) = false := by decide)
    (he : starEach (e :: es) X.env = (false, eval e X.env) :: starEach es X.env := by rfl) (hpl : (backTo pos (starEach es X.env)).any (·.1) = false := by rfl) : NM X W (.Call (.Name x p) (e :: es) [] pos) (mCallN g m) :=
  pe_imp (pe_callB o.r hg hm hv ha hn hdb he hpl) fun σ H Q h => tA_thenN (g := fun ds S => .of (g ds S) S) (fun ρ H ds vs S R r q => ⟨ρ, S, ds, R, r, by
    cases hz : g ds S with
    | none => rw [hz] at q; exact q.elim
    | some zs => rw [hz] at q; exact ⟨zs, rfl, fun ws rw' => PostN.of_new R rw' q⟩⟩) h
end
end M


set_option Elab.async false
set_option linter.all false
set_option maxRecDepth 100000
set_option maxHeartbeats 4000000
namespace M
open PySem PySem.Spec PyProof.Rows L2
variable [Tabs]

/-! ### walks over tuples of ints -/
section
variable {prog : Program} {w : World} {A : Around} {E : Value → Shared → Prop} {s : Shared} {l : Addr} {its : List Value} {ns : List Int}
theorem iter_tup {items : Array Value} {Q : Value → Shared → Prop} (hl : IsTup s.heap l items)
    (h : ∀ s₂ : Shared, s₂ = { s with heap := s.heap.push { cls := .type "tuple_iterator", data := .fields #[.ref l, .int 0 0] } } →
      (s₂.heap.IsTupleIter s.heap.objs.size l 0 ∧ s₂.heap.IsTuple l items) → (∀ b ∈ [s.heap.objs.size, l], b < s₂.heap.objs.size) → l ≠ s.heap.objs.size → Q (.ref s.heap.objs.size) s₂) :
    wpAny (model prog w) A (pyIter (.ref l)) Q E s := by
  have hlt : l < s.heap.objs.size := hl.lt
  have hl' : s.heap.IsTuple l items := hl
  refine wpAny_pyIter_tuple hl' (h _ rfl ⟨⟨_, Heap.get?_push_size _ rfl, rfl, rfl⟩, hl'.push _⟩ (fun b hb => ?_) (Nat.ne_of_lt hlt))
  show b < (s.heap.push _).objs.size
  rw [Heap.size_push]
  rcases List.mem_cons.mp hb with rfl | hb
  · exact Nat.lt_succ_self _
  · rcases List.mem_cons.mp hb with rfl | hb
    · exact Nat.lt_succ_of_lt hlt
    · cases hb
theorem tkept {b₀ : Addr} {h h' : Heap} {o₀ : Obj} (hk : ∀ b o, b ∉ [h.objs.size] → (h.push o₀).get? b = some o → h'.get? b = some o) : ∀ b o, h.get? b = some o → h'.get? b = some o := fun b o e =>
  hk b o (fun m => by
    rcases List.mem_cons.mp m with m | m
    · have := Heap.lt_size e; rw [m] at this; exact Nat.lt_irrefl _ this
    · cases m) (Heap.get?_push_of_some _ e)
theorem sum_tup (hh : A.handled = none) (hl : IsTup s.heap l its.toArray) (hi : IntsAre its ns) {Q : Value → Shared → Prop}
    (h : ∀ h' tk t', (∀ b o, s.heap.get? b = some o → h'.get? b = some o) → Q (.int ns.sum t') { s with heap := h', toks := tk }) : wpAny (model prog w) A (call (.builtin "sum") [.ref l]) Q E s := by
  obtain ⟨xs, e⟩ := hi.allInts.items
  have hn : numsOf (intItems xs).toList = ns := by rw [← e]; exact hi.numsOf
  rw [nums_intItems] at hn
  rw [e] at hl
  refine call_sum_walkG (iter_tup hl fun s₂ e st hfp hlI => ?_)
  subst e
  refine ⟨_, _, _, _, _, _, numAt xs, rfl, Walks.tuple (A := A.in1) hh _ l hlI (intItems xs), st, hfp, (fun _ _ => intItems_at), fun h' tk t' hk => ?_⟩
  have := h h' tk t' (tkept (b₀ := l) hk)
  rw [← hn] at this
  simpa [intItems, preSum_eq, List.take_of_length_le] using this
theorem max_tup (hh : A.handled = none) (hl : IsTup s.heap l its.toArray) (hi : IntsAre its ns) (hne : 0 < ns.length) {Q : Value → Shared → Prop}
    (h : ∀ h' tk M t', (∀ b o, s.heap.get? b = some o → h'.get? b = some o) → M ∈ ns → (∀ a, a ∈ ns → a ≤ M) → Q (.int M t') { s with heap := h', toks := tk }) : wpAny (model prog w) A (call (.builtin "max") [.ref l]) Q E s := by
  obtain ⟨xs, e⟩ := hi.allInts.items
  have hn : numsOf (intItems xs).toList = ns := by rw [← e]; exact hi.numsOf
  rw [nums_intItems] at hn
  subst hn
  rw [e] at hl
  have hsz : 0 < xs.size := by simpa using hne
  refine call_max_walk (iter_tup hl fun s₂ e st hfp hlI => ?_)
  subst e
  refine ⟨_, _, _, _, _, _, _, rfl, Walks.tuple (A := A.in1) hh _ l hlI (intItems xs), st, hfp, by simpa [intItems] using hsz, CmpOf.ints_gt (numAt xs) (fun _ _ => intItems_at), fun v h' tk hP hk => ?_⟩
  have hv : (intItems xs)[argBest (fun i j => decide (numAt xs i > numAt xs j)) (xs.size - 1)]? = some v := by simpa [intItems] using hP
  obtain ⟨t, rfl⟩ := intItems_at hv
  obtain ⟨h1, h2⟩ := argBest_gt (numAt xs) (xs.size - 1)
  refine h h' tk _ t (tkept (b₀ := l) hk) ?_ fun a ha => ?_
  · rw [numAt_eq]; exact PySem.getD_mem (by rw [List.length_map, Array.length_toList]; omega)
  · obtain ⟨j, hj, rfl⟩ := mem_getD ha
    rw [List.length_map, Array.length_toList] at hj
    rw [← numAt_eq]; exact h2 j (by omega)
theorem min_tup (hh : A.handled = none) (hl : IsTup s.heap l its.toArray) (hi : IntsAre its ns) (hne : 0 < ns.length) {Q : Value → Shared → Prop}
    (h : ∀ h' tk M t', (∀ b o, s.heap.get? b = some o → h'.get? b = some o) → M ∈ ns → (∀ a, a ∈ ns → M ≤ a) → Q (.int M t') { s with heap := h', toks := tk }) : wpAny (model prog w) A (call (.builtin "min") [.ref l]) Q E s := by
  obtain ⟨xs, e⟩ := hi.allInts.items
  have hn : numsOf (intItems xs).toList = ns := by rw [← e]; exact hi.numsOf
  rw [nums_intItems] at hn
  subst hn
  rw [e] at hl
  have hsz : 0 < xs.size := by simpa using hne
  refine call_min_walk (iter_tup hl fun s₂ e st hfp hlI => ?_)
  subst e
  refine ⟨_, _, _, _, _, _, _, rfl, Walks.tuple (A := A.in1) hh _ l hlI (intItems xs), st, hfp, by simpa [intItems] using hsz, CmpOf.ints_lt (numAt xs) (fun _ _ => intItems_at), fun v h' tk hP hk => ?_⟩
  have hv : (intItems xs)[argBest (fun i j => decide (numAt xs i < numAt xs j)) (xs.size - 1)]? = some v := by simpa [intItems] using hP
  obtain ⟨t, rfl⟩ := intItems_at hv
  obtain ⟨h1, h2⟩ := argBest_lt (numAt xs) (xs.size - 1)
  refine h h' tk _ t (tkept (b₀ := l) hk) ?_ fun a ha => ?_
  · rw [numAt_eq]; exact PySem.getD_mem (by rw [List.length_map, Array.length_toList]; omega)
  · obtain ⟨j, hj, rfl⟩ := mem_getD ha
    rw [List.length_map, Array.length_toList] at hj
    rw [← numAt_eq]; exact h2 j (by omega)
end

/-! ### lists of ints, of texts -/
def intsOf : List D → Option (List Int)
  | [] => some []
  | .int i :: ds => (intsOf ds).map (i :: ·)
  | _ => none
def strsOf : List D → Option (List Str)
  | [] => some []
  | .str x :: ds => (strsOf ds).map (x :: ·)
  | _ => none
theorem intsOf_eq : ∀ {ds : List D} {ns : List Int}, intsOf ds = some ns → ds = ns.map D.int
  | [], _, h => by simp only [intsOf] at h; cases h; rfl
  | d :: ds, ns, h => by
    cases d <;> simp only [intsOf] at h <;> try cases h
    rw [Option.map_eq_some_iff] at h
    obtain ⟨ms, h1, rfl⟩ := h
    rw [intsOf_eq h1]; rfl
theorem strsOf_eq : ∀ {ds : List D} {ns : List Str}, strsOf ds = some ns → ds = ns.map D.str
  | [], _, h => by simp only [strsOf] at h; cases h; rfl
  | d :: ds, ns, h => by
    cases d <;> simp only [strsOf] at h <;> try cases h
    rw [Option.map_eq_some_iff] at h
    obtain ⟨ms, h1, rfl⟩ := h
    rw [strsOf_eq h1]; rfl
@[simp] theorem intsOf_map : ∀ ns : List Int, intsOf (ns.map D.int) = some ns
  | [] => rfl
  | n :: ns => by simp [intsOf, intsOf_map ns]
@[simp] theorem strsOf_map : ∀ ns : List Str, strsOf (ns.map D.str) = some ns
  | [] => rfl
  | n :: ns => by simp [strsOf, strsOf_map ns]

def maxI : List Int → Option Int
  | [] => none
  | x :: xs => some (xs.foldl max x)
def minI : List Int → Option Int
  | [] => none
  | x :: xs => some (xs.foldl min x)
theorem foldl_max : ∀ (xs : List Int) (x : Int), x ≤ xs.foldl max x ∧ (∀ y ∈ xs, y ≤ xs.foldl max x) ∧ (xs.foldl max x = x ∨ xs.foldl max x ∈ xs)
  | [], x => ⟨Int.le_refl _, by simp, .inl rfl⟩
  | a :: xs, x => by
    obtain ⟨h1, h2, h3⟩ := foldl_max xs (max x a)
    simp only [List.foldl_cons]
    refine ⟨by omega, fun y hy => ?_, ?_⟩
    · rcases List.mem_cons.mp hy with rfl | hy
      · omega
      · exact h2 y hy
    · rcases h3 with h3 | h3
      · rw [h3]
        by_cases h : x ≤ a
        · right; rw [Int.max_eq_right h]; exact List.mem_cons_self
        · left; omega
      · right; exact List.mem_cons_of_mem _ h3
theorem foldl_min : ∀ (xs : List Int) (x : Int), xs.foldl min x ≤ x ∧ (∀ y ∈ xs, xs.foldl min x ≤ y) ∧ (xs.foldl min x = x ∨ xs.foldl min x ∈ xs)
  | [], x => ⟨Int.le_refl _, by simp, .inl rfl⟩
  | a :: xs, x => by
    obtain ⟨h1, h2, h3⟩ := foldl_min xs (min x a)
    simp only [List.foldl_cons]
    refine ⟨by omega, fun y hy => ?_, ?_⟩
    · rcases List.mem_cons.mp hy with rfl | hy
      · omega
      · exact h2 y hy
    · rcases h3 with h3 | h3
      · rw [h3]
        by_cases h : a ≤ x
        · right; rw [Int.min_eq_right h]; exact List.mem_cons_self
        · left; omega
      · right; exact List.mem_cons_of_mem _ h3
theorem maxI_spec {ns : List Int} {m : Int} (h : maxI ns = some m) : m ∈ ns ∧ ∀ y ∈ ns, y ≤ m := by
  cases ns with
  | nil => cases h
  | cons x xs =>
    cases h
    obtain ⟨h1, h2, h3⟩ := foldl_max xs x
    refine ⟨?_, fun y hy => ?_⟩
    · rcases h3 with h3 | h3
      · rw [h3]; exact List.mem_cons_self
      · exact List.mem_cons_of_mem _ h3
    · rcases List.mem_cons.mp hy with rfl | hy
      · exact h1
      · exact h2 y hy
theorem minI_spec {ns : List Int} {m : Int} (h : minI ns = some m) : m ∈ ns ∧ ∀ y ∈ ns, m ≤ y := by
  cases ns with
  | nil => cases h
  | cons x xs =>
    cases h
    obtain ⟨h1, h2, h3⟩ := foldl_min xs x
    refine ⟨?_, fun y hy => ?_⟩
    · rcases h3 with h3 | h3
      · rw [h3]; exact List.mem_cons_self
      · exact List.mem_cons_of_mem _ h3
    · rcases List.mem_cons.mp hy with rfl | hy
      · exact h1
      · exact h2 y hy

/-! ### the built-in functions -/
def dLen : List D → Store → Option D
  | [.str x], _ => if x.length ≤ sizeLine then some (.int x.length) else none
  | [d], S => (seqOf S d).map fun xs => .int xs.length
  | _, _ => none
def dAbs : List D → Store → Option D
  | [.int i], _ => some (.int (if i < 0 then -i else i))
  | _, _ => none
def dInt : List D → Store → Option D
  | [.int i], _ => some (.int i)
  | [.bl k], _ => some (.int (if k then 1 else 0))
  | [.str x], _ => if x.length ≤ 640 then (PySem.intText? x).map .int else none
  | _, _ => none
def dStr : List D → Store → Option D
  | [.int i], _ => if i.natAbs < 2 ^ 1000 then some (.str (toString i)) else none
  | _, _ => none
def dSum : List D → Store → Option D
  | [d], S => ((seqOf S d).bind intsOf).map fun ns => .int ns.sum
  | _, _ => none
def dMax : List D → Store → Option D
  | [.int i, .int j], _ => some (.int (if j > i then j else i))
  | [d], S => (((seqOf S d).bind intsOf).bind maxI).map .int
  | _, _ => none
def dMin : List D → Store → Option D
  | [.int i, .int j], _ => some (.int (if j < i then j else i))
  | [d], S => (((seqOf S d).bind intsOf).bind minI).map .int
  | _, _ => none
def dTuple : List D → Store → Option D
  | [d], S => (seqOf S d).map .tup
  | _, _ => none
section
variable {X : Cx}
theorem reps1 {K : PySem.W.Frag} {ρ : Rh} {H : Hp} {d : D} {vs : List V} (h : RepDs K ρ H [d] vs) : ∃ v, vs = [v] ∧ RepD K ρ H d v := by
  cases h with | cons a b => cases b; exact ⟨_, rfl, a⟩
theorem reps2 {K : PySem.W.Frag} {ρ : Rh} {H : Hp} {d e : D} {vs : List V} (h : RepDs K ρ H [d, e] vs) : ∃ v w, vs = [v, w] ∧ RepD K ρ H d v ∧ RepD K ρ H e w := by
  cases h with | cons a b => cases b with | cons b c => cases c; exact ⟨_, _, rfl, a, b⟩
/-- a sequence, one argument -/
theorem cd_seq {f : Value} {g : List D → Store → Option D} {h : List D → Option D} (hg : ∀ ds S, g ds S ≠ none → (∃ d xs, ds = [d] ∧ seqOf S d = some xs ∧ g ds S = h xs))
    (k : ∀ (pins : List (Addr × Obj)) (s : Shared) (σ : L2.St) (ρ : Rh) (H : Hp) (S : Store) (a : Addr) (vs : List V) (xs : List D) (u : Value) (Q : VK), L2.Inv X pins σ H s → Rel X.K ρ H S → RepDs X.K ρ H xs vs → L2.RelV (.ref a) u → (SqL X.K H a vs ∨ (SqT X.K H a vs)) →
      PostV X.K ρ H S Q (h xs) → wpAny (model X.prog X.w) X.A (call f [u]) (EP X pins σ Q) X.xe s) : CallD X f g := fun pins s σ ρ H S ds vs us Q I R r rv q => by
  by_cases hn : g ds S = none
  · rw [hn] at q; exact q.elim
  · obtain ⟨d, xs, rfl, e, e2⟩ := hg ds S hn
    rw [e2] at q
    obtain ⟨v, rfl, r1⟩ := reps1 r
    obtain ⟨a, ws, rfl, hq, rx⟩ := seqOf_rep R r1 e
    cases rv with
    | cons ru rt =>
      cases rt
      exact k pins s σ ρ H S a ws xs _ Q I R rx ru hq q
theorem cd_len : CallD X (.builtin "len") dLen := fun pins s σ ρ H S ds vs us Q I R r rv q => by
  have gen : ∀ d, ds = [d] → PostV X.K ρ H S Q ((seqOf S d).map fun xs => .int xs.length) → wpAny (model X.prog X.w) X.A (call (.builtin "len") us) (EP X pins σ Q) X.xe s := fun d e qa => by
    subst e
    cases hs : seqOf S d with
    | none => rw [hs] at qa; exact qa.elim
    | some xs =>
      rw [hs] at qa
      obtain ⟨v, rfl, r1⟩ := reps1 r
      obtain ⟨a, ws, rfl, hq, rx⟩ := seqOf_rep R r1 hs
      refine call_len_seq pins s σ H _ us Q I rv ⟨a, ws, rfl, hq, ?_⟩
      rw [← rx.length]
      exact qa.use R (.int _)
  match ds, r, q, gen with
  | [], _, q, _ => exact q.elim
  | d :: _ :: _, _, q, _ => (cases d <;> exact q.elim)
  | [d], r, q, gen =>
    cases d with
    | str x =>
      simp only [dLen] at q
      by_cases hz : x.length ≤ sizeLine
      · rw [if_pos hz] at q
        obtain ⟨v, rfl, r1⟩ := reps1 r
        cases r1
        exact call_len_str pins s σ H _ us Q I rv ⟨x, rfl, hz, q.use R (.int _)⟩
      · rw [if_neg hz] at q; exact q.elim
    | _ => exact gen _ rfl q
theorem cd_abs : CallD X (.builtin "abs") dAbs := fun pins s σ ρ H S ds vs us Q I R r rv q => by
  match ds, r, q with
  | [], _, q => exact q.elim
  | d :: _ :: _, _, q => (cases d <;> exact q.elim)
  | [d], r, q =>
    cases d with
    | int i =>
      obtain ⟨v, rfl, r1⟩ := reps1 r
      cases r1
      exact call_abs pins s σ H _ us Q I rv ⟨i, rfl, q.use R (.int _)⟩
    | _ => exact q.elim
theorem cd_int : CallD X (.type "int") dInt := fun pins s σ ρ H S ds vs us Q I R r rv q => by
  match ds, r, q with
  | [], _, q => exact q.elim
  | d :: _ :: _, _, q => (cases d <;> exact q.elim)
  | [d], r, q =>
    cases d with
    | int i =>
      obtain ⟨v, rfl, r1⟩ := reps1 r
      cases r1
      exact call_int1 pins s σ H _ us Q I rv (.inl ⟨i, rfl, q.use R (.int _)⟩)
    | bl k =>
      obtain ⟨v, rfl, r1⟩ := reps1 r
      cases r1
      exact call_int1 pins s σ H _ us Q I rv (.inr ⟨k, rfl, q.use R (.int _)⟩)
    | str x =>
      simp only [dInt] at q
      by_cases hz : x.length ≤ 640
      · rw [if_pos hz] at q
        cases hx : PySem.intText? x with
        | none => rw [hx] at q; exact q.elim
        | some n =>
          rw [hx] at q
          obtain ⟨v, rfl, r1⟩ := reps1 r
          cases r1
          exact call_int_str pins s σ H _ us Q I rv ⟨x, n, rfl, hx, hz, q.use R (.int _)⟩
      · rw [if_neg hz] at q; exact q.elim
    | _ => exact q.elim
theorem cd_str : CallD X (.type "str") dStr := fun pins s σ ρ H S ds vs us Q I R r rv q => by
  match ds, r, q with
  | [], _, q => exact q.elim
  | d :: _ :: _, _, q => (cases d <;> exact q.elim)
  | [d], r, q =>
    cases d with
    | int i =>
      simp only [dStr] at q
      by_cases hz : i.natAbs < 2 ^ 1000
      · rw [if_pos hz] at q
        obtain ⟨v, rfl, r1⟩ := reps1 r
        cases r1
        refine call_str_int pins s σ H _ us Q I rv ⟨i, rfl, ?_, q.use R (.str _)⟩
        by_cases h0 : i.natAbs = 0
        · rw [h0]; decide
        · have := (Nat.log2_lt h0).mpr hz
          omega
      · rw [if_neg hz] at q; exact q.elim
    | _ => exact q.elim
theorem seq1 {g : List D → Store → Option D} {h : List D → Option D} (e0 : ∀ S, g [] S = none) (e2 : ∀ d d' r S, g (d :: d' :: r) S = none) (e1 : ∀ d S, g [d] S = (seqOf S d).bind h) : ∀ ds S, g ds S ≠ none → (∃ d xs, ds = [d] ∧ seqOf S d = some xs ∧ g ds S = h xs)
  | [], S, n => (n (e0 S)).elim
  | d :: d' :: r, S, n => (n (e2 d d' r S)).elim
  | [d], S, n => by
    rw [e1] at n
    cases hs : seqOf S d with
    | none => rw [hs] at n; exact (n rfl).elim
    | some xs => exact ⟨d, xs, rfl, hs, by rw [e1, hs]; rfl⟩
theorem tup_of {pins : List (Addr × Obj)} {s : Shared} {σ : L2.St} {H : Hp} {a : Addr} {ns : List Int} (I : L2.Inv X pins σ H s) (h : SqT X.K H a (ns.map V.int)) : ∃ its : List Value, IsTup s.heap a its.toArray ∧ IntsAre its ns := by
  obtain ⟨its, rv, ht, _⟩ := I.tuple h
  exact ⟨its, ht, rv.ints⟩
theorem cd_sum (hc : X.calm = true) : CallD X (.builtin "sum") dSum := cd_seq (h := fun xs => (intsOf xs).map fun ns => .int ns.sum)
  (seq1 (fun _ => rfl) (fun _ _ _ _ => rfl) fun d S => by simp only [dSum]; cases seqOf S d <;> rfl)
  fun pins s σ ρ H S a vs xs u Q I R rx ru hq q => by
    cases hi : intsOf xs with
    | none => rw [hi] at q; exact q.elim
    | some ns =>
      rw [hi] at q
      have e := intsOf_eq hi
      subst e
      have e := RepDs.ints rx
      subst e
      rcases hq with hq | hq
      · exact L2.cr_sum hc pins s σ H _ _ Q I (.cons ru .nil) ⟨a, ns, rfl, hq, q.use R (.int _)⟩
      · obtain ⟨its, ht, hi⟩ := tup_of I hq
        cases ru
        exact sum_tup (I.ok.hd hc) ht hi fun h' tk t' hk => ⟨.int _, H, I.kept hk, ⟨_, rfl⟩, q.use R (.int _)⟩
theorem max_uniq {ns : List Int} {m m' : Int} (h : maxI ns = some m) (h1 : m' ∈ ns) (h2 : ∀ y ∈ ns, y ≤ m') : m' = m := by
  obtain ⟨a, b⟩ := maxI_spec h
  exact Int.le_antisymm (b m' h1) (h2 m a)
theorem min_uniq {ns : List Int} {m m' : Int} (h : minI ns = some m) (h1 : m' ∈ ns) (h2 : ∀ y ∈ ns, m' ≤ y) : m' = m := by
  obtain ⟨a, b⟩ := minI_spec h
  exact Int.le_antisymm (h2 m a) (b m' h1)
theorem cd_max1 (hc : X.calm = true) : CallD X (.builtin "max") (fun ds S => match ds with | [d] => (((seqOf S d).bind intsOf).bind maxI).map .int | _ => none) := cd_seq (h := fun xs => ((intsOf xs).bind maxI).map .int)
  (seq1 (fun _ => rfl) (fun _ _ _ _ => rfl) fun d S => by
    show (((seqOf S d).bind intsOf).bind _).map D.int = _
    cases seqOf S d <;> rfl)
  fun pins s σ ρ H S a vs xs u Q I R rx ru hq q => by
    cases hi : intsOf xs with
    | none => rw [hi] at q; exact q.elim
    | some ns =>
      rw [hi] at q
      have e := intsOf_eq hi
      subst e
      have e := RepDs.ints rx
      subst e
      cases hm : maxI ns with
      | none => simp only [Option.bind_some, hm] at q; exact q.elim
      | some m =>
        simp only [Option.bind_some, hm] at q
        have hl : 0 < ns.length := List.length_pos_of_mem (maxI_spec hm).1
        rcases hq with hq | hq
        · exact L2.cr_max hc pins s σ H _ _ Q I (.cons ru .nil) ⟨a, ns, rfl, hq, hl, fun m' h1 h2 => by rw [max_uniq hm h1 h2]; exact q.use R (.int _)⟩
        · obtain ⟨its, ht, hi⟩ := tup_of I hq
          cases ru
          exact max_tup (I.ok.hd hc) ht hi hl fun h' tk m' t' hk h1 h2 => ⟨.int _, H, I.kept hk, ⟨_, rfl⟩, by rw [max_uniq hm h1 h2]; exact q.use R (.int _)⟩
theorem cd_min1 (hc : X.calm = true) : CallD X (.builtin "min") (fun ds S => match ds with | [d] => (((seqOf S d).bind intsOf).bind minI).map .int | _ => none) := cd_seq (h := fun xs => ((intsOf xs).bind minI).map .int)
  (seq1 (fun _ => rfl) (fun _ _ _ _ => rfl) fun d S => by
    show (((seqOf S d).bind intsOf).bind _).map D.int = _
    cases seqOf S d <;> rfl)
  fun pins s σ ρ H S a vs xs u Q I R rx ru hq q => by
    cases hi : intsOf xs with
    | none => rw [hi] at q; exact q.elim
    | some ns =>
      rw [hi] at q
      have e := intsOf_eq hi
      subst e
      have e := RepDs.ints rx
      subst e
      cases hm : minI ns with
      | none => simp only [Option.bind_some, hm] at q; exact q.elim
      | some m =>
        simp only [Option.bind_some, hm] at q
        have hl : 0 < ns.length := List.length_pos_of_mem (minI_spec hm).1
        rcases hq with hq | hq
        · exact L2.cr_min hc pins s σ H _ _ Q I (.cons ru .nil) ⟨a, ns, rfl, hq, hl, fun m' h1 h2 => by rw [min_uniq hm h1 h2]; exact q.use R (.int _)⟩
        · obtain ⟨its, ht, hi⟩ := tup_of I hq
          cases ru
          exact min_tup (I.ok.hd hc) ht hi hl fun h' tk m' t' hk h1 h2 => ⟨.int _, H, I.kept hk, ⟨_, rfl⟩, by rw [min_uniq hm h1 h2]; exact q.use R (.int _)⟩
theorem cd_max (hc : X.calm = true) : CallD X (.builtin "max") dMax := fun pins s σ ρ H S ds vs us Q I R r rv q => by
  match ds, r, q with
  | [], _, q => exact q.elim
  | [d], r, q => exact cd_max1 hc pins s σ ρ H S [d] vs us Q I R r rv (by cases d <;> exact q)
  | [d, e], r, q =>
    obtain ⟨v, w, rfl, r1, r2⟩ := reps2 r
    cases d with
    | int i =>
      cases e with
      | int j => cases r1; cases r2; exact call_max2 hc pins s σ H _ us Q I rv ⟨i, j, rfl, q.use R (.int _)⟩
      | _ => exact q.elim
    | _ => exact q.elim
  | d :: e :: _ :: _, _, q => (cases d <;> cases e <;> exact q.elim)
theorem cd_min (hc : X.calm = true) : CallD X (.builtin "min") dMin := fun pins s σ ρ H S ds vs us Q I R r rv q => by
  match ds, r, q with
  | [], _, q => exact q.elim
  | [d], r, q => exact cd_min1 hc pins s σ ρ H S [d] vs us Q I R r rv (by cases d <;> exact q)
  | [d, e], r, q =>
    obtain ⟨v, w, rfl, r1, r2⟩ := reps2 r
    cases d with
    | int i =>
      cases e with
      | int j => cases r1; cases r2; exact call_min2 hc pins s σ H _ us Q I rv ⟨i, j, rfl, q.use R (.int _)⟩
      | _ => exact q.elim
    | _ => exact q.elim
  | d :: e :: _ :: _, _, q => (cases d <;> cases e <;> exact q.elim)
theorem cd_tuple : CallD X (.type "tuple") dTuple := fun pins s σ ρ H S ds vs us Q I R r rv q => by
  match ds, r, q with
  | [], _, q => exact q.elim
  | _ :: _ :: _, _, q => exact q.elim
  | [d], r, q =>
    simp only [dTuple] at q
    obtain ⟨v, rfl, r1⟩ := reps1 r
    by_cases ht : ∃ ys, d = .tup ys
    · obtain ⟨ys, rfl⟩ := ht
      simp only [seqOf, Option.map_some] at q
      cases r1 with
      | tup hx rx => exact call_tuple_of pins s σ H _ us Q I rv ⟨_, _, rfl, .inr ⟨hx, q.use R (.tup hx rx)⟩⟩
    · have e' : seqOf S d = lstOf S d := by cases d <;> first | rfl | exact (ht ⟨_, rfl⟩).elim
      rw [e'] at q
      cases hs : lstOf S d with
      | none => rw [hs] at q; exact q.elim
      | some xs =>
        rw [hs] at q
        obtain ⟨a, ws, rfl, hq, rx⟩ := lstOf_rep R r1 hs
        exact call_tuple_of pins s σ H _ us Q I rv ⟨a, ws, rfl, .inl ⟨hq, q.newT R rx⟩⟩
/-- list(x): a new list -/
def nList : List D → Store → Option (List D)
  | [d], S => seqOf S d
  | _, _ => none
theorem cn_list : CallN X (.type "list") nList := fun pins s σ ρ H S ds vs us Q I R r rv ⟨zs, e, q⟩ => by
  match ds, r, e with
  | [], _, e => cases e
  | _ :: _ :: _, _, e => cases e
  | [d], r, e =>
    simp only [nList] at e
    obtain ⟨v, rfl, r1⟩ := reps1 r
    obtain ⟨a, ws, rfl, hq, rx⟩ := seqOf_rep R r1 e
    exact call_list_of pins s σ H _ us Q I rv ⟨a, ws, rfl, hq, q ws rx⟩
end
end M


set_option Elab.async false
set_option linter.all false
set_option maxRecDepth 100000
set_option maxHeartbeats 4000000
namespace M
open PySem PySem.Spec PyProof.Rows L2
variable [Tabs]

/-- what a method comes to: a value and the store behind it -/
def PostVS (K : PySem.W.Frag) (ρ : Rh) (H : Hp) (Q : VK) : Option (D × Store) → Prop
  | some (d, S') => ∀ ρ' H', Fr ρ H ρ' H' → Rel K ρ' H' S' → ∀ v, RepD K ρ' H' d v → Q v H'
  | none => False
def Res.ofS {α : Type} : Option (α × Store) → Res α
  | some (d, S) => .ok d S
  | none => .bad
@[simp] theorem Res.ofS_some {α : Type} (d : α) (S : Store) : Res.ofS (some (d, S)) = .ok d S := rfl
@[simp] theorem Res.ofS_none {α : Type} : Res.ofS (none : Option (α × Store)) = .bad := rfl
theorem PostE.ofS {K : PySem.W.Frag} {mg : Str → Option Value} {W : WX} {ρ : Rh} {H : Hp} {σ : L2.St} {Q : VK} {o : Option (D × Store)} (h : PostE K mg W ρ H σ Q (Res.ofS o)) : PostVS K ρ H Q o := by
  cases o with
  | none => exact h
  | some d => exact h
abbrev MtF := D → List D → Store → Option (D × Store)
/-- the receiver's type -/
def rcv (T : String) (S : Store) (d : D) : Bool := match d with
  | .str _ => T == "str"
  | d => (lstOf S d).isSome && T == "list"
def MtD (X : Cx) (id : String) (g : MtF) : Prop :=
  ∀ (pins : List (Addr × Obj)) (s : Shared) (σ : L2.St) (ρ : Rh) (H : Hp) (S : Store) (d : D) (x : V) (ds : List D) (vs : List V) (u : Value) (us : List Value) (Q : VK), L2.Inv X pins σ H s → Rel X.K ρ H S → RepD X.K ρ H d x → RepDs X.K ρ H ds vs → L2.RelV x u → Vals vs us →
    PostVS X.K ρ H Q (g d ds S) → wpAny (model X.prog X.w) X.A (call (.builtin id) (u :: us)) (EP X pins σ Q) X.xe s
theorem MtD.r {X : Cx} {id : String} {g : MtF} (o : MtD X id g) : MtR X id (fun x vs H Q => ∃ ρ S d ds, Rel X.K ρ H S ∧ RepD X.K ρ H d x ∧ RepDs X.K ρ H ds vs ∧ PostVS X.K ρ H Q (g d ds S)) :=
  fun pins s σ H x xs v us Q I rx rs ⟨ρ, S, d, ds, R, r1, r2, q⟩ => o pins s σ ρ H S d x ds xs v us Q I R r1 r2 rx rs q
def mMeth (T : String) (g : MtF) (o : ME) (m : MA) : ME := fun e S => (o e S).bind fun d S1 => if rcv T S1 d = true then (m e S1).bind fun ds S2 => .ofS (g d ds S2) else .bad
theorem rcv_tyV {K : PySem.W.Frag} {ρ : Rh} {H : Hp} {S : Store} (R : Rel K ρ H S) {T : String} {d : D} {v : V} (h : RepD K ρ H d v) (e : rcv T S d = true) : tyV K T v H := by
  have gen : ((lstOf S d).isSome && T == "list") = true → tyV K T v H := fun z => by
    rw [Bool.and_eq_true] at z
    obtain ⟨xs, hx⟩ := Option.isSome_iff_exists.mp z.1
    obtain ⟨a, vs, rfl, hq, _⟩ := lstOf_rep R h hx
    exact .inl ⟨eq_of_beq z.2, vs, hq⟩
  cases d with
  | str x => cases h; exact eq_of_beq (show (T == "str") = true from e)
  | _ => exact gen e
section
variable {X : Cx} {W : WX} {o e : Expr} {es : List Expr} {mo : ME} {m : MA} {name : Str} {apos cpos : Pos} {T id : String} {g : MtF}
theorem em_bm0 (pa : PlainAttrs T) (slot : Slot T name id) (hty : typeOf (.builtin id) = pure (.type "method_descriptor")) (hm : MtD X id g) (ho : EM X W o mo)
    (hbase : attributeBase o name X.env (eval o X.env) = eval o X.env := by rfl) (hline : (apos.endLine == cpos.line) = true := by rfl) : EM X W (.Call (.Attribute o name apos) [] [] cpos) (mMeth T g mo mNil) :=
  pe_imp (pe_bm0 pa slot hty hm.r ho hbase hline) fun σ H Q h => tE_then (f := fun d e S => if rcv T S d = true then (mNil e S).bind fun ds S2 => .ofS (g d ds S2) else .bad) (fun ρ H d v e S he R r q => by
    by_cases hr : rcv T S d = true
    · rw [if_pos hr] at q
      exact ⟨rcv_tyV R r hr, ρ, S, d, [], R, r, .nil, PostE.ofS (σ := σ) q⟩
    · rw [if_neg hr] at q; exact q.elim) h
theorem em_bm (pa : PlainAttrs T) (slot : Slot T name id) (hty : typeOf (.builtin id) = pure (.type "method_descriptor")) (hm : MtD X id g) (ho : EM X W o mo) (ha : AM X W (e :: es) m)
    (hbase : attributeBase o name X.env (eval o X.env) = eval o X.env := by rfl)
    (hfew : ((backTo cpos (starEach (e :: es) X.env)).all (fun x => !x.1) && (backToKw cpos (keywordEach [] X.env)).all (fun x => x.1.isSome)
      && decide ((e :: es).length + ([] : List Keyword).length + (if ([] : List Keyword).isEmpty then 0 else 1) < 30)) = true := by rfl)
    (hline : (apos.endLine == cpos.line) = true := by rfl) (hs : starEach (e :: es) X.env = (false, eval e X.env) :: starEach es X.env := by rfl) (hplain : (backTo cpos (starEach es X.env)).any (·.1) = false := by rfl) :
    EM X W (.Call (.Attribute o name apos) (e :: es) [] cpos) (mMeth T g mo m) :=
  pe_imp (pe_bm pa slot hty hm.r ho ha hbase hfew hline hs hplain) fun σ H Q h => tE_then (f := fun d e S => if rcv T S d = true then (m e S).bind fun ds S2 => .ofS (g d ds S2) else .bad) (fun ρ H d v e S he R r q => by
    by_cases hr : rcv T S d = true
    · rw [if_pos hr] at q
      refine ⟨rcv_tyV R r hr, ρ, e, S, he, R, (Post.bind q).mono fun ds S2 ρ2 H2 f2 R2 q vs rs => ?_⟩
      exact ⟨ρ2, S2, d, ds, R2, RepD.fr R.free f2 _ _ r, rs, PostE.ofS (σ := σ) q⟩
    · rw [if_neg hr] at q; exact q.elim) h

/-! ### lists that change -/
def seqOf' (S : Store) : D → Option (List D)
  | .tup xs => some xs
  | d => lstOf' S d
def gAppend : MtF
  | .loc n, [d], S => match S[n]? with
    | some (.lst xs) => if xs.length < sizeLine then some (.non, S.set n (.lst (xs ++ [d]))) else none
    | _ => none
  | _, _, _ => none
def gExtend : MtF
  | .loc n, [d], S => match S[n]?, seqOf' S d with
    | some (.lst xs), some ys => if xs.length + ys.length ≤ sizeLine then some (.non, S.set n (.lst (xs ++ ys))) else none
    | _, _ => none
  | _, _, _ => none
def gPop : MtF
  | .loc n, [], S => match S[n]? with
    | some (.lst xs) => (xs.getLast?).map fun d => (d, S.set n (.lst xs.dropLast))
    | _ => none
  | _, _, _ => none
def gInsert : MtF
  | .loc n, [.int i, d], S => match S[n]? with
    | some (.lst xs) => if xs.length < sizeLine ∧ 0 ≤ i ∧ i < 2 ^ 62 then some (.non, S.set n (.lst (xs.take i.toNat ++ [d] ++ xs.drop i.toNat))) else none
    | _ => none
  | _, _, _ => none
variable {K : PySem.W.Frag} {ρ : Rh} {H : Hp} {S : Store} {Q : VK}
/-- the list at loc n -/
theorem loc_at (R : Rel K ρ H S) {n : Nat} {x : V} {xs : List D} (r : RepD K ρ H (.loc n) x) (e : S[n]? = some (.lst xs)) : ∃ a vs, x = .ref a ∧ ρ.l[n]? = some a ∧ H a = some (.lst vs) ∧ RepDs K ρ H xs vs := by
  cases r with
  | loc ha =>
    obtain ⟨vs, q, r⟩ := R.at_ n _ _ e ha
    exact ⟨_, vs, rfl, ha, q, r⟩
theorem PostVS.put (R : Rel K ρ H S) {n : Nat} {a : Addr} (ha : ρ.l[n]? = some a) {ds : List D} {vs : List V} (r : RepDs K ρ H ds vs) {d : D} {v : V} (rd : RepD K ρ H d v) (q : PostVS K ρ H Q (some (d, S.set n (.lst ds)))) : Q v (upd H a (.lst vs)) :=
  q ρ _ (Fr.put (List.mem_of_getElem? ha)) (R.put ha r) v (RepD.fr R.free (Fr.put (List.mem_of_getElem? ha)) _ _ rd)
theorem md_append : MtD X "list.append" gAppend := fun pins s σ ρ H S d x ds vs u us Q I R r1 r2 ru rs q => by
  cases d with
  | loc n =>
    match ds, r2, q with
    | [], _, q => exact q.elim
    | _ :: _ :: _, _, q => exact q.elim
    | [d], r2, q =>
      simp only [gAppend] at q
      split at q
      · rename_i xs hs
        by_cases hz : xs.length < sizeLine
        · rw [if_pos hz] at q
          obtain ⟨a, ws, rfl, ha, hH, rx⟩ := loc_at R r1 hs
          obtain ⟨v, rfl, rv⟩ := reps1 r2
          exact mt_append pins s σ H _ _ u us Q I ru rs ⟨a, ws, v, rfl, rfl, hH, by rw [← rx.length]; exact hz, q.put R ha (rx.append (.cons rv .nil)) .non⟩
        · rw [if_neg hz] at q; exact q.elim
      · exact q.elim
  | _ => cases ds <;> exact q.elim
/-- xs.extend(a tuple) -/
theorem list_extend_tup (l : Addr) (items : Array Value) (n : Nat) (b : Addr) (items2 : Array Value) (n2 : Nat) (dd : Option Addr) (sl : Array (Option Value)) (hs0 : ¬(!items.isEmpty && Builtin.List.listTooLong (items.size + items2.size)) = true) (hs1 : items.size ≤ sizeLine) (hs2 : items.size + items2.size ≤ sizeLine + 1) :
    Meets (Builtin.«list.extend» ⟨[.ref l, .ref b], []⟩) (fun _ R s => s.heap.get? l = some { cls := .type "list", dict := none, data := .seq items n, slots := #[] } ∧ s.heap.get? b = some { cls := .type "tuple", dict := dd, data := .seq items2 n2, slots := sl } ∧ R (.ok (.ret Value.none)) { s with heap := s.heap.update l (Obj.mapSeq fun x => x ++ items2), toks := s.toks }) :=
  .of_wp fun prog w A R s h => by
    obtain ⟨hp, g, d, tk, os⟩ := s; obtain ⟨hl, hb, h⟩ := h; have f1 := AutoSeq1.idx_int; have f2 := AutoSeq1.sub_tuple_tuple; have f3 := AutoSeq1.sub_list_list; have f4 := AutoSeq1.sub_tuple_list; have f5 := AutoSeq1.sub_list_tuple;
    have hz' : (items ++ items2).size ≤ sizeLine + 1 := by rw [Array.size_append]; exact hs2
    wp_walk using (wpAny_updateSeq hl rfl (hz := hs1) (_hz' := hz')), wpAny_loadPart' hl, wpAny_loadPart' hb; exact ⟨_, rfl, h⟩
theorem mt_extendT {l b : Addr} {xs zs : List V} {pins : List (Addr × Obj)} {s : Shared} {σ : L2.St} {H : Hp} {Q : VK} (I : L2.Inv X pins σ H s) (hH : H l = some (.lst xs)) (hB : SqT X.K H b zs) (hz : xs.length + zs.length ≤ sizeLine) (q : Q .non (upd H l (.lst (xs ++ zs)))) :
    wpAny (model X.prog X.w) X.A (call (.builtin "list.extend") [.ref l, .ref b]) (EP X pins σ Q) X.xe s := by
  obtain ⟨z, its, n, r, hl, e⟩ := I.lstM hH
  obtain ⟨its2, r2, ⟨⟨cls, dd, data, sl⟩, e2, hc, n2, hd⟩, hs⟩ := I.tuple hB
  simp only at hc hd
  subst hc hd
  have hl2 := r2.length
  have hsz : its.toArray.size + its2.toArray.size ≤ sizeLine := by rw [List.size_toArray, List.size_toArray]; omega
  have hlong : ¬ (!its.toArray.isEmpty && Builtin.List.listTooLong (its.toArray.size + its2.toArray.size)) = true := by
    rw [notLongL hsz, Bool.and_false]
    exact Bool.false_ne_true
  refine call_meets F.slot_list_extend ⟨_, e, rfl⟩ F.entry_list_extend (F.args_list_extend_2 _ _)
    (list_extend_tup l its.toArray n b its2.toArray n2 dd sl hlong (by rw [List.size_toArray]; omega) (by omega)) ⟨e, e2, ?_⟩
  refine ⟨.non, _, I.lset (its' := its ++ its2) hH e (by simp) (r.append r2) ?_, rfl, q⟩
  rw [List.length_append]
  omega
theorem md_extend : MtD X "list.extend" gExtend := fun pins s σ ρ H S d x ds vs u us Q I R r1 r2 ru rs q => by
  cases d with
  | loc n =>
    match ds, r2, q with
    | [], _, q => exact q.elim
    | _ :: _ :: _, _, q => exact q.elim
    | [d], r2, q =>
      simp only [gExtend] at q
      split at q
      · rename_i xs ys hs hy
        by_cases hz : xs.length + ys.length ≤ sizeLine
        · rw [if_pos hz] at q
          obtain ⟨a, ws, rfl, ha, hH, rx⟩ := loc_at R r1 hs
          obtain ⟨v, rfl, rv⟩ := reps1 r2
          have hz' : ∀ zs, RepDs X.K ρ H ys zs → ws.length + zs.length ≤ sizeLine := fun zs rz => by rw [← rx.length, ← rz.length]; exact hz
          by_cases ht : ∃ zs, d = .tup zs
          · obtain ⟨zs, rfl⟩ := ht
            simp only [seqOf'] at hy
            cases hy
            cases rv with
            | tup hx ry =>
              cases ru
              cases rs with
              | cons ra rs =>
                cases rs
                cases ra
                exact mt_extendT I hH hx (hz' _ ry) (q.put R ha (rx.append ry) .non)
          · have hy' : lstOf' S d = some ys := by
              cases d <;> first | exact hy | exact (ht ⟨_, rfl⟩).elim
            obtain ⟨b, zs, rfl, hb, rz⟩ := lstOf'_rep R rv hy'
            exact mt_extend pins s σ H _ _ u us Q I ru rs ⟨a, b, ws, zs, rfl, rfl, hH, hb, hz' _ rz, q.put R ha (rx.append rz) .non⟩
        · rw [if_neg hz] at q; exact q.elim
      · exact q.elim
  | _ => cases ds <;> exact q.elim
theorem md_pop : MtD X "list.pop" gPop := fun pins s σ ρ H S d x ds vs u us Q I R r1 r2 ru rs q => by
  cases d with
  | loc n =>
    match ds, r2, q with
    | _ :: _, _, q => exact q.elim
    | [], r2, q =>
      simp only [gPop] at q
      split at q
      · rename_i xs hs
        cases hl : xs.getLast? with
        | none => rw [hl] at q; exact q.elim
        | some y =>
          rw [hl] at q
          obtain ⟨a, ws, rfl, ha, hH, rx⟩ := loc_at R r1 hs
          cases r2
          rw [List.getLast?_eq_getElem?] at hl
          obtain ⟨v, hv, rv⟩ := rx.get hl
          have hlen := rx.length
          refine mt_pop pins s σ H _ _ u us Q I ru rs ⟨a, ws, v, rfl, rfl, hH, by rw [← hlen]; exact hv, q.put R ha ?_ rv⟩
          rw [List.dropLast_eq_take, List.dropLast_eq_take, ← hlen]
          exact rx.take _
      · exact q.elim
  | _ => cases ds <;> exact q.elim
theorem md_insert : MtD X "list.insert" gInsert := fun pins s σ ρ H S d x ds vs u us Q I R r1 r2 ru rs q => by
  cases d with
  | loc n =>
    match ds, r2, q with
    | [], _, q => exact q.elim
    | [d], _, q => (cases d <;> exact q.elim)
    | d :: _ :: _ :: _, _, q => (cases d <;> exact q.elim)
    | [d, y], r2, q =>
      cases d with
      | int i =>
        simp only [gInsert] at q
        split at q
        · rename_i xs hs
          by_cases hz : xs.length < sizeLine ∧ 0 ≤ i ∧ i < 2 ^ 62
          · rw [if_pos hz] at q
            obtain ⟨a, ws, rfl, ha, hH, rx⟩ := loc_at R r1 hs
            obtain ⟨v, w, rfl, rv, rw'⟩ := reps2 r2
            cases rv
            refine mt_insert pins s σ H _ _ u us Q I ru rs ⟨a, ws, i, w, rfl, rfl, hH, by rw [← rx.length]; exact hz.1, hz.2.1, by omega, q.put R ha ?_ .non⟩
            exact ((rx.take _).append (.cons rw' .nil)).append (rx.drop _)
          · rw [if_neg hz] at q; exact q.elim
        · exact q.elim
      | _ => exact q.elim
  | _ =>
    match ds, q with
    | [], q => exact q.elim
    | [_], q => exact q.elim
    | a :: _ :: _, q => (cases a <;> exact q.elim)

/-! ### texts -/
/-- a pure method of a text -/
def gStr (h : Str → List D → Store → Option D) : MtF
  | .str x, ds, S => (h x ds S).map fun d => (d, S)
  | _, _, _ => none
theorem PostVS.use (R : Rel K ρ H S) {d : D} {v : V} (r : RepD K ρ H d v) (q : PostVS K ρ H Q (some (d, S))) : Q v H := q ρ H (Fr.refl _ _) R v r
theorem PostVS.toV {o : Option D} (q : PostVS K ρ H Q (o.map fun d => (d, S))) : PostV K ρ H S Q o := by
  cases o with
  | none => exact q
  | some d => exact q
theorem md_str {h : Str → List D → Store → Option D} (k : ∀ (pins : List (Addr × Obj)) (s : Shared) (σ : L2.St) (ρ : Rh) (H : Hp) (S : Store) (x : Str) (ds : List D) (vs : List V) (u : Value) (us : List Value) (Q : VK), L2.Inv X pins σ H s → Rel X.K ρ H S → RepDs X.K ρ H ds vs → L2.RelV (.str x) u → Vals vs us →
      PostV X.K ρ H S Q (h x ds S) → wpAny (model X.prog X.w) X.A (call (.builtin id) (u :: us)) (EP X pins σ Q) X.xe s) : MtD X id (gStr h) := fun pins s σ ρ H S d x ds vs u us Q I R r1 r2 ru rs q => by
  cases d with
  | str y => cases r1; exact k pins s σ ρ H S y ds vs u us Q I R r2 ru rs (PostVS.toV q)
  | _ => exact q.elim
def hJoin (x : Str) : List D → Store → Option D
  | [d], S => ((seqOf S d).bind strsOf).bind fun ys => if (ys.map (·.length)).sum + ys.length * x.length ≤ 16777216 then some (.str (Txt.join x ys)) else none
  | _, _ => none
def hSplit (x : Str) : List D → Store → Option D
  | [.str y], _ => if (y.length == 0) = false ∧ x.length + 2 ≤ sizeLine then some (.lst ((Txt.split x y).map .str)) else none
  | _, _ => none
def hStarts (x : Str) : List D → Store → Option D
  | [.str y], _ => some (.bl (Txt.startswith x y))
  | [.str y, .int i], _ => some (.bl (Txt.startswith3 x y i))
  | _, _ => none
def hFind (x : Str) : List D → Store → Option D
  | [.str y], _ => some (.int (Txt.find x y))
  | [.str y, .int i], _ => some (.int (Txt.find3 x y i))
  | _, _ => none
def hCount (x : Str) : List D → Store → Option D
  | [.str y], _ => some (.int (Txt.count x y))
  | _, _ => none
/-- the place of a part that is there -/
def hIndex (x : Str) : List D → Store → Option D
  | [.str y], _ => match Builtin.Str.occurrences x y 0 x.length 1 with
    | i :: _ => some (.int i)
    | [] => none
  | _, _ => none
theorem md_join : MtD X "str.join" (gStr hJoin) := md_str fun pins s σ ρ H S x ds vs u us Q I R r2 ru rs q => by
  match ds, r2, q with
  | [], _, q => exact q.elim
  | _ :: _ :: _, _, q => exact q.elim
  | [d], r2, q =>
    simp only [hJoin] at q
    obtain ⟨v, rfl, rv⟩ := reps1 r2
    cases hs : seqOf S d with
    | none => rw [hs] at q; exact q.elim
    | some xs =>
      obtain ⟨a, ws, rfl, hq, rx⟩ := seqOf_rep R rv hs
      simp only [hs, Option.bind_some] at q
      cases hy : strsOf xs with
      | none => rw [hy] at q; exact q.elim
      | some ys =>
        simp only [hy, Option.bind_some] at q
        have e := strsOf_eq hy
        subst e
        have e := RepDs.strs rx
        subst e
        by_cases hz : (ys.map (·.length)).sum + ys.length * x.length ≤ 16777216
        · rw [if_pos hz] at q
          exact mt_join pins s σ H _ _ u us Q I ru rs ⟨x, a, ys, rfl, rfl, hq, hz, q.use R (.str _)⟩
        · rw [if_neg hz] at q; exact q.elim
theorem md_split : MtD X "str.split" (gStr hSplit) := md_str fun pins s σ ρ H S x ds vs u us Q I R r2 ru rs q => by
  match ds, r2, q with
  | [], _, q => exact q.elim
  | d :: _ :: _, _, q => (cases d <;> exact q.elim)
  | [d], r2, q =>
    cases d with
    | str y =>
      simp only [hSplit] at q
      obtain ⟨v, rfl, rv⟩ := reps1 r2
      cases rv
      by_cases hz : (y.length == 0) = false ∧ x.length + 2 ≤ sizeLine
      · rw [if_pos hz] at q
        exact mt_split pins s σ H _ _ u us Q I ru rs ⟨x, y, rfl, rfl, hz.1, hz.2, q.newL R (RepDs.of_strs _)⟩
      · rw [if_neg hz] at q; exact q.elim
    | _ => exact q.elim
theorem str2 {P : Prop} {h : Str → List D → Store → Option D} {ds : List D} {S : Store} {x : Str} (e0 : h x [] S = none) (e1 : ∀ d, (∀ y, d ≠ .str y) → h x [d] S = none) (e2 : ∀ d e, (∀ y i, ¬ (d = .str y ∧ e = .int i)) → h x [d, e] S = none) (e3 : ∀ a b c r, h x (a :: b :: c :: r) S = none)
    (hn : h x ds S ≠ none) (k1 : ∀ y, ds = [.str y] → P) (k2 : ∀ y i, ds = [.str y, .int i] → P) : P := by
  match ds with
  | [] => exact (hn e0).elim
  | [d] =>
    by_cases hd : ∃ y, d = .str y
    · obtain ⟨y, rfl⟩ := hd; exact k1 y rfl
    · exact (hn (e1 d fun y z => hd ⟨y, z⟩)).elim
  | [d, e] =>
    by_cases hd : ∃ y i, d = .str y ∧ e = .int i
    · obtain ⟨y, i, rfl, rfl⟩ := hd; exact k2 y i rfl
    · exact (hn (e2 d e fun y i z => hd ⟨y, i, z⟩)).elim
  | a :: b :: c :: r => exact (hn (e3 a b c r)).elim
theorem md_starts : MtD X "str.startswith" (gStr hStarts) := md_str fun pins s σ ρ H S x ds vs u us Q I R r2 ru rs q => by
  by_cases hn : hStarts x ds S = none
  · rw [hn] at q; exact q.elim
  · refine str2 (h := hStarts) (x := x) (S := S) rfl (fun d h => by cases d <;> first | rfl | exact (h _ rfl).elim) (fun d e h => by cases d <;> first | rfl | (cases e <;> first | rfl | exact (h _ _ ⟨rfl, rfl⟩).elim)) (fun a b c r => by cases a <;> first | rfl | (cases b <;> rfl)) hn (fun y e => ?_) fun y i e => ?_
    · subst e
      obtain ⟨v, rfl, rv⟩ := reps1 r2
      cases rv
      exact mt_startswith pins s σ H _ _ u us Q I ru rs ⟨x, y, rfl, rfl, q.use R (.bl _)⟩
    · subst e
      obtain ⟨v, w, rfl, rv, rw'⟩ := reps2 r2
      cases rv; cases rw'
      exact mt_startswith3 pins s σ H _ _ u us Q I ru rs ⟨x, y, i, rfl, rfl, q.use R (.bl _)⟩
theorem md_find : MtD X "str.find" (gStr hFind) := md_str fun pins s σ ρ H S x ds vs u us Q I R r2 ru rs q => by
  by_cases hn : hFind x ds S = none
  · rw [hn] at q; exact q.elim
  · refine str2 (h := hFind) (x := x) (S := S) rfl (fun d h => by cases d <;> first | rfl | exact (h _ rfl).elim) (fun d e h => by cases d <;> first | rfl | (cases e <;> first | rfl | exact (h _ _ ⟨rfl, rfl⟩).elim)) (fun a b c r => by cases a <;> first | rfl | (cases b <;> rfl)) hn (fun y e => ?_) fun y i e => ?_
    · subst e
      obtain ⟨v, rfl, rv⟩ := reps1 r2
      cases rv
      exact mt_find pins s σ H _ _ u us Q I ru rs ⟨x, y, rfl, rfl, q.use R (.int _)⟩
    · subst e
      obtain ⟨v, w, rfl, rv, rw'⟩ := reps2 r2
      cases rv; cases rw'
      exact mt_find3 pins s σ H _ _ u us Q I ru rs ⟨x, y, i, rfl, rfl, q.use R (.int _)⟩
theorem md_count : MtD X "str.count" (gStr hCount) := md_str fun pins s σ ρ H S x ds vs u us Q I R r2 ru rs q => by
  match ds, r2, q with
  | [], _, q => exact q.elim
  | d :: _ :: _, _, q => (cases d <;> exact q.elim)
  | [d], r2, q =>
    cases d with
    | str y =>
      obtain ⟨v, rfl, rv⟩ := reps1 r2
      cases rv
      exact mt_count pins s σ H _ _ u us Q I ru rs ⟨x, y, rfl, rfl, q.use R (.int _)⟩
    | _ => exact q.elim
theorem md_index : MtD X "str.index" (gStr hIndex) := md_str fun pins s σ ρ H S x ds vs u us Q I R r2 ru rs q => by
  match ds, r2, q with
  | [], _, q => exact q.elim
  | d :: _ :: _, _, q => (cases d <;> exact q.elim)
  | [d], r2, q =>
    cases d with
    | str y =>
      obtain ⟨v, rfl, rv⟩ := reps1 r2
      cases rv
      simp only [hIndex] at q
      split at q
      · rename_i i r ho
        obtain ⟨t, rfl⟩ := ru
        cases rs with
        | cons r1 rs =>
          cases rs
          obtain ⟨u, rfl⟩ := r1
          exact PySem.SC.index ho ⟨.int (i : Nat), H, I.tok _, ⟨_, rfl⟩, q.use R (.int _)⟩
      · exact q.elim
    | _ => exact q.elim
end
end M


set_option Elab.async false
set_option linter.all false
set_option maxRecDepth 100000
set_option maxHeartbeats 4000000
namespace M
open PySem PySem.Spec PyProof.Rows L2
variable [Tabs]

/-! ### isinstance -/
def tyName (S : Store) : D → Option String
  | .non => some "NoneType"
  | .bl _ => some "bool"
  | .int _ => some "int"
  | .str _ => some "str"
  | .tup _ => some "tuple"
  | .lst _ => some "list"
  | .fro _ => none
  | .loc n => match S[n]? with
    | some (.lst _) => some "list"
    | _ => none
  | _ => none
def isT (t T : String) : Option Bool := match T with
  | "int" => some (t == "int" || t == "bool")
  | "bool" => some (t == "bool")
  | "str" => some (t == "str")
  | "tuple" => some (t == "tuple")
  | "list" => some (t == "list")
  | _ => none
def dIsInst : List D → Store → Option D
  | [d, .ty T], S => (tyName S d).bind fun t => (isT t T).map .bl
  | _, _ => none
theorem isT_kit : ∀ t ∈ ["NoneType", "bool", "int", "str", "tuple", "list"], ∀ T ∈ ["int", "bool", "str", "tuple", "list"], kitB t T = isT t T := by decide +kernel
theorem isT_of {t T : String} {b : Bool} (ht : t ∈ ["NoneType", "bool", "int", "str", "tuple", "list"]) (h : isT t T = some b) : kitB t T = some b := by
  rw [← h]
  refine isT_kit t ht T ?_
  unfold isT at h
  split at h <;> first | (simp; done) | cases h
section
variable {K : PySem.W.Frag} {ρ : Rh} {H : Hp} {S : Store}
theorem rd_ty {a : Addr} {vs : List V} (h : Rd H a (.lst vs)) : TyX K H (.ref a) (.type "list") := by
  rcases h with h | ⟨o, h⟩
  · exact .base (.lst h)
  · exact .base (.frz h)
theorem sqt_ty {a : Addr} {vs : List V} (h : SqT K H a vs) : TyX K H (.ref a) (.type "tuple") := by
  rcases h with (h | ⟨o, h⟩) | ⟨o, its, n, hk, hc, _⟩
  · exact .base (.tup h)
  · exact .fTuple h
  · exact .kTuple hk hc
theorem tyName_rep (R : Rel K ρ H S) {d : D} {v : V} {t : String} (h : RepD K ρ H d v) (e : tyName S d = some t) : TyX K H v (.type t) ∧ t ∈ ["NoneType", "bool", "int", "str", "tuple", "list"] := by
  cases d with
  | non => cases h; cases e; exact ⟨.base .non, by simp⟩
  | bl b => cases h; cases e; exact ⟨.base (.bl b), by simp⟩
  | int b => cases h; cases e; exact ⟨.base (.int b), by simp⟩
  | str b => cases h; cases e; exact ⟨.base (.str b), by simp⟩
  | tup b => cases h with | tup hx _ => cases e; exact ⟨sqt_ty hx, by simp⟩
  | lst b => cases h with | lst hx _ _ _ => cases e; exact ⟨rd_ty (Rd.of hx), by simp⟩
  | fro b => cases e
  | loc n =>
    simp only [tyName] at e
    split at e
    · rename_i xs hs
      cases e
      obtain ⟨a, vs, rfl, _, hH, _⟩ := loc_at R h hs
      exact ⟨rd_ty (Rd.of hH), by simp⟩
    · cases e
  | ref a => cases e
  | ty n => cases e
end
section
variable {X : Cx}
theorem cd_isinst : CallD X (.builtin "isinstance") dIsInst := fun pins s σ ρ H S ds vs us Q I R r rv q => by
  match ds, r, q with
  | [], _, q => exact q.elim
  | [_], _, q => exact q.elim
  | _ :: e :: _ :: _, _, q => (cases e <;> exact q.elim)
  | [d, e], r, q =>
    cases e with
    | ty T =>
      simp only [dIsInst] at q
      cases ht : tyName S d with
      | none => rw [ht] at q; exact q.elim
      | some t =>
        simp only [ht, Option.bind_some] at q
        cases hb : isT t T with
        | none => rw [hb] at q; exact q.elim
        | some b =>
          rw [hb] at q
          obtain ⟨v, w, rfl, r1, r2⟩ := reps2 r
          cases r2
          obtain ⟨hty, hm⟩ := tyName_rep R r1 ht
          exact call_isi pins s σ H _ us Q I rv ⟨v, .ty T, .type t, .type T, b, rfl, .ty T, hty, kit_ty (isT_of hm hb), q.use R (.bl b)⟩
    | _ => exact q.elim
variable {W : WX} {x : Str} {T : String} {pos : Pos}
theorem em_ty (hg : Gl X x) (hm : X.mg x = none) (hv : bootBuiltins x = some (.type T)) (hn : x ≠ "__name__" := by decide) (hd : (x == ("__debug__" : Str)) = false := by decide) : EM X W (.Name x pos) (mC (.ty T)) :=
  em_c (pe_bltn hg hm hv (v := .ty T) rfl hn hd) fun _ _ => .ty T
end

/-! ### defs -/
/-- what a def promises by its mirror -/
def spM (K : PySem.W.Frag) (mg : Str → Option Value) (n : Nat) (g : List D → Store → Res D) : Sp := fun vs H Q E =>
  ∃ ρ ds S, ds.length = n ∧ RepDs K ρ H ds vs ∧ Rel K ρ H S ∧ PostE K mg (fun c d _ H => E c d H) ρ H [] Q (g ds S)
theorem spM_len {K : PySem.W.Frag} {mg : Str → Option Value} {n : Nat} {g : List D → Store → Res D} {vs : List V} {H : Hp} {Q : VK} {E : XK} (h : spM K mg n g vs H Q E) : vs.length = n := by
  obtain ⟨ρ, ds, S, hl, r, _⟩ := h
  rw [← r.length, hl]
theorem PostE.toσ {K : PySem.W.Frag} {mg : Str → Option Value} {W : WX} {ρ : Rh} {H : Hp} {σ : L2.St} {Q : VK} : ∀ {r : Res D}, PostE K mg W ρ H σ Q r → PostE K mg (fun c d _ H => W c d σ H) ρ H [] Q r
  | .ok _ _, h => h
  | .ex _ _, h => h
  | .bad, h => h
def mCallF (n : Nat) (g : List D → Store → Res D) (m : MA) : ME := fun e S => (m e S).bind fun ds S1 => if ds.length = n then g ds S1 else .bad
abbrev FnM (P : Program) (w : World) (K : PySem.W.Frag) (mg : Str → Option Value) (base : Heap) (k : Nat) (f : Addr) (fd : FuncData) (ps : List Str) (g : List D → Store → Res D) : Prop := FnOk P w K mg base (L2.CX P w) k f fd ps (spM K mg ps.length g)
section
variable {X : Cx} {W : WX} {k : Nat} {f : Addr} {fd : FuncData} {ps : List Str} {g : List D → Store → Res D} {x : Str} {p pos : Pos} {e : Expr} {es : List Expr} {m : MA}
theorem em_call (F : FnM X.prog X.w X.K X.mg X.base k f fd ps g) (hr : Room k X.A) (hg : Gl X x) (hm : X.mg x = some (.ref f)) (hk : PySem.W.keepIn X.K (.ref f) = true) (hb : Binds X.K fd ps []) (tk : Takes X W)
    (ha : AM X W (e :: es) m) {n : Nat} (hn : ps.length = n := by rfl) (hdb : (x == ("__debug__" : Str)) = false := by decide) (he : starEach (e :: es) X.env = (false, eval e X.env) :: starEach es X.env := by rfl) (hpl : (backTo pos (starEach es X.env)).any (·.1) = false := by rfl) :
    EM X W (.Call (.Name x p) (e :: es) [] pos) (mCallF n g m) := by
  subst hn
  exact pe_imp (pe_callS (E := WE W) F hr hg hm hk hb (fun σ => passAt tk σ) ha hdb he hpl) fun σ H Q h => tA_then (β := D) (g := fun ds S => if ds.length = ps.length then g ds S else .bad) (fun ρ H ds vs S R r q => by
    by_cases hl : ds.length = ps.length
    · rw [if_pos hl] at q
      exact ⟨ρ, ds, S, hl, r, R, q.toσ⟩
    · rw [if_neg hl] at q; exact q.elim) h
theorem em_call0 (F : FnM X.prog X.w X.K X.mg X.base k f fd ps g) (hr : Room k X.A) (hg : Gl X x) (hm : X.mg x = some (.ref f)) (hk : PySem.W.keepIn X.K (.ref f) = true) (hb : Binds X.K fd ps []) (tk : Takes X fun c d _ H => False)
    (hps : ps = []) (hdb : (x == ("__debug__" : Str)) = false := by decide) : EM X W (.Call (.Name x p) [] [] pos) (mCallF 0 (fun ds S => match g ds S with | .ex _ _ => .bad | r => r) mNil) :=
  pe_imp (pe_call0 (E := fun _ _ _ => False) F hr hg hm hk hb .nil (fun pins σ H s e s' I c => tk e s' (XE.of_call I (fun _ _ _ h => h) c)) hdb) fun σ H Q ⟨ρ, e, S, he, R, q⟩ => by
    subst hps
    refine ⟨ρ, [], S, rfl, .nil, R, ?_⟩
    have q : PostE X.K X.mg W ρ H σ Q (match g [] S with | .ex _ _ => .bad | r => r) := q
    cases hg : g [] S with
    | bad => rw [hg] at q; exact q.elim
    | ex c S1 => rw [hg] at q; exact q.elim
    | ok d S1 => rw [hg] at q; exact q
end
/-- a body run at its arguments -/
def runF (n : Nat) (b : MS) (ds : List D) (S : Store) : Res D := match b (ds.map some ++ List.replicate (n - ds.length) none) S with
  | some (.rt d, _, S') => .ok d S'
  | some (.nx, _, S') => .ok .non S'
  | some (.ex c, _, S') => .ex c S'
  | _ => .bad
theorem env_start {K : PySem.W.Frag} {ρ : Rh} {H : Hp} {N : List Str} {ds : List D} {vs : List V} (h : RepDs K ρ H ds vs) : EnvRel K ρ H (L2.start N vs) (ds.map some ++ List.replicate (N.length - ds.length) none) := by
  have hl := h.length
  refine ⟨by unfold L2.start; simp [hl], fun i d e => ?_⟩
  by_cases hi : i < ds.length
  · rw [List.getElem?_append_left (by simpa using hi), List.getElem?_map] at e
    cases hd : ds[i]? with
    | none => rw [hd] at e; cases e
    | some d' =>
      rw [hd] at e
      cases e
      obtain ⟨v, a, b⟩ := h.get hd
      refine ⟨v, ?_, b⟩
      unfold L2.start
      rw [List.getElem?_append_left (by simpa [← hl] using hi), List.getElem?_map, a]; rfl
  · rw [List.getElem?_append_right (by simpa using hi), List.getElem?_replicate] at e
    split at e <;> cases e
section
variable {P : Program} {w : World} {K : PySem.W.Frag} {mg : Str → Option Value} {base : Heap}
theorem fn_m {x qual : Str} {st : Stmt} {f : Addr} {fd : FuncData} {N ps : List Str} {k : Nat} {b : MS} (F : L2.Fun K x qual st f fd) (S : FnScope N ps (defScope st))
    (hbody : ∀ (cdv : Value) (A : Around) (outer : List PySem.Env) (s : Shared) (H : Hp) (E : XK), Room k (A.deeper (envOfC qual (defScope st) s.heap.objs.size f cdv)) →
      BM (cxOf (L2.CX P w) P w K mg base N qual (defScope st) f cdv A outer s H E) (fun c d _ H => E c d H) (defBody st) b) : FnM P w K mg base (k + 1) f fd ps (runF N.length b) := by
  refine F.okX S (fun vs H Q E h => spM_len h) (fun cdv A outer s H vs Q E hr h => ⟨_, hbody cdv A outer s H E hr, ?_⟩)
  obtain ⟨ρ, ds, S, hl, r, R, q⟩ := h
  refine ⟨ρ, _, S, env_start r, R, ?_⟩
  show PostS K mg _ ρ H _ _
  unfold runF at q
  split at q
  · rename_i d e' S' hb
    rw [hb]
    exact fun ρ' H' v f R' r => q ρ' H' f R' v r
  · rename_i e' S' hb
    rw [hb]
    exact fun ρ' H' σ' f R' _ => q ρ' H' f R' _ .non
  · rename_i c e' S' hb
    rw [hb]
    exact fun ρ' H' σ' C f R' _ => q ρ' H' C f R'
  · exact q.elim
end

/-! ### behind a call: what nobody sees any more is forgotten -/
mutual
/-- no object from n on is named -/
def cl (n : Nat) : D → Bool
  | .tup xs => cls n xs
  | .lst xs => cls n xs
  | .fro xs => cls n xs
  | .loc m => decide (m < n)
  | _ => true
def cls (n : Nat) : List D → Bool
  | [] => true
  | d :: ds => cl n d && cls n ds
end
def clO (n : Nat) : OB → Bool
  | .lst xs => cls n xs
def clS (n : Nat) (S : Store) : Bool := S.all (clO n)
section
variable {K : PySem.W.Frag} {ρ : Rh} {l : List Addr} {H : Hp} {S : Store} {n : Nat}
/-- ρ2 tells the first n as ρ1, and nothing that ρ1 does not -/
structure Cut (n : Nat) (ρ1 ρ2 : Rh) : Prop where
  sub : ∀ x ∈ ρ2.l, x ∈ ρ1.l
  hh : ρ2.h = ρ1.h
  pre : ∀ m a, m < n → ρ1.l[m]? = some a → ρ2.l[m]? = some a
mutual
theorem RepD.cut {ρ1 ρ2 : Rh} (k : Cut n ρ1 ρ2) : ∀ (d : D) (v : V), cl n d = true → RepD K ρ1 H d v → RepD K ρ2 H d v
  | .non, _, _, h => by cases h; exact .non
  | .bl b, _, _, h => by cases h; exact .bl b
  | .int i, _, _, h => by cases h; exact .int i
  | .str x, _, _, h => by cases h; exact .str x
  | .tup ds, _, c, h => by
    cases h with
    | tup hs hd => exact .tup hs (RepDs.cut k ds _ c hd)
  | .lst ds, _, c, h => by
    cases h with
    | lst hs hn' hh hd => exact .lst hs (fun m => hn' (k.sub _ m)) (by rw [k.hh]; exact hh) (RepDs.cut k ds _ c hd)
  | .fro ds, _, c, h => by
    cases h with
    | fro hs hn' hh hd => exact .fro hs (fun m => hn' (k.sub _ m)) (by rw [k.hh]; exact hh) (RepDs.cut k ds _ c hd)
    | frk hk hd => exact .frk hk (RepDs.cut k ds _ c hd)
  | .loc m, _, c, h => by
    cases h with
    | loc e => exact .loc (k.pre m _ (of_decide_eq_true c) e)
  | .ref a, _, _, h => by cases h; exact .ref a
  | .ty n, _, _, h => by cases h; exact .ty n
theorem RepDs.cut {ρ1 ρ2 : Rh} (k : Cut n ρ1 ρ2) : ∀ (ds : List D) (vs : List V), cls n ds = true → RepDs K ρ1 H ds vs → RepDs K ρ2 H ds vs
  | [], _, _, h => by cases h; exact .nil
  | d :: ds, _, c, h => by
    cases h with
    | cons h1 h2 =>
      simp only [cls, Bool.and_eq_true] at c
      exact .cons (RepD.cut k d _ c.1 h1) (RepDs.cut k ds _ c.2 h2)
end
theorem Cut.of (hn : ρ.l.length = n) {l' : List Addr} (h : ∀ x ∈ l', x ∈ l) : Cut n ⟨ρ.l ++ l, ρ.h⟩ ⟨ρ.l ++ l', ρ.h⟩ := ⟨fun x m => by
    rcases List.mem_append.mp m with m | m
    · exact List.mem_append_left _ m
    · exact List.mem_append_right _ (h x m), rfl, fun m a hm e => by
    have e : (ρ.l ++ l)[m]? = some a := e
    rw [List.getElem?_append_left (by omega)] at e
    show (ρ.l ++ l')[m]? = some a
    rw [List.getElem?_append_left (by omega)]; exact e⟩
theorem Cut.back (hn : ρ.l.length = n) : Cut n ⟨ρ.l ++ l, ρ.h⟩ ρ := ⟨fun x m => List.mem_append_left _ m, rfl, fun m a hm e => by
    have e : (ρ.l ++ l)[m]? = some a := e
    rw [List.getElem?_append_left (by omega)] at e; exact e⟩
theorem RepD.back (hn : ρ.l.length = n) (d : D) (v : V) (c : cl n d = true) (h : RepD K ⟨ρ.l ++ l, ρ.h⟩ H d v) : RepD K ρ H d v := RepD.cut (Cut.back hn) d v c h
theorem RepDs.back (hn : ρ.l.length = n) (ds : List D) (vs : List V) (c : cls n ds = true) (h : RepDs K ⟨ρ.l ++ l, ρ.h⟩ H ds vs) : RepDs K ρ H ds vs := RepDs.cut (Cut.back hn) ds vs c h
theorem ObRel.cut {ρ1 ρ2 : Rh} (k : Cut n ρ1 ρ2) {a : Addr} {o : OB} (c : clO n o = true) (h : ObRel K ρ1 H a o) : ObRel K ρ2 H a o := by
  cases o with
  | lst ds => obtain ⟨vs, h1, h2⟩ := h; exact ⟨vs, h1, RepDs.cut k ds vs c h2⟩
theorem Rel.at_take {ρ2 : Rh} (r : Rel K ⟨ρ.l ++ l, ρ.h⟩ H S) (hn : ρ.l.length = n) (c : clS n (S.take n) = true) (k : Cut n ⟨ρ.l ++ l, ρ.h⟩ ρ2) {m : Nat} {o : OB} {a : Addr} (e1 : (S.take n)[m]? = some o) (e2 : ρ.l[m]? = some a) : ObRel K ρ2 H a o := by
  have hm : m < ρ.l.length := (List.getElem?_eq_some_iff.mp e2).1
  have e1' : S[m]? = some o := by rw [List.getElem?_take] at e1; split at e1 <;> first | exact e1 | cases e1
  exact (r.at_ m o a e1' (show (ρ.l ++ l)[m]? = some a by rw [List.getElem?_append_left hm]; exact e2)).cut k (List.all_eq_true.mp c o (List.mem_of_getElem? e1))
theorem Rel.back (r : Rel K ⟨ρ.l ++ l, ρ.h⟩ H S) (hn : ρ.l.length = n) (c : clS n (S.take n) = true) : Rel K ρ H (S.take n) := by
  have hl : (ρ.l ++ l).length = S.length := r.len
  rw [List.length_append] at hl
  exact ⟨by rw [List.length_take]; omega, (List.nodup_append.mp r.nd).1, fun m o a e1 e2 => r.at_take hn c (Cut.back hn) e1 e2, r.hid, r.tab⟩
/-- .. and one of the others is still told of -/
theorem Rel.backK (r : Rel K ⟨ρ.l ++ l, ρ.h⟩ H S) (hn : ρ.l.length = n) (c : clS n (S.take n) = true) {a : Addr} (ha : a ∈ l) {vs : List V} {xs : List D} (hH : H a = some (.lst vs)) (cx : cls n xs = true) (rx : RepDs K ⟨ρ.l ++ l, ρ.h⟩ H xs vs) : Rel K ⟨ρ.l ++ [a], ρ.h⟩ H (S.take n ++ [.lst xs]) := by
  have hl : (ρ.l ++ l).length = S.length := r.len
  rw [List.length_append] at hl
  have k : Cut n ⟨ρ.l ++ l, ρ.h⟩ ⟨ρ.l ++ [a], ρ.h⟩ := Cut.of hn fun x m => by rw [List.mem_singleton.mp m]; exact ha
  have na : a ∉ ρ.l := fun mem => (List.nodup_append.mp r.nd).2.2 a mem a ha rfl
  refine ⟨?_, ?_, fun m o b e1 e2 => ?_, r.hid, r.tab⟩
  · show (ρ.l ++ [a]).length = _
    rw [List.length_append, List.length_append, List.length_take, List.length_singleton, List.length_singleton]
    omega
  · show (ρ.l ++ [a]).Nodup
    rw [List.nodup_append]
    exact ⟨(List.nodup_append.mp r.nd).1, by simp, fun x hx b hb => by simp at hb; subst hb; rintro rfl; exact na hx⟩
  · have e2 : (ρ.l ++ [a])[m]? = some b := e2
    have ht : (S.take n).length = n := by rw [List.length_take]; omega
    by_cases hm : m < n
    · rw [List.getElem?_append_left (by omega)] at e1
      rw [List.getElem?_append_left (by omega)] at e2
      exact r.at_take hn c k e1 e2
    · rw [List.getElem?_append_right (by omega), ht] at e1
      rw [List.getElem?_append_right (by omega), hn] at e2
      have h0 : m - n = 0 := by
        rcases Nat.eq_zero_or_pos (m - n) with z | z
        · exact z
        · rw [List.getElem?_eq_none (by simp; omega)] at e1; cases e1
      rw [h0] at e1 e2
      simp at e1 e2
      subst e1 e2
      exact ⟨vs, hH, RepDs.cut k xs vs cx rx⟩
end
/-- what comes back: a list of the callee's own is a value from now on -/
def fz (n : Nat) (S : Store) : D → Option D
  | .loc m => if m < n then some (.loc m) else match S[m]? with
    | some (.lst ds) => if cls n ds then some (.lst ds) else none
    | none => none
  | d => if cl n d then some d else none
def retV (g : List D → Store → Res D) : List D → Store → Res D := fun ds S => match g ds S with
  | .ok d S' => if clS S.length (S'.take S.length) = true then match fz S.length S' d with
    | some d' => .ok d' (S'.take S.length)
    | none => .bad else .bad
  | .ex c S' => if clS S.length (S'.take S.length) = true then .ex c (S'.take S.length) else .bad
  | .bad => .bad
/-- .. it stays an object of the store -/
def retK (g : List D → Store → Res D) : List D → Store → Res D := fun ds S => match g ds S with
  | .ok (.loc m) S' => if clS S.length (S'.take S.length) = true ∧ S.length ≤ m then match S'[m]? with
    | some (.lst xs) => if cls S.length xs then .ok (.loc S.length) (S'.take S.length ++ [.lst xs]) else .bad
    | none => .bad else .bad
  | .ok _ _ => .bad
  | .ex c S' => if clS S.length (S'.take S.length) = true then .ex c (S'.take S.length) else .bad
  | .bad => .bad
section
variable {K : PySem.W.Frag} {mg : Str → Option Value} {W : WX} {ρ : Rh} {H : Hp} {S : Store} {σ : L2.St} {Q : VK}
theorem fz_rep {ρ' : Rh} {H' : Hp} {S' : Store} (R : Rel K ρ H S) (f : Fr ρ H ρ' H') (R' : Rel K ρ' H' S') {d d' : D} {v : V} (e : fz S.length S' d = some d') (r : RepD K ρ' H' d v) : RepD K ρ H' d' v := by
  obtain ⟨l, rfl, hl⟩ := f.new
  have gen : (if cl S.length d then some d else none) = some d' → RepD K ρ H' d' v := fun e => by
    split at e
    · rename_i c
      cases e
      exact RepD.back R.len _ _ c r
    · cases e
  cases d with
  | loc m =>
    simp only [fz] at e
    split at e
    · rename_i hm
      cases e
      exact RepD.back R.len _ _ (by unfold cl; exact decide_eq_true hm) r
    · rename_i hm
      split at e
      · rename_i ds hs
        split at e
        · rename_i c
          cases e
          obtain ⟨a, vs, rfl, ha, hH, rx⟩ := loc_at R' r hs
          refine .lst hH (fun mem => ?_) (fun mem => ?_) (RepDs.back R.len _ _ c rx)
          · have nd := R'.nd
            have ha : (ρ.l ++ l)[m]? = some a := ha
            have hlen := R.len
            rw [List.getElem?_append_right (by omega)] at ha
            exact (List.nodup_append.mp nd).2.2 a mem a (List.mem_of_getElem? ha) rfl
          · obtain ⟨ws, z⟩ := R.hid a mem
            have ha : (ρ.l ++ l)[m]? = some a := ha
            have hlen := R.len
            rw [List.getElem?_append_right (by omega)] at ha
            rw [hl a (List.mem_of_getElem? ha)] at z
            cases z
        · cases e
      · cases e
  | _ => exact gen e
theorem Fr.cut {ρ' : Rh} {H' : Hp} (f : Fr ρ H ρ' H') : Fr ρ H ρ H' := ⟨⟨[], by simp, by simp⟩, f.keep, f.live⟩
theorem PostE.retV {g : List D → Store → Res D} {ds : List D} (R : Rel K ρ H S) (q : PostE K mg W ρ H σ Q (retV g ds S)) : PostE K mg W ρ H σ Q (g ds S) := by
  unfold M.retV at q
  cases hg : g ds S with
  | bad => rw [hg] at q; exact q
  | ex c S' =>
    rw [hg] at q
    dsimp only at q
    split at q
    · rename_i hc
      intro ρ' H' C f R' hC
      obtain ⟨l, rfl, hl⟩ := f.new
      exact q ρ H' C f.cut (Rel.back R' R.len hc) hC
    · exact q.elim
  | ok d S' =>
    rw [hg] at q
    dsimp only at q
    split at q
    · rename_i hc
      split at q
      · rename_i d' hd
        intro ρ' H' f R' v r
        have r' := fz_rep R f R' hd r
        obtain ⟨l, rfl, hl⟩ := f.new
        exact q ρ H' f.cut (Rel.back R' R.len hc) v r'
      · exact q.elim
    · exact q.elim
theorem PostE.retK {g : List D → Store → Res D} {ds : List D} (R : Rel K ρ H S) (q : PostE K mg W ρ H σ Q (retK g ds S)) : PostE K mg W ρ H σ Q (g ds S) := by
  unfold M.retK at q
  cases hg : g ds S with
  | bad => rw [hg] at q; exact q
  | ex c S' =>
    rw [hg] at q
    dsimp only at q
    split at q
    · rename_i hc
      intro ρ' H' C f R' hC
      obtain ⟨l, rfl, hl⟩ := f.new
      exact q ρ H' C f.cut (Rel.back R' R.len hc) hC
    · exact q.elim
  | ok d S' =>
    rw [hg] at q
    cases d with
    | loc m =>
      dsimp only at q
      split at q
      · rename_i hc
        split at q
        · rename_i xs hs
          split at q
          · rename_i c
            intro ρ' H' f R' v r
            obtain ⟨a, vs, rfl, ha, hH, rx⟩ := loc_at R' r hs
            obtain ⟨l, rfl, hl⟩ := f.new
            have ha : (ρ.l ++ l)[m]? = some a := ha
            have hlen := R.len
            rw [List.getElem?_append_right (by omega)] at ha
            have ma : a ∈ l := List.mem_of_getElem? ha
            exact q ⟨ρ.l ++ [a], ρ.h⟩ H' (f.cut.shown (hl a ma)) (Rel.backK R' R.len hc.1 ma hH c rx) _ (.loc (by
              show (ρ.l ++ [a])[S.length]? = some a
              rw [List.getElem?_append_right (by omega), hlen]; simp))
          · exact q.elim
        · exact q.elim
      · exact q.elim
    | _ => exact q.elim
theorem spM_retV {n : Nat} {g : List D → Store → Res D} {vs : List V} {E : XK} (h : spM K mg n (M.retV g) vs H Q E) : spM K mg n g vs H Q E := by
  obtain ⟨ρ, ds, S, hl, r, R, q⟩ := h
  exact ⟨ρ, ds, S, hl, r, R, PostE.retV R q⟩
theorem spM_retK {n : Nat} {g : List D → Store → Res D} {vs : List V} {E : XK} (h : spM K mg n (M.retK g) vs H Q E) : spM K mg n g vs H Q E := by
  obtain ⟨ρ, ds, S, hl, r, R, q⟩ := h
  exact ⟨ρ, ds, S, hl, r, R, PostE.retK R q⟩
end
section
variable {P : Program} {w : World} {K : PySem.W.Frag} {mg : Str → Option Value} {base : Heap} {k : Nat} {f : Addr} {fd : FuncData} {ps : List Str} {g : List D → Store → Res D}
theorem fn_retV (F : FnM P w K mg base k f fd ps g) : FnM P w K mg base k f fd ps (retV g) := FnOk.imp F fun _ _ _ _ h => spM_retV h
theorem fn_retK (F : FnM P w K mg base k f fd ps g) : FnM P w K mg base k f fd ps (retK g) := FnOk.imp F fun _ _ _ _ h => spM_retK h
end
end M


set_option Elab.async false
set_option linter.all false
set_option maxRecDepth 100000
set_option maxHeartbeats 4000000
namespace M
open PySem PySem.Spec PyProof.Rows L2
variable [Tabs]

/-! ### later, with other hidden lists -/
structure FrH (ρ : Rh) (H : Hp) (ρ' : Rh) (H' : Hp) : Prop where
  fr : Fr ⟨ρ.l, ρ'.h⟩ H ρ' H'
  hid : ∀ a ∈ ρ'.h, a ∈ ρ.h ∨ H a = none
section
variable {K : PySem.W.Frag} {ρ ρ' ρ2 : Rh} {H H' H2 : Hp} {S : Store}
theorem FrH.of (f : Fr ρ H ρ' H') : FrH ρ H ρ' H' := ⟨by
  have e : (⟨ρ.l, ρ'.h⟩ : Rh) = ρ := by rw [f.hid]
  rw [e]; exact f, fun a m => .inl (by rw [← f.hid]; exact m)⟩
theorem FrH.refl : FrH ρ H ρ H := .of (Fr.refl ρ H)
theorem FrH.trans (f : FrH ρ H ρ' H') (g : FrH ρ' H' ρ2 H2) : FrH ρ H ρ2 H2 := by
  obtain ⟨l, e, hl⟩ := f.fr.new
  obtain ⟨k, e2, hk⟩ := g.fr.new
  have e' : ρ'.l = ρ.l ++ l := by rw [e]
  have e2' : ρ2.l = ρ'.l ++ k := by rw [e2]
  refine ⟨⟨⟨l ++ k, ?_, fun a m => ?_⟩, fun a o h n nt => g.fr.keep a o (f.fr.keep a o h n nt) (fun m => ?_) nt, fun a o h => ?_⟩, fun a m => ?_⟩
  · show ρ2 = ⟨ρ.l ++ (l ++ k), ρ2.h⟩
    rw [← List.append_assoc, ← e', ← e2']
  · rcases List.mem_append.mp m with m | m
    · exact hl a m
    · cases q : H a with
      | none => rfl
      | some o =>
        obtain ⟨o', z⟩ := f.fr.live a o q
        rw [hk a m] at z; cases z
  · have m : a ∈ ρ'.l := m
    rw [e'] at m
    rcases List.mem_append.mp m with m | m
    · exact n m
    · rw [hl a m] at h; cases h
  · obtain ⟨o', z⟩ := f.fr.live a o h
    exact g.fr.live a o' z
  · rcases g.hid a m with q | q
    · exact f.hid a q
    · refine .inr ?_
      cases z : H a with
      | none => rfl
      | some o =>
        obtain ⟨o', z'⟩ := f.fr.live a o z
        rw [q] at z'; cases z'
theorem Sees.frh (f : FrH ρ H ρ' H') : Sees H ρ ⟨ρ.l, ρ'.h⟩ := ⟨fun _ _ e => e, fun a vs r n m => ⟨n, fun z => by
  rcases f.hid a z with q | q
  · exact m q
  · exact rd_some r q⟩⟩
theorem RepD.frh (F : Free ρ H) (f : FrH ρ H ρ' H') (d : D) (v : V) (h : RepD K ρ H d v) : RepD K ρ' H' d v := RepD.fr (ρ := ⟨ρ.l, ρ'.h⟩) F f.fr _ _ (RepD.sees (Sees.frh f) _ _ h)
theorem RepDs.frh (F : Free ρ H) (f : FrH ρ H ρ' H') (d : List D) (v : List V) (h : RepDs K ρ H d v) : RepDs K ρ' H' d v := RepDs.fr (ρ := ⟨ρ.l, ρ'.h⟩) F f.fr _ _ (RepDs.sees (Sees.frh f) _ _ h)
theorem EnvRel.frh {σ : L2.St} {e : Env} (F : Free ρ H) (f : FrH ρ H ρ' H') (h : EnvRel K ρ H σ e) : EnvRel K ρ' H' σ e := ⟨h.1, fun i d q => let ⟨v, a, b⟩ := h.2 i d q; ⟨v, a, RepD.frh F f d v b⟩⟩
theorem FrH.hide (f : Fr ρ H ρ' H') {p : Addr} (h : H p = none) : FrH ρ H (ρ'.hide p) H' := by
  obtain ⟨l, rfl, hl⟩ := f.new
  refine ⟨⟨⟨l, rfl, hl⟩, f.keep, f.live⟩, fun a m => ?_⟩
  rcases List.mem_cons.mp m with m | m
  · exact .inr (by rw [m]; exact h)
  · exact .inl m
end

/-! ### targets -/
abbrev MG := D → Env → Store → Option Env
def tG (K : PySem.W.Frag) (g : MG) (sl : List Nat) : TG := fun v σ H Q => ∃ ρ e S d e', EnvRel K ρ H σ e ∧ Rel K ρ H S ∧ RepD K ρ H d v ∧ g d e S = some e' ∧ ∀ σ', EnvRel K ρ H σ' e' → (∀ vs, (∀ i ∈ sl, i ∈ vs) → wipe σ' vs = wipe σ vs) → Q σ' H
abbrev GM (X : Cx) (tg : Expr) (g : MG) (sl : List Nat) : Prop := PG X tg (tG X.K g sl)
def tGs (K : PySem.W.Frag) (g : List D → Env → Store → Option Env) (sl : List Nat) : TGs := fun vs σ H Q => ∃ ρ e S ds e', EnvRel K ρ H σ e ∧ Rel K ρ H S ∧ RepDs K ρ H ds vs ∧ g ds e S = some e' ∧ ∀ σ', EnvRel K ρ H σ' e' → (∀ vs, (∀ i ∈ sl, i ∈ vs) → wipe σ' vs = wipe σ vs) → Q σ' H
abbrev GsM (X : Cx) (ts : List Expr) (g : List D → Env → Store → Option Env) (sl : List Nat) : Prop := PGs X ts (tGs X.K g sl)
theorem pg_imp {X : Cx} {tg : Expr} {t t' : TG} (h : PG X tg t) (i : ∀ v σ H Q, t' v σ H Q → t v σ H Q) : PG X tg t' := ⟨fun pins s σ H v u Q I r q => h.run pins s σ H v u Q I r (i _ _ _ _ q)⟩
theorem pgs_imp {X : Cx} {ts : List Expr} {t t' : TGs} (h : PGs X ts t) (i : ∀ v σ H Q, t' v σ H Q → t v σ H Q) : PGs X ts t' := ⟨fun pins s σ H v u Q I r q => h.run pins s σ H v u Q I r (i _ _ _ _ q)⟩
theorem EnvRel.set {K : PySem.W.Frag} {ρ : Rh} {H : Hp} {σ : L2.St} {e : Env} (h : EnvRel K ρ H σ e) (i : Nat) {d : D} {v : V} (r : RepD K ρ H d v) : EnvRel K ρ H (σ.set i (some v)) (e.set i (some d)) := by
  refine ⟨by simp [h.1], fun j d' q => ?_⟩
  by_cases hj : i = j
  · subst hj
    have hi : i < e.length := by
      have := (List.getElem?_eq_some_iff.mp q).1
      simpa using this
    rw [List.getElem?_set_self hi] at q
    cases q
    exact ⟨v, by rw [List.getElem?_set_self (by rw [h.1]; exact hi)], r⟩
  · rw [List.getElem?_set_ne hj] at q
    rw [List.getElem?_set_ne hj]
    exact h.2 j d' q
theorem wipe_set {σ : L2.St} {i : Nat} {x : Option V} : ∀ {vs : List Nat}, i ∈ vs → wipe (σ.set i x) vs = wipe σ vs
  | [], h => by simp at h
  | v :: vs, h => by
    unfold wipe
    by_cases hv : v = i
    · subst hv
      have : ∀ (ws : List Nat), (wipe (σ.set v x) ws).set v none = (wipe σ ws).set v none := by
        intro ws
        induction ws with
        | nil => unfold wipe; rw [List.set_set]
        | cons w ws ih =>
          unfold wipe
          by_cases hw : w = v
          · subst hw; rw [List.set_set, List.set_set]; exact ih
          · rw [List.set_comm _ _ hw, ih, List.set_comm _ _ (Ne.symm hw)]
      exact this vs
    · rw [wipe_set (by rcases List.mem_cons.mp h with e | m; exact absurd e.symm hv; exact m)]
/-! the mirrors of targets -/
def gN (i : Nat) : MG := fun d e _ => some (e.set i (some d))
def gNil : List D → Env → Store → Option Env := fun ds e _ => match ds with
  | [] => some e
  | _ => none
def gCons (g : MG) (r : List D → Env → Store → Option Env) : List D → Env → Store → Option Env := fun ds e S => match ds with
  | d :: ds => (g d e S).bind fun e1 => r ds e1 S
  | [] => none
def gTup (n : Nat) (r : List D → Env → Store → Option Env) : MG := fun d e S => match d with
  | .tup ds => if ds.length = n then r ds e S else none
  | _ => none
def gLst (n : Nat) (r : List D → Env → Store → Option Env) : MG := fun d e S => match lstOf S d with
  | some ds => if ds.length = n then r ds e S else none
  | none => none
section
variable {X : Cx} {W : WX} {tg e a b c : Expr} {es : List Expr} {g : MG} {gs : List D → Env → Store → Option Env} {sl sl2 : List Nat} {x : Str} {pos pos' : Pos} {m ma mb : ME} {i : Nat}
theorem gm_name (hN : X.N.Nodup) (hi : X.N[i]? = some x) (hx : Loc X.env.scope x) (hf : X.fn x = true ∨ X.env.scope.names.lookup x = some .local := by first | exact .inl rfl | exact .inr rfl | assumption) : GM X (.Name x pos) (gN i) [i] :=
  pg_imp (pg_name hN hi hx hf) fun v σ H Q ⟨ρ, e, S, d, e', he, R, r, hg, q⟩ => by
    cases hg
    exact q _ (he.set i r) fun vs h => wipe_set (h i (by simp))
theorem gms_nil : GsM X [] gNil [] := pgs_imp pgs_nil fun v σ H Q ⟨ρ, e, S, ds, e', he, R, r, hg, q⟩ => by
  cases r with
  | nil => cases hg; exact ⟨rfl, q σ he fun _ _ => rfl⟩
  | cons _ _ => cases hg
theorem gms_cons (h1 : GM X e g sl) (h2 : GsM X es gs sl2) (hs : (assignEach (e :: es) X.env).map (·.2) = assign e X.env :: (assignEach es X.env).map (·.2) := by rfl) : GsM X (e :: es) (gCons g gs) (sl ++ sl2) :=
  pgs_imp (pgs_cons h1 h2 hs) fun vs σ H Q ⟨ρ, e, S, ds, e', he, R, r, hg, q⟩ => by
    cases r with
    | nil => cases hg
    | @cons d ds v vs r1 r2 =>
      unfold gCons at hg
      simp only at hg
      cases h : g d e S with
      | none => rw [h] at hg; cases hg
      | some e1 =>
        rw [h] at hg
        exact ⟨v, vs, rfl, ρ, e, S, d, e1, he, R, r1, h, fun σ1 he1 w1 => ⟨ρ, e1, S, ds, e', he1, R, r2, hg, fun σ2 he2 w2 => q σ2 he2 fun us hu =>
          (w2 us fun i hi => hu i (List.mem_append_right _ hi)).trans (w1 us fun i hi => hu i (List.mem_append_left _ hi))⟩⟩
theorem gm_tup {k n : Nat} (hc : X.calm = true) (h : GsM X es gs sl) (hn : (assignEach es X.env).length = n := by rfl) (hst : (assignEach es X.env).findIdx? (·.1) = none := by rfl) : GM X (.Tuple es k pos) (gTup n gs) sl :=
  pg_imp (pg_tup hc h hn hst) fun v σ H Q ⟨ρ, e, S, d, e', he, R, r, hg, q⟩ => by
    unfold gTup at hg
    split at hg
    · rename_i ds
      split at hg
      · rename_i hl
        cases r with
        | tup hs rd => exact ⟨_, _, rfl, hs, by rw [← rd.length]; exact hl, ρ, e, S, ds, e', he, R, rd, hg, q⟩
      · cases hg
    · cases hg
theorem gm_lst {k n : Nat} (hc : X.calm = true) (h : GsM X es gs sl) (hn : (assignEach es X.env).length = n := by rfl) (hst : (assignEach es X.env).findIdx? (·.1) = none := by rfl) : GM X (.Tuple es k pos) (gLst n gs) sl :=
  pg_imp (pg_lst hc h hn hst) fun v σ H Q ⟨ρ, e, S, d, e', he, R, r, hg, q⟩ => by
    unfold gLst at hg
    cases hd : lstOf S d with
    | none => rw [hd] at hg; cases hg
    | some ds =>
      rw [hd] at hg
      simp only at hg
      split at hg
      · rename_i hl
        obtain ⟨a, vs, rfl, hr, rd⟩ := lstOf_rep R r hd
        exact ⟨a, vs, rfl, hr, by rw [← rd.length]; exact hl, ρ, e, S, ds, e', he, R, rd, hg, q⟩
      · cases hg
end

/-! ### statements -/
def Res.st {α : Type} (r : Res α) (e : Env) (k : α → Store → Option (Fl × Env × Store)) : Option (Fl × Env × Store) := match r with
  | .ok a S => k a S
  | .ex c S => some (.ex c, e, S)
  | .bad => none
@[simp] theorem Res.st_ok {α : Type} (a : α) (S : Store) (e : Env) (k : α → Store → Option (Fl × Env × Store)) : (Res.ok a S).st e k = k a S := rfl
@[simp] theorem Res.st_ex {α : Type} (c : Str) (S : Store) (e : Env) (k : α → Store → Option (Fl × Env × Store)) : (Res.ex c S).st e k = some (.ex c, e, S) := rfl
@[simp] theorem Res.st_bad {α : Type} (e : Env) (k : α → Store → Option (Fl × Env × Store)) : (Res.bad : Res α).st e k = none := rfl
theorem PostS.st {K : PySem.W.Frag} {mg : Str → Option Value} {W : WX} {ρ : Rh} {H : Hp} {σ : L2.St} {S : Store} {Dn : Ends} {e : Env} {α : Type} {k : α → Store → Option (Fl × Env × Store)} (R : Rel K ρ H S) (he : EnvRel K ρ H σ e) :
    ∀ {r : Res α}, PostS K mg W ρ H Dn (r.st e k) → Post K mg W (fun a S1 ρ1 H1 => PostS K mg W ρ1 H1 Dn (k a S1)) ρ H σ r
  | .ok _ _, q => fun ρ' H' f R' => PostS.fr f q
  | .ex _ _, q => fun ρ' H' C f R' hC => q ρ' H' σ C f R' (he.fr R.free f) hC
  | .bad, q => q
def sSkip : MS := fun e S => some (.nx, e, S)
def sBreak : MS := fun e S => some (.bk, e, S)
def sCont : MS := fun e S => some (.ct, e, S)
def sNever : MS := fun _ _ => none
def sSeq (a b : MS) : MS := fun e S => match a e S with
  | some (.nx, e1, S1) => b e1 S1
  | r => r
def sSet (g : MG) (m : ME) : MS := fun e S => (m e S).st e fun d S1 => (g d e S1).bind fun e1 => some (.nx, e1, S1)
def sRet (m : ME) : MS := fun e S => (m e S).st e fun d S1 => some (.rt d, e, S1)
def sExpr (m : ME) : MS := fun e S => (m e S).st e fun _ S1 => some (.nx, e, S1)
def sIf (t : MT) (a b : MS) : MS := fun e S => (t e S).st e fun c S1 => if c = true then a e S1 else b e S1
section
variable {X : Cx} {W : WX} {tg e a b c : Expr} {es : List Expr} {g : MG} {sl : List Nat} {x : Str} {pos pos' : Pos} {m ma mb : ME} {t : MT} {sa sb : MS} {st : Stmt} {p q rest : List Stmt} {i : Nat}
theorem bm_nil : BM X W [] sSkip := pss_imp pss_nil fun Dn σ H ⟨ρ, e, S, he, R, q⟩ => q ρ H σ (Fr.refl _ _) R he
theorem bm_one (h : SM X W st sa) : BM X W [st] sa := pss_one h
theorem bm_cons (h1 : SM X W st sa) (h2 : BM X W rest sb) : BM X W (st :: rest) (sSeq sa sb) :=
  pss_imp (pss_cons h1 h2) fun Dn σ H ⟨ρ, e, S, he, R, q⟩ => ⟨ρ, e, S, he, R, by
    unfold sSeq at q
    cases hk : sa e S with
    | none => rw [hk] at q; exact q
    | some r =>
      obtain ⟨fl, e1, S1⟩ := r
      rw [hk] at q
      cases fl with
      | nx => exact fun ρ' H' σ' f R' he' => ⟨ρ', e1, S1, he', R', PostS.fr f q⟩
      | rt d => exact q
      | bk => exact q
      | ct => exact q
      | ex c => exact q⟩
theorem bm_never : BM X W p sNever := pss_imp pss_never fun _ _ _ ⟨ρ, e, S, he, R, q⟩ => q
theorem sm_never : SM X W st sNever := ps_imp ps_never fun _ _ _ ⟨ρ, e, S, he, R, q⟩ => q
theorem sm_pass : SM X W (.Pass pos) sSkip := ps_imp ps_pass fun Dn σ H ⟨ρ, e, S, he, R, q⟩ => q ρ H σ (Fr.refl _ _) R he
theorem sm_break : SM X W (.Break pos) sBreak := ps_imp ps_break fun Dn σ H ⟨ρ, e, S, he, R, q⟩ => q ρ H σ (Fr.refl _ _) R he
theorem sm_cont : SM X W (.Continue pos) sCont := ps_imp ps_continue fun Dn σ H ⟨ρ, e, S, he, R, q⟩ => q ρ H σ (Fr.refl _ _) R he
theorem tE_st {Dn : Ends} {σ : L2.St} {H : Hp} {k : D → Env → Store → Option (Fl × Env × Store)} {u : VK} (hu : ∀ ρ H d v e S, EnvRel X.K ρ H σ e → Rel X.K ρ H S → RepD X.K ρ H d v → PostS X.K X.mg W ρ H Dn (k d e S) → u v H)
    (h : tS X.K X.mg W (fun e S => (m e S).st e fun d S1 => k d e S1) Dn σ H) : tE X.K X.mg W m σ H u := by
  obtain ⟨ρ, e, S, he, R, q⟩ := h
  exact ⟨ρ, e, S, he, R, (PostS.st R he q).mono fun d S1 ρ1 H1 f1 R1 q v r => hu ρ1 H1 d v e S1 (he.fr R.free f1) R1 r q⟩
theorem sm_ret (h : EM X W e m) : SM X W (.Return (some e) pos) (sRet m) :=
  ps_imp (ps_ret h) fun Dn σ H h => tE_st (k := fun d e S1 => some (.rt d, e, S1)) (fun ρ H d v e S he R r q => q ρ H v (Fr.refl _ _) R r) h
def sRetN : MS := fun e S => some (.rt .non, e, S)
theorem sm_retN : SM X W (.Return none pos) sRetN := ps_imp ps_retN fun Dn σ H ⟨ρ, e, S, he, R, q⟩ => q ρ H .non (Fr.refl _ _) R .non
theorem sm_expr (h : EM X W e m) (hs : swapsWith e none pos.line X.env = pure false := by rfl) : SM X W (.Expr e pos) (sExpr m) :=
  ps_imp (ps_expr h hs) fun Dn σ H h => tE_st (k := fun d e S1 => some (.nx, e, S1)) (fun ρ H d v e S he R r q => q ρ H σ (Fr.refl _ _) R he) h
theorem sm_if (hc : TM X W c t) (ha : BM X W p sa) (hb : BM X W q sb) : SM X W (.If c p q pos) (sIf t sa sb) :=
  ps_imp (ps_if hc ha hb) fun Dn σ H ⟨ρ, e, S, he, R, q⟩ => ⟨ρ, e, S, he, R, (PostS.st R he q).mono fun c S1 ρ1 H1 f1 R1 q => by
    cases c with
    | true => exact ⟨ρ1, e, S1, he.fr R.free f1, R1, q⟩
    | false => exact ⟨ρ1, e, S1, he.fr R.free f1, R1, q⟩⟩
theorem set_of {te : TE} {Dn : Ends} {σ : L2.St} {H : Hp} (hte : te = tE X.K X.mg W m) (h : tS X.K X.mg W (sSet (gN i) m) Dn σ H) : tAsg te (gName i) Dn σ H := by
  subst hte
  exact tE_st (k := fun d e S1 => (gN i d e S1).bind fun e1 => some (.nx, e1, S1)) (fun ρ H d v e S he R r q => q ρ H _ (Fr.refl _ _) R (he.set i r)) h
/-- name = e -/
theorem sm_set (hN : X.N.Nodup) (hi : X.N[i]? = some x) (hx : Loc X.env.scope x) (h : EM X W e m) (hs : swapsWith e (some (.Name x pos')) pos.line X.env = pure false := by rfl) (hf : X.fn x = true ∨ X.env.scope.names.lookup x = some .local := by first | exact .inl rfl | exact .inr rfl | assumption) :
    SM X W (.Assign [.Name x pos'] e pos) (sSet (gN i) m) :=
  ps_imp (ps_set hN hi hx h hs hf) fun Dn σ H h => set_of rfl h
/-- a, b = e (e no display with plain names) -/
theorem sm_asg (h : EM X W e m) (hg : GM X tg g sl) (hs : swapsWithSole [tg] e pos.line X.env = pure false := by rfl) (hw : swappedStores [tg] e X.env = pure none := by rfl)
    (h1 : (assignEach [tg] X.env).map (·.2) = [assign tg X.env] := by rfl) : SM X W (.Assign [tg] e pos) (sSet g m) :=
  ps_imp (ps_asg h hg hs hw h1) fun Dn σ H h => tE_st (k := fun d e S1 => (g d e S1).bind fun e1 => some (.nx, e1, S1)) (fun ρ H d v e S he R r q => by
    cases hk : g d e S with
    | none => rw [hk] at q; exact q.elim
    | some e1 =>
      rw [hk] at q
      exact ⟨ρ, e, S, d, e1, he, R, r, hk, fun σ' he' _ => q ρ H σ' (Fr.refl _ _) R he'⟩) h
/-- a, b = x, y -/
def sPar (i j : Nat) (m : MA) : MS := fun e S => (m e S).st e fun ds S1 => match ds with
  | [d1, d2] => some (.nx, (e.set i (some d1)).set j (some d2), S1)
  | _ => none
theorem sm_par {i j : Nat} {x y : Str} {a b : Expr} {m : MA} {px py pt : Pos} {kt k2 pt2} (hc : X.calm = true) (hN : X.N.Nodup) (hi : X.N[i]? = some x) (hj : X.N[j]? = some y) (hij : i ≠ j)
    (hx : X.env.scope.names.lookup x = some .local) (hy : X.env.scope.names.lookup y = some .local) (ha : AM X W [a, b] m)
    (hw : swappedStores [.Tuple [.Name x px, .Name y py] kt pt] (.Tuple [a, b] k2 pt2) X.env = pure (some [x, y]))
    (hs : swapsWithSole [.Tuple [.Name x px, .Name y py] kt pt] (.Tuple [a, b] k2 pt2) pos.line X.env = pure false := by rfl) :
    SM X W (.Assign [.Tuple [.Name x px, .Name y py] kt pt] (.Tuple [a, b] k2 pt2) pos) (sPar i j m) :=
  ps_imp (ps_par hc hN hi hj hij hx hy ha hw hs) fun Dn σ H ⟨ρ, e, S, he, R, q⟩ => ⟨ρ, e, S, he, R, (PostS.st R he q).mono fun ds S1 ρ1 H1 f1 R1 q vs r => by
    match ds, r, q with
    | [], _, q => exact q.elim
    | [_], _, q => exact q.elim
    | _ :: _ :: _ :: _, _, q => exact q.elim
    | [d1, d2], r, q =>
      obtain ⟨v, w, rfl, r1, r2⟩ := reps2 r
      exact ⟨v, w, rfl, q ρ1 H1 _ (Fr.refl _ _) R1 (((he.fr R.free f1).set i r1).set j r2)⟩⟩
/-- name op= e on ints -/
def sAug (i : Nat) (f : Int → Int → Int) (m : ME) : MS := fun e S => match e[i]? with
  | some (some (.int a)) => (m e S).st e fun d S1 => match d with
    | .int b => some (.nx, e.set i (some (.int (f a b))), S1)
    | _ => none
  | _ => none
theorem sm_aug {op : Operator} {f : Int → Int → Int} (ho : PIp X op (ipI f)) (hN : X.N.Nodup) (hi : X.N[i]? = some x) (hx : Loc X.env.scope x) (h : EM X W e m) (hf : X.fn x = true ∨ X.env.scope.names.lookup x = some .local := by first | exact .inl rfl | exact .inr rfl | assumption) :
    SM X W (.AugAssign (.Name x pos') op e pos) (sAug i f m) :=
  ps_imp (ps_aug hN hi hx h ho hf) fun Dn σ H ⟨ρ, e, S, he, R, q⟩ => by
    unfold sAug at q
    split at q
    · rename_i a hk
      obtain ⟨v, h1, r1⟩ := he.2 i _ hk
      cases r1
      refine ⟨.int a, h1, ρ, e, S, he, R, (PostS.st R he q).mono fun d S1 ρ1 H1 f1 R1 q v r => ?_⟩
      cases d with
      | int b => cases r; exact ⟨a, b, rfl, rfl, q ρ1 H1 _ (Fr.refl _ _) R1 ((he.fr R.free f1).set i (.int _))⟩
      | _ => exact q.elim
    · exact q.elim
/-- o[i] = e on a list of the store -/
def sPut (mo mi me : ME) : MS := fun e S => (me e S).st e fun d S1 => (mo e S1).st e fun o S2 => (mi e S2).st e fun i S3 => match o, i with
  | .loc n, .int k => match S3[n]? with
    | some (.lst xs) => match ixN xs.length k with
      | some j => some (.nx, e, S3.set n (.lst (xs.set j d)))
      | none => none
    | none => none
  | _, _ => none
end
end M


set_option Elab.async false
set_option linter.all false
set_option maxRecDepth 100000
set_option maxHeartbeats 4000000
namespace M
open PySem PySem.Spec PyProof.Rows L2 RZ
variable [Tabs]

section
variable {X : Cx} {W : WX} {tg e a b c : Expr} {es : List Expr} {g : MG} {sl : List Nat} {x : Str} {pos pos' : Pos} {m ma mb mo mi me : ME} {t : MT} {sa sb : MS} {st : Stmt} {p q rest : List Stmt} {i : Nat}
theorem sm_put {o i : Expr} (ho : EM X W o mo) (hi : EM X W i mi) (he : EM X W e me) (hs : swapsWithSole [.Subscript o i pos'] e pos.line X.env = pure false := by rfl) (hw : swappedStores [.Subscript o i pos'] e X.env = pure none := by rfl)
    (h1 : (assignEach [.Subscript o i pos'] X.env).map (·.2) = [assign (.Subscript o i pos') X.env] := by rfl)
    (ha : ∀ v, assign (.Subscript o i pos') X.env v = (do
      let ov ← holding [v] (eval o X.env)
      let iv ← holding [v, ov] (eval i X.env)
      standAt pos'
      holding [v, ov, iv] (setItem ov iv v)
      release [v, ov, iv] []) := by intro _; rfl) : SM X W (.Assign [.Subscript o i pos'] e pos) (sPut mo mi me) :=
  ps_imp (ps_asg he (pg_sub ho hi set_list ha) hs hw h1) fun Dn σ H ⟨ρ, e, S, he, R, q⟩ => ⟨ρ, e, S, he, R, (PostS.st R he q).mono fun d S1 ρ1 H1 f1 R1 q v r =>
    ⟨ρ1, e, S1, he.fr R.free f1, R1, (PostS.st R1 (he.fr R.free f1) q).mono fun o S2 ρ2 H2 f2 R2 q vo ro =>
      ⟨ρ2, e, S2, (he.fr R.free f1).fr R1.free f2, R2, (PostS.st R2 ((he.fr R.free f1).fr R1.free f2) q).mono fun i S3 ρ3 H3 f3 R3 q vi ri => by
        have r3 := RepD.fr R2.free f3 _ _ (RepD.fr R1.free f2 _ _ r)
        have ro3 := RepD.fr R2.free f3 _ _ ro
        cases o with
        | loc n =>
          cases i with
          | int k =>
            dsimp only at q
            cases hn : S3[n]? with
            | none => rw [hn] at q; exact q.elim
            | some ob =>
              cases ob with
              | lst xs =>
                rw [hn] at q
                cases hk : ixN xs.length k with
                | none => simp only [hk] at q; exact q.elim
                | some j =>
                  simp only [hk] at q
                  cases ri
                  obtain ⟨p, ws, rfl, ha, hH, rx⟩ := loc_at R3 ro3 hn
                  have mp : p ∈ ρ3.l := List.mem_of_getElem? ha
                  have f4 : Fr ρ3 H3 ρ3 (upd H3 p (.lst (ws.set j v))) := Fr.put mp
                  exact ⟨p, ws, k, j, rfl, rfl, hH, by rw [← rx.length]; exact hk, q ρ3 _ σ f4 (R3.put ha (RepDs.set r3 j rx)) ((((he.fr R.free f1).fr R1.free f2).fr R2.free f3).fr R3.free f4)⟩
          | _ => exact q.elim
        | _ => exact q.elim⟩⟩⟩
end

/-! ### sources -/
structure Src where
  xs : List D
  w : List (Nat × List D)
def Src.ok (s : Src) (S : Store) : Prop := ∀ p ∈ s.w, S[p.1]? = some (.lst p.2)
@[simp] theorem Src.ok_nil (xs : List D) (S : Store) : (Src.mk xs []).ok S := fun p h => by simp at h
structure JOk (K : PySem.W.Frag) (src : Src) (J : It) (ρ : Rh) (H : Hp) : Prop where
  go : ∀ ρ' H' S' i d, FrH ρ H ρ' H' → Rel K ρ' H' S' → src.ok S' → src.xs[i]? = some d → J.go i H' ∧ ∀ x H'', J.yld i H' x H'' → Fr ρ' H' ρ' H'' ∧ Rel K ρ' H'' S' ∧ RepD K ρ' H'' d x
  stop : ∀ ρ' H' S', FrH ρ H ρ' H' → Rel K ρ' H' S' → src.ok S' → J.stop src.xs.length H'
abbrev MI := Env → Store → Res Src
def tI (K : PySem.W.Frag) (mg : Str → Option Value) (W : WX) (m : MI) : TI := fun σ H R => ∃ ρ e S, EnvRel K ρ H σ e ∧ Rel K ρ H S ∧ Post K mg W (fun src S' ρ' H' => ∀ J, JOk K src J ρ' H' → R J H') ρ H σ (m e S)
abbrev IM (X : Cx) (W : WX) (tg e : Expr) (m : MI) : Prop := PI X tg e (tI X.K X.mg W m)
theorem pi_imp {X : Cx} {tg e : Expr} {t t' : TI} (h : PI X tg e t) (i : ∀ σ H Q, t' σ H Q → t σ H Q) : PI X tg e t' := ⟨fun pins s σ H Q I q => h.run pins s σ H Q I (i _ _ _ q)⟩
/-- from a Walk whose items are there, the heap as it was -/
theorem jok_at {K : PySem.W.Frag} {src : Src} {J : It} {ρ : Rh} {H : Hp} {n : Nat} (G : Hp → Prop) {Y : Nat → Hp → V → Hp → Prop} (w : Walk J n G Y) (hn : src.xs.length = n)
    (hG : ∀ ρ' H' S', FrH ρ H ρ' H' → Rel K ρ' H' S' → src.ok S' → G H')
    (hy : ∀ ρ' H' S' i d x H'', FrH ρ H ρ' H' → Rel K ρ' H' S' → src.ok S' → src.xs[i]? = some d → Y i H' x H'' → H'' = H' ∧ RepD K ρ' H' d x) : JOk K src J ρ H where
  go := fun ρ' H' S' i d f R ok hd => by
    have hi : i < n := by rw [← hn]; exact (List.getElem?_eq_some_iff.mp hd).1
    refine ⟨w.goes i H' hi (hG ρ' H' S' f R ok), fun x H'' y => ?_⟩
    obtain ⟨rfl, r⟩ := hy ρ' H' S' i d x H'' f R ok hd (w.yields i H' x H'' hi (hG ρ' H' S' f R ok) y)
    exact ⟨Fr.refl _ _, R, r⟩
  stop := fun ρ' H' S' f R ok => by rw [hn]; exact w.stops H' (hG ρ' H' S' f R ok)
/-- .. items in new pairs -/
theorem jok_pair {K : PySem.W.Frag} {src : Src} {J : It} {ρ : Rh} {H : Hp} {n : Nat} (G : Hp → Prop) {f1 f2 : Nat → Option V} (w : Walk J n G (YPair f1 f2)) (hn : src.xs.length = n)
    (hG : ∀ ρ' H' S', FrH ρ H ρ' H' → Rel K ρ' H' S' → src.ok S' → G H')
    (hy : ∀ ρ' H' S' i d x y, FrH ρ H ρ' H' → Rel K ρ' H' S' → src.ok S' → src.xs[i]? = some d → f1 i = some x → f2 i = some y → ∃ d1 d2, d = .tup [d1, d2] ∧ RepD K ρ' H' d1 x ∧ RepD K ρ' H' d2 y) : JOk K src J ρ H where
  go := fun ρ' H' S' i d f R ok hd => by
    have hi : i < n := by rw [← hn]; exact (List.getElem?_eq_some_iff.mp hd).1
    refine ⟨w.goes i H' hi (hG ρ' H' S' f R ok), fun v H'' yy => ?_⟩
    obtain ⟨T, x, y, rfl, hT, rfl, e1, e2⟩ := w.yields i H' v H'' hi (hG ρ' H' S' f R ok) yy
    obtain ⟨d1, d2, rfl, r1, r2⟩ := hy ρ' H' S' i d x y f R ok hd e1 e2
    exact ⟨Fr.laid hT, R.laid hT, .tup (SqT.of upd_same) (RepDs.fr R.free (Fr.laid hT) _ _ (.cons r1 (.cons r2 .nil)))⟩
  stop := fun ρ' H' S' f R ok => by rw [hn]; exact w.stops H' (hG ρ' H' S' f R ok)

/-- the items of a list, a tuple, a text -/
def strItems (s : Str) : List D := s.cps.toList.map fun c => .str ⟨#[c]⟩
def srcOf (S : Store) : D → Option Src
  | .tup xs => some ⟨xs, []⟩
  | .lst xs => some ⟨xs, []⟩
  | .fro xs => some ⟨xs, []⟩
  | .loc n => match S[n]? with
    | some (.lst xs) => some ⟨xs, [(n, xs)]⟩
    | _ => none
  | .str s => some ⟨strItems s, []⟩
  | _ => none
/-- a list that d is stands as it did -/
structure Stands (K : PySem.W.Frag) (xs : List D) (w : List (Nat × List D)) (a : Addr) (ρ : Rh) (H : Hp) : Prop where
  at_ : ∀ ρ' H' S', FrH ρ H ρ' H' → Rel K ρ' H' S' → (∀ p ∈ w, S'[p.1]? = some (.lst p.2)) → ∃ vs, SqL K H' a vs ∧ RepDs K ρ' H' xs vs
theorem frh_rd {ρ ρ' : Rh} {H H' : Hp} (f : FrH ρ H ρ' H') {a : Addr} {ws : List V} (h : Rd H a (.lst ws)) (n : a ∉ ρ.l) : Rd H' a (.lst ws) := (rd_fr (ρ := ⟨ρ.l, ρ'.h⟩) f.fr h n).1
theorem FrH.at_ {ρ ρ' : Rh} {H H' : Hp} (f : FrH ρ H ρ' H') {n : Nat} {a : Addr} (h : ρ.l[n]? = some a) : ρ'.l[n]? = some a := Fr.at_ (ρ := ⟨ρ.l, ρ'.h⟩) f.fr h
def watch : D → List D → List (Nat × List D)
  | .loc n, xs => [(n, xs)]
  | _, _ => []
theorem stands_of {K : PySem.W.Frag} {ρ : Rh} {H : Hp} {S : Store} {d : D} {v : V} {xs : List D} (R : Rel K ρ H S) (r : RepD K ρ H d v) (e : lstOf S d = some xs) : ∃ a, v = .ref a ∧ Stands K xs (watch d xs) a ρ H := by
  cases d <;> simp only [lstOf] at e <;> try cases e
  case lst =>
    cases r with
    | lst a b b' c => exact ⟨_, rfl, ⟨fun ρ' H' S' f R' _ => ⟨_, .inl (frh_rd f (Rd.of a) b), RepDs.frh R.free f _ _ c⟩⟩⟩
  case fro =>
    cases r with
    | fro a b b' c => exact ⟨_, rfl, ⟨fun ρ' H' S' f R' _ => ⟨_, .inl (frh_rd f a b), RepDs.frh R.free f _ _ c⟩⟩⟩
    | frk a c => exact ⟨_, rfl, ⟨fun ρ' H' S' f R' _ => ⟨_, .inr a, RepDs.frh R.free f _ _ c⟩⟩⟩
  case loc n =>
    cases r with
    | loc ha =>
      split at e
      · rename_i ys hs
        cases e
        refine ⟨_, rfl, ⟨fun ρ' H' S' f R' hw => ?_⟩⟩
        obtain ⟨vs, q, rr⟩ := R'.at_ n _ _ (hw (n, xs) (by simp [watch])) (f.at_ ha)
        exact ⟨vs, .inl (.inl q), rr⟩
      · cases e
theorem jok_list {K : PySem.W.Frag} {ρ : Rh} {H : Hp} {S : Store} {a : Addr} {xs : List D} {w : List (Nat × List D)} (R : Rel K ρ H S) (hw : ∀ p ∈ w, S[p.1]? = some (.lst p.2)) (st : Stands K xs w a ρ H) : JOk K ⟨xs, w⟩ (Itl K a) ρ H where
  go := fun ρ' H' S' i d f R' ok hd => by
    obtain ⟨vs, q, r⟩ := st.at_ ρ' H' S' f R' ok
    obtain ⟨v, hv, rv⟩ := r.get hd
    refine ⟨⟨vs, v, q, hv⟩, fun x H'' y => ?_⟩
    obtain ⟨rfl, y⟩ := y
    have := y vs q
    rw [hv] at this; cases this
    exact ⟨Fr.refl _ _, R', rv⟩
  stop := fun ρ' H' S' f R' ok => by
    obtain ⟨vs, q, r⟩ := st.at_ ρ' H' S' f R' ok
    exact ⟨vs, q, by rw [← r.length]; exact Nat.le_refl _⟩
theorem sqt_frh {K : PySem.W.Frag} {ρ ρ' : Rh} {H H' : Hp} (F : Free ρ H) (f : FrH ρ H ρ' H') {a : Addr} {vs : List V} (h : SqT K H a vs) : SqT K H' a vs := sqt_fr (ρ := ⟨ρ.l, ρ'.h⟩) F f.fr h
theorem jok_tup {K : PySem.W.Frag} {ρ : Rh} {H : Hp} {S : Store} {a : Addr} {vs : List V} {xs : List D} (R : Rel K ρ H S) (q : SqT K H a vs) (r : RepDs K ρ H xs vs) : JOk K ⟨xs, []⟩ (Itt K a) ρ H :=
  jok_at (fun H' => SqT K H' a vs) walk_tup r.length (fun ρ' H' S' f R' ok => sqt_frh R.free f q) fun ρ' H' S' i d x H'' f R' ok hd y => by
    obtain ⟨rfl, y⟩ := y
    obtain ⟨v, hv, rv⟩ := (RepDs.frh R.free f _ _ r).get hd
    rw [hv] at y; cases y
    exact ⟨rfl, rv⟩
theorem jok_str {K : PySem.W.Frag} {ρ : Rh} {H : Hp} (s : Str) : JOk K ⟨strItems s, []⟩ (Its s) ρ H :=
  jok_at (fun _ => True) walk_str (by simp [strItems]) (fun _ _ _ _ _ _ => trivial) fun ρ' H' S' i d x H'' f R' ok hd y => by
    obtain ⟨rfl, c, hc, rfl⟩ := y
    have : d = .str ⟨#[c]⟩ := by
      simp only [strItems, List.getElem?_map, Array.getElem?_toList, hc, Option.map_some, Option.some.injEq] at hd
      exact hd.symm
    subst this
    exact ⟨rfl, .str _⟩
/-- whatever of the three it is -/
def iAny (K : PySem.W.Frag) (tl : TE) : TI := fun σ H R => tl σ H fun x H1 => (∃ a xs, x = .ref a ∧ SqL K H1 a xs ∧ R (Itl K a) H1) ∨ (∃ a xs, x = .ref a ∧ SqT K H1 a xs ∧ R (Itt K a) H1) ∨ ∃ s, x = .str s ∧ R (Its s) H1
theorem pi_any {X : Cx} {tg l : Expr} {tl : TE} (hl : PE X l tl) : PI X tg l (iAny X.K tl) := by
  refine ⟨fun pins s σ H R I h => ?_⟩
  refine thn (hl.run pins s σ H _ I h) fun v s1 ⟨x, H1, I1, r1, q1⟩ => ?_
  rcases q1 with ⟨a, xs, e, hq, q⟩ | ⟨a, xs, e, hq, q⟩ | ⟨z, e, q⟩
  · subst e
    cases r1
    obtain ⟨its, rv, p, hz⟩ := I1.list hq
    exact wpAny_pyIter_list p.isList (pi_one (tk := s1.toks) I1 _ (turn_list a _) ⟨_, Heap.get?_push_size _ rfl, rfl, rfl⟩ q)
  · subst e
    cases r1
    obtain ⟨its, rv, p, hz⟩ := I1.tuple hq
    exact wpAny_pyIter_tuple (show s1.heap.IsTuple a its.toArray from p) (pi_one (tk := s1.toks) I1 _ (turn_tuple a _) ⟨_, Heap.get?_push_size _ rfl, rfl, rfl⟩ q)
  · subst e
    obtain ⟨t, rfl⟩ := r1
    cases ha : z.cps.all (· < 128)
    · exact wpAny_pyIter_wide ha (pi_one (tk := s1.toks) I1 _ (turn_str _ z t "str_iterator" (.inr rfl)) ⟨_, Heap.get?_push_size _ rfl, rfl, rfl⟩ q)
    · exact wpAny_pyIter_ascii ha (pi_one (tk := s1.toks) I1 _ (turn_str _ z t "str_ascii_iterator" (.inl rfl)) ⟨_, Heap.get?_push_size _ rfl, rfl, rfl⟩ q)
def mSrc (m : ME) : MI := fun e S => (m e S).bind fun d S1 => .of (srcOf S1 d) S1
theorem srcOf_list {S : Store} {d : D} {src : Src} (h : srcOf S d = some src) (nt : ∀ ys, d ≠ .tup ys) (ns : ∀ s, d ≠ .str s) : lstOf S d = some src.xs ∧ src.w = watch d src.xs ∧ src.ok S := by
  cases d <;> simp only [srcOf] at h <;> try cases h
  case tup => exact absurd rfl (nt _)
  case lst => exact ⟨rfl, rfl, Src.ok_nil _ _⟩
  case fro => exact ⟨rfl, rfl, Src.ok_nil _ _⟩
  case str => exact absurd rfl (ns _)
  case loc n =>
    split at h
    · rename_i xs hs
      cases h
      refine ⟨by simp only [lstOf, hs], rfl, fun p hp => ?_⟩
      simp at hp; subst hp; exact hs
    · cases h
theorem im_any {X : Cx} {W : WX} {tg e : Expr} {m : ME} (he : EM X W e m) : IM X W tg e (mSrc m) :=
  pi_imp (pi_any he) fun σ H R' ⟨ρ, e, S, he, R, q⟩ => ⟨ρ, e, S, he, R, (Post.bind q).mono fun d S1 ρ1 H1 f1 R1 q v r => by
    cases hk : srcOf S1 d with
    | none => rw [hk] at q; exact q.elim
    | some src =>
      rw [hk] at q
      have q := q ρ1 H1 (Fr.refl _ _) R1
      by_cases ht : ∃ ys, d = .tup ys
      · obtain ⟨ys, rfl⟩ := ht
        cases hk
        cases r with
        | tup hs rd => exact .inr (.inl ⟨_, _, rfl, hs, q _ (jok_tup R1 hs rd)⟩)
      · by_cases hs : ∃ s, d = .str s
        · obtain ⟨s, rfl⟩ := hs
          cases hk
          cases r
          exact .inr (.inr ⟨s, rfl, q _ (jok_str s)⟩)
        · obtain ⟨h1, h2, h3⟩ := srcOf_list hk (fun ys z => ht ⟨ys, z⟩) fun s z => hs ⟨s, z⟩
          obtain ⟨a, rfl, st⟩ := stands_of R1 r h1
          obtain ⟨vs, hq, _⟩ := st.at_ ρ1 H1 S1 .refl R1 (by rw [← h2]; exact h3)
          refine .inl ⟨a, vs, rfl, hq, q _ ?_⟩
          have := jok_list R1 (by rw [← h2]; exact h3) st
          have es : (⟨src.xs, watch d src.xs⟩ : Src) = src := by rw [← h2]
          rw [es] at this
          exact this⟩
/-! ranges -/
def rng (lo : Int) (n : Nat) : List D := (List.range n).map fun (i : Nat) => .int (lo + (i : Int))
def rngC (lo c : Int) (n : Nat) : List D := (List.range n).map fun (i : Nat) => .int (lo + (i : Int) * c)
def inR (i : Int) : Bool := decide (-(2 ^ 62) ≤ i ∧ i < 2 ^ 62)
def srcR1 : List D → Store → Option Src
  | [.int j], _ => if inR j then some ⟨rng 0 j.toNat, []⟩ else none
  | _, _ => none
def srcR2 : List D → Store → Option Src
  | [.int i, .int j], _ => if inR i && inR j then some ⟨rng i (j - i).toNat, []⟩ else none
  | _, _ => none
def mSrcA (f : List D → Store → Option Src) (m : MA) : MI := fun e S => (m e S).bind fun ds S1 => .of (f ds S1) S1
theorem jok_rng {K : PySem.W.Frag} {ρ : Rh} {H : Hp} (lo : Int) (n : Nat) : JOk K ⟨rng lo n, []⟩ (Itr lo n) ρ H :=
  jok_at (fun _ => True) walk_range (by simp [rng]) (fun _ _ _ _ _ _ => trivial) fun ρ' H' S' i d x H'' f R' ok hd y => by
    obtain ⟨rfl, rfl⟩ := y
    have hi : i < n := by have := (List.getElem?_eq_some_iff.mp hd).1; simpa [rng] using this
    simp only [rng, List.getElem?_map, List.getElem?_range hi, Option.map_some, Option.some.injEq] at hd
    subst hd
    exact ⟨rfl, .int _⟩
section
variable {X : Cx} {W : WX} {tg a b c e : Expr} {m : MA} {p pos : Pos}
theorem tA_src {f : List D → Store → Option Src} {σ : L2.St} {H : Hp} {R' : It → Hp → Prop} {u : List V → Hp → Prop}
    (hu : ∀ ρ H ds vs S src, Rel X.K ρ H S → RepDs X.K ρ H ds vs → f ds S = some src → (∀ J, JOk X.K src J ρ H → R' J H) → u vs H)
    (h : tI X.K X.mg W (mSrcA f m) σ H R') : tA X.K X.mg W m σ H u := by
  obtain ⟨ρ, e, S, he, R, q⟩ := h
  exact ⟨ρ, e, S, he, R, (Post.bind q).mono fun ds S1 ρ1 H1 f1 R1 q vs r => by
    cases hk : f ds S1 with
    | none => rw [hk] at q; exact q.elim
    | some src => rw [hk] at q; exact hu ρ1 H1 ds vs S1 src R1 r hk (q ρ1 H1 (Fr.refl _ _) R1)⟩
theorem im_range1 (hg : Gl X "range") (hm : X.mg "range" = none) (ha : AM X W [a] m) (hs : starEach [a] X.env = [(false, eval a X.env)] := by rfl) : IM X W tg (.Call (.Name "range" p) [a] [] pos) (mSrcA srcR1 m) :=
  pi_imp (pi_range1 hg hm ha hs) fun σ H R' h => tA_src (fun ρ H ds vs S src R r hk q => by
    unfold srcR1 at hk
    split at hk
    · rename_i j
      split at hk
      · rename_i hj
        cases hk
        obtain ⟨v, rfl, r1⟩ := reps1 r
        cases r1
        simp only [inR, decide_eq_true_eq] at hj
        exact ⟨j, rfl, hj.1, hj.2, q _ (jok_rng 0 _)⟩
      · cases hk
    · cases hk) h
theorem im_range2 (hg : Gl X "range") (hm : X.mg "range" = none) (ha : AM X W [a, b] m) (hs : starEach [a, b] X.env = [(false, eval a X.env), (false, eval b X.env)] := by rfl) (hs2 : starEach [b] X.env = [(false, eval b X.env)] := by rfl) : IM X W tg (.Call (.Name "range" p) [a, b] [] pos) (mSrcA srcR2 m) :=
  pi_imp (pi_range2 hg hm ha hs hs2) fun σ H R' h => tA_src (fun ρ H ds vs S src R r hk q => by
    unfold srcR2 at hk
    split at hk
    · rename_i i j
      split at hk
      · rename_i hj
        cases hk
        obtain ⟨v, w, rfl, r1, r2⟩ := reps2 r
        cases r1
        cases r2
        simp only [inR, Bool.and_eq_true, decide_eq_true_eq] at hj
        exact ⟨i, j, rfl, ⟨hj.1.1, hj.1.2, hj.2.1, hj.2.2⟩, q _ (jok_rng i _)⟩
      · cases hk
    · cases hk) h
/-! zip, enumerate, reversed -/
def zipD : List D → List D → List D
  | x :: xs, y :: ys => .tup [x, y] :: zipD xs ys
  | _, _ => []
theorem zipD_length : ∀ (xs ys : List D), (zipD xs ys).length = min xs.length ys.length
  | [], _ => by simp [zipD]
  | _ :: _, [] => by simp [zipD]
  | _ :: xs, _ :: ys => by simp only [zipD, List.length_cons, zipD_length xs ys]; omega
theorem zipD_get : ∀ {xs ys : List D} {i : Nat} {d : D}, (zipD xs ys)[i]? = some d → ∃ x y, xs[i]? = some x ∧ ys[i]? = some y ∧ d = .tup [x, y]
  | [], _, _, _, h => by simp [zipD] at h
  | _ :: _, [], _, _, h => by simp [zipD] at h
  | x :: xs, y :: ys, 0, d, h => by simp [zipD] at h; exact ⟨x, y, rfl, rfl, h.symm⟩
  | x :: xs, y :: ys, i + 1, d, h => by
    simp only [zipD, List.getElem?_cons_succ] at h
    obtain ⟨a, b, h1, h2, h3⟩ := zipD_get h
    exact ⟨a, b, by simpa using h1, by simpa using h2, h3⟩
def srcZip : List D → Store → Option Src
  | [d1, d2], S => match d1, d2 with
    | .tup xs, .tup ys => some ⟨zipD xs ys, []⟩
    | d1, d2 => match lstOf S d1, lstOf S d2 with
      | some xs, some ys => some ⟨zipD xs ys, watch d1 xs ++ watch d2 ys⟩
      | _, _ => none
  | _, _ => none
theorem watch_ok {S : Store} {d : D} {xs : List D} (h : lstOf S d = some xs) : ∀ p ∈ watch d xs, S[p.1]? = some (.lst p.2) := by
  cases d <;> simp only [lstOf] at h <;> try cases h
  case lst => simp [watch]
  case fro => simp [watch]
  case loc n =>
    split at h
    · rename_i ys hs
      cases h
      intro p hp; simp [watch] at hp; subst hp; exact hs
    · cases h
theorem jok_zipL {K : PySem.W.Frag} {ρ : Rh} {H : Hp} {S : Store} {a b : Addr} {xs ys : List D} {w1 w2 : List (Nat × List D)} (s1 : Stands K xs w1 a ρ H) (s2 : Stands K ys w2 b ρ H) : JOk K ⟨zipD xs ys, w1 ++ w2⟩ (Itz K a b) ρ H where
  go := fun ρ' H' S' i d f R' ok hd => by
    obtain ⟨vs, q1, r1⟩ := s1.at_ ρ' H' S' f R' fun p hp => ok p (List.mem_append_left _ hp)
    obtain ⟨ws, q2, r2⟩ := s2.at_ ρ' H' S' f R' fun p hp => ok p (List.mem_append_right _ hp)
    obtain ⟨x, y, e1, e2, rfl⟩ := zipD_get hd
    obtain ⟨v, hv, rv⟩ := r1.get e1
    obtain ⟨w, hw, rw'⟩ := r2.get e2
    refine ⟨⟨vs, ws, v, w, q1, q2, hv, hw⟩, fun u H'' yy => ?_⟩
    obtain ⟨T, v', w', rfl, hT, rfl, y1, y2⟩ := yy
    have e3 := y1 vs q1
    have e4 := y2 ws q2
    rw [hv] at e3; cases e3
    rw [hw] at e4; cases e4
    exact ⟨Fr.laid hT, R'.laid hT, .tup (SqT.of upd_same) (RepDs.fr R'.free (Fr.laid hT) _ _ (.cons rv (.cons rw' .nil)))⟩
  stop := fun ρ' H' S' f R' ok => by
    obtain ⟨vs, q1, r1⟩ := s1.at_ ρ' H' S' f R' fun p hp => ok p (List.mem_append_left _ hp)
    obtain ⟨ws, q2, r2⟩ := s2.at_ ρ' H' S' f R' fun p hp => ok p (List.mem_append_right _ hp)
    refine ⟨vs, ws, q1, q2, ?_⟩
    have h1 := r1.length
    have h2 := r2.length
    show vs.length ≤ (zipD xs ys).length ∨ ws.length ≤ (zipD xs ys).length
    rw [zipD_length]; omega
theorem jok_zipT {K : PySem.W.Frag} {ρ : Rh} {H : Hp} {S : Store} {a b : Addr} {xs ys : List D} {vs ws : List V} (R : Rel K ρ H S) (q1 : SqT K H a vs) (r1 : RepDs K ρ H xs vs) (q2 : SqT K H b ws) (r2 : RepDs K ρ H ys ws) : JOk K ⟨zipD xs ys, []⟩ (ItzT K a b) ρ H where
  go := fun ρ' H' S' i d f R' ok hd => by
    obtain ⟨x, y, e1, e2, rfl⟩ := zipD_get hd
    obtain ⟨v, hv, rv⟩ := (RepDs.frh R.free f _ _ r1).get e1
    obtain ⟨w, hw, rw'⟩ := (RepDs.frh R.free f _ _ r2).get e2
    refine ⟨⟨vs, ws, v, w, sqt_frh R.free f q1, sqt_frh R.free f q2, hv, hw⟩, fun u H'' yy => ?_⟩
    obtain ⟨T, v', w', rfl, hT, rfl, y1, y2⟩ := yy
    have e3 := y1 vs (sqt_frh R.free f q1)
    have e4 := y2 ws (sqt_frh R.free f q2)
    rw [hv] at e3; cases e3
    rw [hw] at e4; cases e4
    exact ⟨Fr.laid hT, R'.laid hT, .tup (SqT.of upd_same) (RepDs.fr R'.free (Fr.laid hT) _ _ (.cons rv (.cons rw' .nil)))⟩
  stop := fun ρ' H' S' f R' ok => by
    refine ⟨vs, ws, sqt_frh R.free f q1, sqt_frh R.free f q2, ?_⟩
    have h1 := r1.length
    have h2 := r2.length
    show vs.length ≤ (zipD xs ys).length ∨ ws.length ≤ (zipD xs ys).length
    rw [zipD_length]; omega
theorem im_zip {elts : List Expr} {kk : Nat} {tpos : Pos} {e2 : Expr} (hg : Gl X "zip") (hm : X.mg "zip" = none) (ha : AM X W [e, e2] m)
    (hs : starEach [e, e2] X.env = (false, eval e X.env) :: starEach [e2] X.env := by rfl) (hpl : (backTo pos (starEach [e2] X.env)).any (·.1) = false := by rfl) : IM X W (.Tuple elts kk tpos) (.Call (.Name "zip" p) [e, e2] [] pos) (mSrcA srcZip m) :=
  pi_imp (pi_zipA hg hm ha hs hpl) fun σ H R' h => tA_src (fun ρ H ds vs S src R r hk q => by
    match ds, r, hk with
    | [], _, hk => cases hk
    | [_], _, hk => cases hk
    | _ :: _ :: _ :: _, _, hk => cases hk
    | [d1, d2], r, hk =>
      obtain ⟨v, w, rfl, r1, r2⟩ := reps2 r
      by_cases ht : ∃ xs ys, d1 = .tup xs ∧ d2 = .tup ys
      · obtain ⟨xs, ys, rfl, rfl⟩ := ht
        cases hk
        cases r1 with
        | tup h1 x1 =>
          cases r2 with
          | tup h2 x2 => exact ⟨_, _, _, _, rfl, .inr ⟨h1, h2, q _ (jok_zipT R h1 x1 h2 x2)⟩⟩
      · have hk : (match lstOf S d1, lstOf S d2 with
          | some xs, some ys => some (Src.mk (zipD xs ys) (watch d1 xs ++ watch d2 ys))
          | _, _ => none) = some src := by
          rw [← hk]
          cases d1 <;> cases d2 <;> first | rfl | exact absurd ⟨_, _, rfl, rfl⟩ ht
        cases h1 : lstOf S d1 with
        | none => rw [h1] at hk; cases hk
        | some xs =>
          cases h2 : lstOf S d2 with
          | none => rw [h1, h2] at hk; cases hk
          | some ys =>
            rw [h1, h2] at hk
            cases hk
            obtain ⟨a, rfl, st1⟩ := stands_of R r1 h1
            obtain ⟨b, rfl, st2⟩ := stands_of R r2 h2
            obtain ⟨vs1, q1, _⟩ := st1.at_ ρ H S .refl R (watch_ok h1)
            obtain ⟨vs2, q2, _⟩ := st2.at_ ρ H S .refl R (watch_ok h2)
            exact ⟨a, b, _, _, rfl, .inl ⟨q1, q2, q _ (jok_zipL (S := S) st1 st2)⟩⟩) h
end

/-! ### for -/
def stepF (r : Option (Fl × Env × Store)) (k : Env → Store → Option (Fl × Env × Store)) : Option (Fl × Env × Store) := match r with
  | some (.nx, e, S) => k e S
  | some (.ct, e, S) => k e S
  | some (.bk, e, S) => some (.nx, e, S)
  | r => r
open Classical in
noncomputable def forM (src : Src) (g : MG) (b : MS) : List D → MS
  | [], e, S => if src.ok S then some (.nx, e, S) else none
  | d :: ds, e, S => if src.ok S then (g d e S).bind fun e1 => stepF (b e1 S) (forM src g b ds) else none
noncomputable def sFor (mi : MI) (g : MG) (b : MS) : MS := fun e S => (mi e S).st e fun src S1 => forM src g b src.xs e S1
theorem PostS.step {K : PySem.W.Frag} {mg : Str → Option Value} {W : WX} {ρ : Rh} {H : Hp} {Dn : Ends} {k : Env → Store → Option (Fl × Env × Store)} {N : L2.St → Hp → Prop} {r : Option (Fl × Env × Store)} (q : PostS K mg W ρ H Dn (stepF r k))
    (hk : ∀ ρ' H' e S σ', Fr ρ H ρ' H' → Rel K ρ' H' S → EnvRel K ρ' H' σ' e → PostS K mg W ρ' H' Dn (k e S) → N σ' H') : PostS K mg W ρ H { Dn with nx := N, ct := N, bk := Dn.nx } r := by
  cases r with
  | none => exact q
  | some x =>
    obtain ⟨fl, e, S⟩ := x
    cases fl with
    | nx => exact fun ρ' H' σ' f R' he' => hk ρ' H' e S σ' f R' he' (PostS.fr f q)
    | ct => exact fun ρ' H' σ' f R' he' => hk ρ' H' e S σ' f R' he' (PostS.fr f q)
    | bk => exact q
    | rt d => exact q
    | ex c => exact q
section
variable {X : Cx} {W : WX} {tg iter c : Expr} {body : List Stmt} {mi : MI} {g : MG} {sl : List Nat} {sb : MS} {mt : MT} {pos : Pos}
theorem sm_for (hp : PassesOwn (model X.prog X.w) X.A X.env X.xe) (hc : X.calm = true) (hi : IM X W tg iter mi) (hg : GM X tg g sl) (hb : BM X W body sb) (hs : ∀ x, foldedSetIterable iter X.env x = pure x := by intro _; rfl) :
    SM X W (.For tg iter body [] pos) (sFor mi g sb) :=
  ps_imp (ps_for hp hc hi hg hb hs) fun Dn σ H ⟨ρ, e, S, he, R, q⟩ => ⟨ρ, e, S, he, R, (PostS.st R he q).mono fun src S1 ρ1 H1 f1 R1 q J hJ => by
    refine ⟨fun i m σ' H' => m = src.xs.length - i ∧ i ≤ src.xs.length ∧ ∃ ρ' e' S', Fr ρ1 H1 ρ' H' ∧ Rel X.K ρ' H' S' ∧ EnvRel X.K ρ' H' σ' e' ∧ PostS X.K X.mg W ρ' H' Dn (forM src g sb (src.xs.drop i) e' S'),
      ⟨_, rfl, Nat.zero_le _, ρ1, e, S1, Fr.refl _ _, R1, he.fr R.free f1, q⟩, ?_⟩
    rintro i m σ' H' ⟨rfl, hi, ρ', e', S', f, R', he', q⟩
    rcases Nat.lt_or_ge i src.xs.length with hlt | hge
    · rw [List.drop_eq_getElem_cons hlt] at q
      unfold forM at q
      by_cases hok : src.ok S'
      · rw [if_pos hok] at q
        obtain ⟨hgo, hy⟩ := hJ.go ρ' H' S' i _ (.of f) R' hok (List.getElem?_eq_getElem hlt)
        cases hgd : g src.xs[i] e' S' with
        | none => rw [hgd] at q; exact q.elim
        | some e1 =>
          rw [hgd] at q
          have q : PostS X.K X.mg W ρ' H' Dn (stepF (sb e1 S') (forM src g sb (src.xs.drop (i + 1)))) := q
          refine .inr ⟨hgo, fun σ2 H2 => i + 1 ≤ src.xs.length ∧ ∃ ρ' e' S', Fr ρ1 H1 ρ' H2 ∧ Rel X.K ρ' H2 S' ∧ EnvRel X.K ρ' H2 σ2 e' ∧ PostS X.K X.mg W ρ' H2 Dn (forM src g sb (src.xs.drop (i + 1)) e' S'),
            fun σ2 H2 n => ⟨src.xs.length - (i + 1), by omega, rfl, n⟩, fun x H'' yy => ?_⟩
          obtain ⟨f2, R2, r2⟩ := hy x H'' yy
          exact ⟨ρ', e', S', _, e1, he'.fr R'.free f2, R2, r2, hgd, fun σ2 he2 _ => ⟨ρ', e1, S', he2, R2, PostS.step (PostS.fr f2 q) fun ρ3 H3 e3 S3 σ3 f3 R3 he3 q3 =>
            ⟨hlt, ρ3, e3, S3, (f.trans f2).trans f3, R3, he3, q3⟩⟩⟩
      · rw [if_neg hok] at q; exact q.elim
    · have e0 : i = src.xs.length := by omega
      subst e0
      rw [List.drop_length] at q
      unfold forM at q
      by_cases hok : src.ok S'
      · rw [if_pos hok] at q
        exact .inl ⟨hJ.stop ρ' H' S' (.of f) R' hok, q ρ' H' σ' (Fr.refl _ _) R' he'⟩
      · rw [if_neg hok] at q; exact q.elim⟩
/-! ### while -/
def whileM (c : MT) (b : MS) : Nat → MS
  | 0, _, _ => none
  | n + 1, e, S => (c e S).st e fun t S1 => if t = true then stepF (b e S1) (whileM c b n) else some (.nx, e, S1)
def sWhile (n : Nat) (c : MT) (b : MS) : MS := whileM c b n
theorem sm_while (n : Nat) (hp : PassesOwn (model X.prog X.w) X.A X.env X.xe) (hc : TM X W c mt) (hb : BM X W body sb) : SM X W (.While c body [] pos) (sWhile n mt sb) :=
  ps_imp (ps_while hp hc hb) fun Dn σ H ⟨ρ, e, S, he, R, q⟩ => by
    refine ⟨fun m σ' H' => ∃ ρ' e' S', Rel X.K ρ' H' S' ∧ EnvRel X.K ρ' H' σ' e' ∧ PostS X.K X.mg W ρ' H' Dn (whileM mt sb m e' S'), ⟨n, ρ, e, S, R, he, q⟩, ?_⟩
    rintro m σ' H' ⟨ρ', e', S', R', he', q⟩
    cases m with
    | zero => exact q.elim
    | succ m =>
      unfold whileM at q
      refine ⟨ρ', e', S', he', R', (PostS.st R' he' q).mono fun t S1 ρ1 H1 f1 R1 q => ?_⟩
      cases t with
      | true =>
        rw [if_pos rfl] at q ⊢
        refine ⟨fun σ2 H2 => ∃ ρ' e' S', Rel X.K ρ' H2 S' ∧ EnvRel X.K ρ' H2 σ2 e' ∧ PostS X.K X.mg W ρ' H2 Dn (whileM mt sb m e' S'), fun σ2 H2 h => ⟨m, Nat.lt_succ_self _, h⟩, ρ1, e', S1, he'.fr R'.free f1, R1, PostS.step q fun ρ3 H3 e3 S3 σ3 f3 R3 he3 q3 => ⟨ρ3, e3, S3, R3, he3, q3⟩⟩
      | false =>
        rw [if_neg (by decide)] at q ⊢
        exact q ρ1 H1 σ' (Fr.refl _ _) R1 (he'.fr R'.free f1)
end
end M


set_option Elab.async false
set_option linter.all false
set_option maxRecDepth 100000
set_option maxHeartbeats 4000000
namespace M
open PySem PySem.Spec PyProof.Rows L2 RZ
variable [Tabs]

theorem Res.bind_assoc {α β γ : Type} (r : Res α) (f : α → Store → Res β) (g : β → Store → Res γ) : (r.bind f).bind g = r.bind fun a S => (f a S).bind g := by cases r <;> rfl
def noEx {α : Type} : Res α → Res α
  | .ok a S => .ok a S
  | _ => .bad
@[simp] theorem noEx_ok {α : Type} (a : α) (S : Store) : noEx (.ok a S) = .ok a S := rfl
@[simp] theorem noEx_ex {α : Type} (c : Str) (S : Store) : noEx (.ex c S : Res α) = .bad := rfl
@[simp] theorem noEx_bad {α : Type} : noEx (.bad : Res α) = .bad := rfl
/-- no exception -/
abbrev W0 : WX := fun _ _ _ _ => False
def wipeE (e : Env) : List Nat → Env
  | [] => e
  | v :: vs => (wipeE e vs).set v none
theorem wipeE_length (e : Env) : ∀ vs : List Nat, (wipeE e vs).length = e.length
  | [] => rfl
  | v :: vs => by unfold wipeE; rw [List.length_set, wipeE_length e vs]
theorem EnvRel.unset {K : PySem.W.Frag} {ρ : Rh} {H : Hp} {σ : L2.St} {e : Env} (h : EnvRel K ρ H σ e) (i : Nat) : EnvRel K ρ H (σ.set i none) (e.set i none) := by
  refine ⟨by simp [h.1], fun j d q => ?_⟩
  by_cases hj : i = j
  · subst hj
    have hi : i < e.length := by have := (List.getElem?_eq_some_iff.mp q).1; simpa using this
    rw [List.getElem?_set_self hi] at q; cases q
  · rw [List.getElem?_set_ne hj] at q
    rw [List.getElem?_set_ne hj]
    exact h.2 j d q
theorem EnvRel.wipe {K : PySem.W.Frag} {ρ : Rh} {H : Hp} {σ : L2.St} {e : Env} (h : EnvRel K ρ H σ e) : ∀ vs, EnvRel K ρ H (wipe σ vs) (wipeE e vs)
  | [] => h
  | v :: vs => (EnvRel.wipe h vs).unset v

theorem wipe_wipe {σ : L2.St} {vs : List Nat} : ∀ {us : List Nat}, (∀ i ∈ us, i ∈ vs) → wipe (wipe σ us) vs = wipe σ vs
  | [], _ => rfl
  | u :: us, h => by
    have e : wipe σ (u :: us) = (wipe σ us).set u none := rfl
    rw [e, wipe_set (h u (by simp)), wipe_wipe fun i hi => h i (List.mem_cons_of_mem _ hi)]
/-! ### what stands in a hidden list does not matter -/
section
variable {K : PySem.W.Frag} {ρ : Rh} {H : Hp} {p : Addr} {us ws : List V}
theorem sqt_ne {a : Addr} {vs : List V} {o : HO} (hp : H p = some (.lst us)) (h : SqT K H a vs) : SqT K (upd H p o) a vs := by
  rcases h with (h | ⟨q, h⟩) | h
  · exact .inl (.inl (by rw [upd_ne (fun z => by rw [z, hp] at h; cases h)]; exact h))
  · exact .inl (.inr ⟨q, by rw [upd_ne (fun z => by rw [z, hp] at h; cases h)]; exact h⟩)
  · exact .inr h
mutual
theorem RepD.putH (hp : H p = some (.lst us)) (mh : p ∈ ρ.h) : ∀ (d : D) (v : V), RepD K ρ H d v → RepD K ρ (upd H p (.lst ws)) d v
  | .non, _, h => by cases h; exact .non
  | .bl b, _, h => by cases h; exact .bl b
  | .int i, _, h => by cases h; exact .int i
  | .str x, _, h => by cases h; exact .str x
  | .tup ds, _, h => by
    cases h with
    | tup hs hd => exact .tup (sqt_ne hp hs) (RepDs.putH hp mh ds _ hd)
  | .lst ds, _, h => by
    cases h with
    | @lst a vs _ hs hn hh hd =>
      have ne : a ≠ p := fun z => hh (by rw [z]; exact mh)
      exact .lst (by rw [upd_ne ne]; exact hs) hn hh (RepDs.putH hp mh ds _ hd)
  | .fro ds, _, h => by
    cases h with
    | @fro a vs _ hs hn hh hd =>
      have ne : a ≠ p := fun z => hh (by rw [z]; exact mh)
      exact .fro (by
        rcases hs with hs | ⟨o, hs⟩
        · exact .inl (by rw [upd_ne ne]; exact hs)
        · exact .inr ⟨o, by rw [upd_ne ne]; exact hs⟩) hn hh (RepDs.putH hp mh ds _ hd)
    | frk hk hd => exact .frk hk (RepDs.putH hp mh ds _ hd)
  | .loc n, _, h => by
    cases h with
    | loc e => exact .loc e
  | .ref a, _, h => by cases h; exact .ref a
  | .ty n, _, h => by cases h; exact .ty n
theorem RepDs.putH (hp : H p = some (.lst us)) (mh : p ∈ ρ.h) : ∀ (ds : List D) (vs : List V), RepDs K ρ H ds vs → RepDs K ρ (upd H p (.lst ws)) ds vs
  | [], _, h => by cases h; exact .nil
  | d :: ds, _, h => by
    cases h with
    | cons h1 h2 => exact .cons (RepD.putH hp mh d _ h1) (RepDs.putH hp mh ds _ h2)
end
theorem Rel.putH {S : Store} (r : Rel K ρ H S) (hp : H p = some (.lst us)) (mh : p ∈ ρ.h) (hn : p ∉ ρ.l) : Rel K ρ (upd H p (.lst ws)) S :=
  ⟨r.len, r.nd, fun n o a e1 e2 => by
    have q := r.at_ n o a e1 e2
    have ne : a ≠ p := fun z => hn (z ▸ List.mem_of_getElem? e2)
    cases o with
    | lst ds => obtain ⟨vs, h1, h2⟩ := q; exact ⟨vs, by rw [upd_ne ne]; exact h1, RepDs.putH hp mh _ _ h2⟩,
   fun a m => by
    by_cases e : a = p
    · exact ⟨ws, by rw [e, upd_same]⟩
    · obtain ⟨vs, h1⟩ := r.hid a m
      exact ⟨vs, by rw [upd_ne e]; exact h1⟩,
   fun a m => by
    exact tabN_upd (r.tab a m) fun o' e => by rw [hp] at e; exact ⟨us, (Option.some.inj e).symm⟩⟩
theorem EnvRel.putH {σ : L2.St} {e : Env} (r : EnvRel K ρ H σ e) (hp : H p = some (.lst us)) (mh : p ∈ ρ.h) : EnvRel K ρ (upd H p (.lst ws)) σ e := ⟨r.1, fun i d q => let ⟨v, a, b⟩ := r.2 i d q; ⟨v, a, RepD.putH hp mh d v b⟩⟩
end

/-! ### the mirror -/
open Classical in
noncomputable def lcM (src : Src) (g : MG) (mt : MT) (me : ME) (e : Env) : List D → Store → Res (List D)
  | [], S => if src.ok S then .ok [] S else .bad
  | d :: ds, S => if src.ok S then match g d e S with
    | some e1 => (noEx (mt e1 S)).bind fun b S2 => if b = true then (noEx (me e1 S2)).bind fun y S3 => (lcM src g mt me e ds S3).bind fun ys S4 => .ok (y :: ys) S4 else lcM src g mt me e ds S2
    | none => .bad else .bad
noncomputable def mLc (mi : MI) (g : MG) (mt : MT) (me : ME) (vs : List Nat) : MA := fun e S => (mi e S).bind fun src S1 => if src.xs.length ≤ sizeLine then lcM src g mt me (wipeE e vs) src.xs S1 else .bad
def mYes : MT := fun _ S => .ok true S
abbrev TsM (X : Cx) (ifs : List Expr) (mt : MT) : Prop := PTs X ifs (tT X.K X.mg W0 mt)
theorem ptsm_nil {X : Cx} : TsM X [] mYes := ⟨fun pins s σ H Q I ⟨ρ, e, S, he, R, q⟩ => pts_nil.run pins s σ H Q I (q ρ H (Fr.refl _ _) R)⟩
theorem ptsm_one {X : Cx} {c : Expr} {mt : MT} (h : TM X W0 c mt) : TsM X [c] mt := pts_one h
section
variable {X : Cx} {W : WX} {mi : MI} {g : MG} {sl : List Nat} {mt : MT} {me : ME} {wi : TI}
theorem noEx_post {α : Type} {K : PySem.W.Frag} {mg : Str → Option Value} {P : α → Store → Rh → Hp → Prop} {ρ : Rh} {H : Hp} {σ : L2.St} {r : Res α} (h : ∀ a S, r = .ok a S → ∀ ρ' H', Fr ρ H ρ' H' → Rel K ρ' H' S → P a S ρ' H') (nb : ∃ a S, r = .ok a S) : Post K mg W0 P ρ H σ r := by
  obtain ⟨a, S, rfl⟩ := nb
  exact h a S rfl
theorem lc_imp {vs : List Nat} (hsl : ∀ i ∈ sl, i ∈ vs) {σ : L2.St} {H : Hp} {Q : VK} (h : tN X.K X.mg W (mLc mi g mt me vs) σ H Q) :
    tLc (tI X.K X.mg W mi) (tG X.K g sl) (tT X.K X.mg W0 mt) (tE X.K X.mg W0 me) vs σ H Q := by
  obtain ⟨ρ, e, S, he, R, q⟩ := h
  refine ⟨ρ, e, S, he, R, (PostN.bind q).mono fun src S1 ρ1 H1 f1 R1 q J hJ Dl hD => ?_⟩
  by_cases hz : src.xs.length ≤ sizeLine
  case neg => rw [if_neg hz] at q; exact q.elim
  rw [if_pos hz] at q
  have he1 := he.fr R.free f1
  have hDl := R1.newh hD
  -- the invariant
  let Iv : Nat → Hp → Prop := fun i H' => i ≤ src.xs.length ∧ ∃ ρ' S' accD accV, Fr ρ1 H1 ρ' H' ∧ Rel X.K (ρ'.hide Dl) H' S' ∧ Dl ∉ ρ'.l ∧ H' Dl = some (.lst accV) ∧ RepDs X.K (ρ'.hide Dl) H' accD accV ∧ accD.length ≤ i ∧
    PostN X.K X.mg W ρ1 H1 σ Q ((lcM src g mt me (wipeE e vs) (src.xs.drop i) S').bind fun ys S3 => .ok (accD ++ ys) S3)
  refine ⟨fun i m H' => m = src.xs.length - i ∧ Iv i H', ⟨_, rfl, Nat.zero_le _, ρ1, S1, [], [], Fr.laid hD, R1.laidH hD, hDl.1, upd_same, .nil, Nat.le_refl _, ?_⟩, ?_⟩
  · have e0 : (lcM src g mt me (wipeE e vs) (src.xs.drop 0) S1).bind (fun ys S3 => .ok ([] ++ ys) S3) = lcM src g mt me (wipeE e vs) src.xs S1 := by
      rw [List.drop_zero]
      cases lcM src g mt me (wipeE e vs) src.xs S1 <;> rfl
    rw [e0]; exact q
  rintro i m H' ⟨rfl, hi, ρ', S', accD, accV, f, R', hn, hH, rx, hl, q⟩
  have fh : FrH ρ1 H1 (ρ'.hide Dl) H' := .hide f hD
  rcases Nat.lt_or_ge i src.xs.length with hlt | hge
  · rw [List.drop_eq_getElem_cons hlt] at q
    unfold lcM at q
    by_cases hok : src.ok S'
    case neg => rw [if_neg hok] at q; exact q.elim
    rw [if_pos hok] at q
    obtain ⟨hgo, hy⟩ := hJ.go _ H' S' i _ fh R' hok (List.getElem?_eq_getElem hlt)
    refine .inr ⟨hgo, Iv (i + 1), fun H2 n => ⟨src.xs.length - (i + 1), by omega, rfl, n⟩, fun x H'' yy => ?_⟩
    obtain ⟨f2, R2, r2⟩ := hy x H'' yy
    cases hgd : g src.xs[i] (wipeE e vs) S' with
    | none => rw [hgd] at q; exact q.elim
    | some e1 =>
      rw [hgd] at q
      dsimp only at q
      have he2 : EnvRel X.K (ρ'.hide Dl) H'' (wipe σ vs) (wipeE e vs) := ((he1.frh R1.free fh).fr R'.free f2).wipe vs
      refine ⟨_, _, S', _, e1, he2, R2, r2, hgd, fun σ2 hσ2 hw => ⟨(hw vs hsl).trans (wipe_wipe fun _ h => h), ?_⟩⟩
      have hH2 : H'' Dl = some (.lst accV) := f2.keep _ _ hH hn fun _ z => by cases z
      have rx2 := RepDs.fr R'.free f2 _ _ rx
      -- a frame from ρ'.hide to one more
      have fr_of : ∀ {ρ3 H3}, Fr (ρ'.hide Dl) H'' ρ3 H3 → ∃ ρ4, ρ3 = ρ4.hide Dl ∧ Fr ρ1 H1 ρ4 H3 ∧ Dl ∉ ρ4.l ∧ H3 Dl = some (.lst accV) := fun {ρ3 H3} f3 => by
        obtain ⟨l, e3, hl3⟩ := f3.new
        refine ⟨⟨ρ'.l ++ l, ρ'.h⟩, e3, ?_, ?_, f3.keep _ _ hH2 hn fun _ z => by cases z⟩
        · refine f.trans ⟨⟨l, rfl, fun a m => ?_⟩, fun a o h n nt => f3.keep a o (f2.keep a o h n nt) n nt, fun a o h => let ⟨o', z⟩ := f2.live a o h; f3.live a o' z⟩
          cases z : H' a with
          | none => rfl
          | some o => obtain ⟨o', z'⟩ := f2.live a o z; rw [hl3 a m] at z'; cases z'
        · intro m
          rcases List.mem_append.mp m with m | m
          · exact hn m
          · rw [hl3 _ m] at hH2; cases hH2
      cases hm : mt e1 S' with
      | bad => rw [hm] at q; exact q.elim
      | ex c S2 => rw [hm] at q; exact q.elim
      | ok b S2 =>
        rw [hm] at q
        simp only [noEx_ok, Res.bind_ok] at q
        refine ⟨_, e1, S', hσ2, R2, ?_⟩
        rw [hm]
        intro ρ3 H3 f3 R3
        obtain ⟨ρ4, rfl, f4, hn4, hH4⟩ := fr_of f3
        have rx3 := RepDs.fr R2.free f3 _ _ rx2
        cases b with
        | false =>
          rw [if_neg (by decide)] at q ⊢
          exact ⟨hlt, ρ4, S2, accD, accV, f4, R3, hn4, hH4, rx3, Nat.le_succ_of_le hl, q⟩
        | true =>
          rw [if_pos rfl] at q ⊢
          cases hm2 : me e1 S2 with
          | bad => rw [hm2] at q; exact q.elim
          | ex c S3 => rw [hm2] at q; exact q.elim
          | ok y S3 =>
            rw [hm2] at q
            simp only [noEx_ok, Res.bind_ok] at q
            refine ⟨_, e1, S2, hσ2.fr R2.free f3, R3, ?_⟩
            rw [hm2]
            intro ρ5 H5 f5 R5 v r5
            obtain ⟨ρ6, rfl, f6, hn6, hH6⟩ := fr_of (f3.trans f5)
            have rx5 := RepDs.fr R3.free f5 _ _ rx3
            have hzV : accV.length < sizeLine := by rw [← rx5.length]; omega
            refine ⟨accV, hH6, hzV, hlt, ρ6, S3, accD ++ [y], accV ++ [v], ?_, R5.putH hH6 List.mem_cons_self hn6, hn6, upd_same, RepDs.putH hH6 List.mem_cons_self _ _ (rx5.append (.cons r5 .nil)), by simp; omega, ?_⟩
            · obtain ⟨l, e6, hl6⟩ := f6.new
              refine ⟨⟨l, e6, hl6⟩, fun a o h n nt => ?_, fun a o h => ?_⟩
              · have ne : a ≠ Dl := fun z => by rw [z, hD] at h; cases h
                rw [upd_ne ne]; exact f6.keep a o h n nt
              · have ne : a ≠ Dl := fun z => by rw [z, hD] at h; cases h
                rw [upd_ne ne]; exact f6.live a o h
            · rw [Res.bind_assoc] at q
              simp only [Res.bind_ok] at q
              have e7 : (fun (ys : List D) (S3 : Store) => (Res.ok (accD ++ [y] ++ ys) S3 : Res (List D))) = fun ys S3 => .ok (accD ++ y :: ys) S3 := by
                funext ys S3; simp
              rw [e7]; exact q
  · have e0 : i = src.xs.length := by omega
    subst e0
    rw [List.drop_length] at q
    unfold lcM at q
    by_cases hok : src.ok S'
    case neg => rw [if_neg hok] at q; exact q.elim
    rw [if_pos hok] at q
    simp only [Res.bind_ok, List.append_nil] at q
    exact .inl ⟨hJ.stop _ H' S' fh R' hok, q ρ' H' Dl accV f R' hD hn hH rx⟩
variable {elt tg iter : Expr} {ifs : List Expr} {scope : Scope} {own : List (Str × Nat)} {pos spos py : Pos} {i : Nat} {y : Str}
theorem nm_lc (own : List (Str × Nat)) (hc : X.calm = true) (hN : X.N.Nodup) (hi : IM X W tg iter mi) (ok : BlkOk X.N X.env.scope scope own) (hsl : ∀ i ∈ sl, i ∈ own.map (·.2))
    (hg : ∀ (s : Shared) (H : Hp) (C : Addr) (cl : List (Str × Addr)) (fp : List Addr), GM (X.blk s H scope (compEnvC scope cl C X.env) fp) tg g sl) (ht : ∀ (s : Shared) (H : Hp) (C : Addr) (cl : List (Str × Addr)) (fp : List Addr), TsM (X.blk s H scope (compEnvC scope cl C X.env) fp) ifs mt)
    (he : ∀ (s : Shared) (H : Hp) (C : Addr) (cl : List (Str × Addr)) (fp : List Addr), EM (X.blk s H scope (compEnvC scope cl C X.env) fp) W0 elt me) (hs : ∀ x, foldedSetIterable iter X.env x = pure x := by intro _; rfl) :
    NM X W (.ListComp elt [⟨tg, iter, ifs, 0⟩] scope pos) (mLc mi g mt me (own.map (·.2))) :=
  pe_imp (pe_lc hc hN hi ok hg ht he hs) fun σ H Q h => lc_imp hsl h
theorem tN_set {ma : MA} {Dn : Ends} {σ : L2.St} {H : Hp} (f : MA → ME) (hf : f = asV ∨ f = asL)
    (h : tS X.K X.mg W (sSet (gN i) (f ma)) Dn σ H) : tN X.K X.mg W ma σ H fun v H1 => gName i v σ H1 Dn.nx := by
  have key : tE X.K X.mg W (f ma) σ H fun v H1 => gName i v σ H1 Dn.nx :=
    tE_st (k := fun d e S1 => (gN i d e S1).bind fun e1 => some (.nx, e1, S1)) (fun ρ H d v e S he R r q => q ρ H _ (Fr.refl _ _) R (he.set i r)) h
  obtain ⟨ρ, e, S, he, R, q⟩ := key
  refine ⟨ρ, e, S, he, R, ?_⟩
  rcases hf with rfl | rfl
  · unfold asV at q
    cases hk : ma e S with
    | bad => rw [hk] at q; exact q
    | ex c S1 => rw [hk] at q; exact q
    | ok ds S1 =>
      rw [hk] at q
      exact fun ρ' H' p vs f R' hp hn e1 r => q ρ' H' f R'.unhide _ (.lst e1 hn (fun m => by
        obtain ⟨ws, z⟩ := R.hid p (by rw [← f.hid]; exact m)
        rw [hp] at z; cases z) (RepDs.sees Sees.unhide _ _ r))
  · unfold asL at q
    cases hk : ma e S with
    | bad => rw [hk] at q; exact q
    | ex c S1 => rw [hk] at q; exact q
    | ok ds S1 =>
      rw [hk] at q
      exact fun ρ' H' p vs f R' hp hn e1 r => q _ H' (f.shown hp) (R'.shown hn e1 r) _ (.loc (by
        show (ρ'.l ++ [p])[S1.length]? = some p
        have : ρ'.l.length = S1.length := R'.len
        rw [List.getElem?_append_right (by omega), this]; simp))
/-- y = [..] -/
theorem sm_setLc (f : MA → ME) (hf : f = asV ∨ f = asL) (own : List (Str × Nat)) (hc : X.calm = true) (hN : X.N.Nodup) (hy : X.N[i]? = some y) (hyl : X.env.scope.names.lookup y = some .local)
    (hsw : swapsWith (.ListComp elt [⟨tg, iter, ifs, 0⟩] scope pos) (some (.Name y py)) spos.line X.env = pure true) (hi : IM X W tg iter mi) (ok : BlkOk X.N X.env.scope scope own) (hsl : ∀ i ∈ sl, i ∈ own.map (·.2))
    (hg : ∀ (s : Shared) (H : Hp) (C : Addr) (cl : List (Str × Addr)) (fp : List Addr), GM (X.blk s H scope (compEnvC scope cl C X.env) fp) tg g sl) (ht : ∀ (s : Shared) (H : Hp) (C : Addr) (cl : List (Str × Addr)) (fp : List Addr), TsM (X.blk s H scope (compEnvC scope cl C X.env) fp) ifs mt)
    (he : ∀ (s : Shared) (H : Hp) (C : Addr) (cl : List (Str × Addr)) (fp : List Addr), EM (X.blk s H scope (compEnvC scope cl C X.env) fp) W0 elt me) (hs : ∀ x, foldedSetIterable iter X.env x = pure x := by intro _; rfl) :
    SM X W (.Assign [.Name y py] (.ListComp elt [⟨tg, iter, ifs, 0⟩] scope pos) spos) (sSet (gN i) (f (mLc mi g mt me (own.map (·.2))))) :=
  ps_imp (ps_setLc hc hN hy hyl hsw hi ok hg ht he hs) fun Dn σ H h => lc_imp hsl (tN_set f hf h)
end
end M


set_option Elab.async false
set_option linter.all false
set_option maxRecDepth 100000
set_option maxHeartbeats 4000000
namespace M
open PySem PySem.Spec PyProof.Rows L2 GenW
variable [Tabs]

/-- the context of a generator expression's frame -/
abbrev genCx (X : Cx) (s : Shared) (H : Hp) (cenv : PySem.Env) (fp : List Addr) (p : Addr × Obj) : Cx :=
  { X with A := X.A.in1.in1.deeper cenv, s_0 := s, H_0 := H, env := cenv, outer := X.stack, stack := cenv :: X.stack, ex := fp, fn := fun _ => false, pn := [p], xe := fun _ _ => False }
theorem over_gen {A : Around} {elt : Expr} {gs : List Comprehension} {scope : Scope} {pos : Pos} {it acc : Value} {env : PySem.Env} : A.over (.compLoop (.GeneratorExp elt gs scope pos) 0 it acc env) [] = A.deeper env := by
  first
    | rfl
    | (obtain ⟨hd, d, fr, gs, u⟩ := A; simp [Around.over, Around.deeper, marksOver, frameCount, unitsOf, envsOf, guardsOf, pushEnvs, pushGuards, Code.envs, Code.env?, Code.isFrame, Code.guards, Code.isGuard, Code.weight, Code.frames, Code.isCreation, Code.isCaller, Code.cUnits])
section
variable {X : Cx} {pins : List (Addr × Obj)} {σ : L2.St} {H : Hp} {s : Shared}
theorem gen_start {scope : Scope} {own : List (Str × Nat)} {fp : List Addr} (I : Inv X pins σ H s) (ok : BlkOk X.N X.env.scope scope own) (hN : X.N.Nodup) (hfp : ∀ b ∈ fp, FpOk X pins H b ∧ b < s.heap.objs.size)
    (hcell : ∀ y ∈ scope.names, y.2 ≠ .cell) (hh : X.A.handled = none) {h' : Heap} {it code : Value}
    (hn' : h'.Ns s.heap.objs.size (fun y => if y = ".0" then some it else none)) (hs' : Heap.SameBut s.heap.objs.size (s.heap.push { cls := .type "frame", data := .dict #[] }) h')
    (go : Obj) (hgd : ∀ v, go.data ≠ .cell v) (hgf : (h'.push go).get? h'.objs.size = some go) (gs : GenState) (hgb : gs.bare = true) (tk : Nat) :
    Inv (genCx X s H (genEnv scope (cloFrom X.env.cells scope.names []) s.heap.objs.size code builtinsNs X.env) fp (h'.objs.size, go)) [] (wipe σ (own.map (·.2))) H { s with gens := s.gens.push gs, toks := tk, heap := h'.push go } := by
  have hsz : h'.objs.size = s.heap.objs.size + 1 := by rw [hs'.1, Heap.size_push]
  have kp : ∀ b o, s.heap.get? b = some o → (h'.push go).get? b = some o := fun b o e => Heap.get?_push_of_some _ (hs'.extBut b o (Nat.ne_of_lt (Heap.lt_size e)) (Heap.get?_push_of_some _ e))
  have hfree : ∀ y ∈ scope.names, y.2 = .free → ∃ c, X.env.cells.lookup y.1 = some c := fun y hy e => by
    rcases ok.free y hy e with k | k
    · exact I.ok.has _ (.inl k)
    · exact I.ok.has _ (.inr k)
  generalize hcenv : genEnv scope (cloFrom X.env.cells scope.names []) s.heap.objs.size code builtinsNs X.env = cenv
  have hL : cenv.locals = s.heap.objs.size := by rw [← hcenv]; rfl
  have hfr : cenv.frame = some s.heap.objs.size := by rw [← hcenv]; rfl
  have hcl : cenv.cells = cloFrom X.env.cells scope.names [] := by rw [← hcenv]; rfl
  have hsc : cenv.scope = scope := by rw [← hcenv]; rfl
  have cm : ∀ {y c}, (y, c) ∈ cloFrom X.env.cells scope.names [] → X.env.cells.lookup y = some c ∧ c < s.heap.objs.size := fun {y c} hm => by
    rcases cloFrom_mem hm with hm | ⟨h1, rfl⟩
    · cases hm
    · obtain ⟨c, hc⟩ := hfree _ h1 rfl
      rw [hc]
      obtain ⟨w, z⟩ := I.cell _ _ hc
      exact ⟨rfl, z.lt⟩
  have mem : ∀ {y c}, cenv.cells.lookup y = some c → X.env.cells.lookup y = some c ∧ c < s.heap.objs.size := fun {y c} e => by
    rw [hcl] at e
    exact cm (PySem.mem_of_lookup e)
  have look : ∀ {y}, scope.names.lookup y = some .free → ∃ c, cenv.cells.lookup y = some c ∧ X.env.cells.lookup y = some c := fun {y} hl => by
    have hy : (y, NameKind.free) ∈ scope.names := PySem.mem_of_lookup hl
    obtain ⟨c', e'⟩ := mem_lookup (cloFrom_has (cells := X.env.cells) (acc := []) hy)
    rw [← hcl] at e'
    exact ⟨c', e', (mem e').1⟩
  have young : ∀ b, s.heap.objs.size ≤ b → H b = none ∧ b ∉ frs X.stack := fun b hb => ⟨I.hok.fresh hb, fun m => by
    rcases List.mem_cons.mp (I.stkSub b m) with z | z
    · have := I.lt; rw [z] at hb; exact absurd (Nat.lt_of_lt_of_le this hb) (Nat.lt_irrefl _)
    · exact I.nofs hb z⟩
  have hlt : s.heap.objs.size < h'.objs.size := by rw [hsz]; exact Nat.lt_succ_self _
  have okG : (genCx X s H cenv fp (h'.objs.size, go)).Ok := by
    refine ⟨I.ok.mod, by show cenv.scope.kind = _; rw [hsc]; exact ok.kind, by show cenv.globals = _; rw [← hcenv]; exact I.ok.glob, by show cenv.builtins = _; rw [← hcenv]; rfl, by show s.heap.objs.size ≤ cenv.locals; rw [hL]; exact Nat.le_refl _,
      fun y z c e1 e2 => I.ok.inj y z c (mem e1).1 (mem e2).1, fun y hy => ?_, fun y c z e => ?_, fun _ => hh, ?_, .inr ⟨rfl, by show cenv.frame = some cenv.locals; rw [hfr, hL]⟩,
      fun b hb => ⟨by show b ≠ cenv.locals; rw [hL]; exact Nat.ne_of_lt (hfp b hb).2, fun y c e => (hfp b hb).1.2.2.2.2.1 y c (mem e).1⟩, I.bs, Nat.le_trans I.ok.bsz I.sz, fun b o e hb => ?_, fun b hb z => ?_, I.stack, I.stkFree⟩
    · show ∃ c, cenv.cells.lookup y = some c
      have hk : scope.names.lookup y = some .cell ∨ scope.names.lookup y = some .free := by rw [← hsc]; exact hy
      rcases hk with k | k
      · exact absurd rfl (hcell _ (PySem.mem_of_lookup k))
      · obtain ⟨c, h1, _⟩ := look k; exact ⟨c, h1⟩
    · cases z
    · show (X.A.in1.in1.deeper cenv).frames = some (cenv :: X.stack)
      exact Around.frames_deeper I.ok.frames
    · rcases (hfp b hb).1.2.2.2.1 with z | z
      · exact I.ok.noex b o e z
      · exact absurd (Nat.lt_of_lt_of_le (Heap.lt_size e) (Nat.le_trans I.ok.bsz z)) (Nat.lt_irrefl _)
    · rcases List.mem_cons.mp (I.stkSub b z) with z | z
      · exact (hfp b hb).1.2.1 z
      · exact (hfp b hb).1.2.2.1 z
  refine ⟨okG, rfl, AllBare.push I.bare hgb, Un.kept kp, ⟨fun y => if y = ".0" then some it else none, ?_, fun i y av e1 e2 e3 => ?_⟩, fun y c e => ?_, ?_, fun y c e => ?_, fun p hp => ?_, I.hok.kept kp, by rw [wipe_length]; exact I.len⟩
  · show Heap.Ns _ cenv.locals _
    rw [hL]; exact hn'.push _
  · obtain ⟨e2, hne⟩ := wipe_some e2
    have e3 : scope.names.lookup y = some .local ∨ scope.names.lookup y = some .cell ∨ scope.names.lookup y = some .free := by rw [← hsc]; exact e3
    have no : ∀ k, scope.names.lookup y = some k → ¬ (k = .local ∨ k = .cell) := fun k e hh => by
      rcases ok.own _ (PySem.mem_of_lookup e) hh with e' | e'
      · obtain ⟨p, hp, hpy⟩ := List.mem_map.mp e'
        have e3 := ok.ix p hp
        have : p.1 = y := hpy
        rw [this] at e3
        exact hne (List.mem_map.mpr ⟨p, hp, nodup_ix hN e3 e1⟩)
      · exact e' (List.mem_of_getElem? e1)
    have hf : scope.names.lookup y = some .free := by
      rcases e3 with k | k | k
      · exact absurd (.inl rfl) (no _ k)
      · exact absurd (.inr rfl) (no _ k)
      · exact k
    obtain ⟨m, hn, hl⟩ := I.loc
    have hvis : Vis X.env.scope y := (ok.free _ (PySem.mem_of_lookup hf) rfl).elim (fun k => .inr (.inl k)) (fun k => .inr (.inr k))
    obtain ⟨w, r, q⟩ := hl i y av e1 e2 hvis
    refine ⟨w, r, .inr ⟨.inr (by show cenv.scope.names.lookup y = _; rw [hsc]; exact hf), ?_⟩⟩
    obtain ⟨c, h1, h2⟩ := look hf
    rcases q with ⟨k, _⟩ | ⟨_, c', e', z⟩
    · have k : X.env.scope.names.lookup y = some .local := k
      rcases ok.free _ (PySem.mem_of_lookup hf) rfl with k' | k' <;> rw [show X.env.scope.names.lookup y = _ from k'] at k <;> cases k
    · rw [h2] at e'; cases e'
      exact ⟨c, h1, z.keeps kp⟩
  · obtain ⟨w, z⟩ := I.cell y c (mem e).1
    exact ⟨w, z.keeps kp⟩
  · show H cenv.locals = none
    rw [hL]; exact (young _ (Nat.le_refl _)).1
  · exact I.freeC y c (mem e).1
  · have hp : p = (h'.objs.size, go) := by simpa using hp
    subst hp
    exact ⟨hgf, (young _ (Nat.le_of_lt hlt)).1, by show h'.objs.size ≠ cenv.locals; rw [hL]; exact Nat.ne_of_gt hlt, (young _ (Nat.le_of_lt hlt)).2, hgd⟩
end

/-! ### the generator's turns -/
section
variable {X : Cx}
/-- what stays true between the turns -/
def genW (J : It) (g : TG) (te : TE) (stp : Bool) (Q : VK) (σw : L2.St) (vs : List Nat) (W : Nat → Nat → Hp → Prop) : Prop := ∀ i m H, W i m H → (J.stop i H ∧ Q (.bl (!stp)) H) ∨
  (J.go i H ∧ ∀ x H', J.yld i H x H' → g x σw H' fun σ2 H2 => wipe σ2 vs = σw ∧ te σ2 H2 fun y H4 => ∃ b, y = .bl b ∧ if b = stp then Q (.bl stp) H4 else ∃ m', m' < m ∧ W (i + 1) m' H4)
def genR (Xg : Cx) (σw : L2.St) (stp : Bool) (Q : VK) : GenEnd := fun n s₀ r s => r = .ok .next ∧ ∃ H, Inv Xg [] σw H s ∧ Q (.bl (!stp)) H
def genY (Xg : Cx) (σw : L2.St) (stp : Bool) (Q : VK) : Protocol := fun n s₀ v s kap => ∃ b H, v = .bool b ∧ Inv Xg [] σw H s ∧ if b = stp then Q (.bl stp) H else ∀ s', s'.heap = s.heap → s'.os = s.os → AllBare s'.gens → kap (.send .none) s'
theorem inv_same {pins : List (Addr × Obj)} {σ : L2.St} {H : Hp} {s s' : Shared} (I : Inv X pins σ H s) (e : s'.heap = s.heap) (o : s'.os = s.os) (b : AllBare s'.gens) : Inv X pins σ H s' :=
  I.call' (ch := []) o (Un.kept fun c ob q => by rw [e]; exact q) (I.hok.kept fun c ob q => by rw [e]; exact q) b fun b hb => by simp at hb
theorem seg_gen {s0 : Shared} {H0 : Hp} {cenv : PySem.Env} {fp : List Addr} {p : Addr × Obj} {elt tg iter : Expr} {scope : Scope} {pos : Pos} {it : Addr} {J : It} {tn : Nat → Heap → Prop} {g : TG} {te : TE} {stp : Bool} {Q : VK} {σ : L2.St} {vs : List Nat} {W : Nat → Nat → Hp → Prop}
    (hc : X.calm = true) (T : Turn X.prog X.w X.K tg J fp it tn) (hg : PG (genCx X s0 H0 cenv fp p) tg g) (he : PE (genCx X s0 H0 cenv fp p) elt te) (hco : cenv.scope.isCoroutine = false) (hfp : ∀ b ∈ fp, b ≠ p.1) (hW : genW J g te stp Q (wipe σ vs) vs W) :
    ∀ (m n i : Nat) (s₀ s : Shared) (H : Hp), m < n → W i m H → Inv (genCx X s0 H0 cenv fp p) [] (wipe σ vs) H s → tn i s.heap → (∀ b ∈ fp, H b = none) →
      Seg (model X.prog X.w) X.A.in1.in1 (genR (genCx X s0 H0 cenv fp p) (wipe σ vs) stp Q) (genY (genCx X s0 H0 cenv fp p) (wipe σ vs) stp Q) n s₀
        (.compLoop (.GeneratorExp elt [⟨tg, iter, [], 0⟩] scope pos) 0 (.ref it) .none cenv) ((model X.prog X.w).den (.compLoop (.GeneratorExp elt [⟨tg, iter, [], 0⟩] scope pos) 0 (.ref it) .none cenv)) [] s := by
  have stat : ∀ {σ' : L2.St} {H' : Hp} {s' : Shared}, Inv (genCx X s0 H0 cenv fp p) [] σ' H' s' → (∀ b ∈ fp, H' b = none) → (∀ b ∈ fp, b ≠ p.1) → ∀ b ∈ fp, FpOk (genCx X s0 H0 cenv fp p) [] H' b := fun {σ' H' s'} I' hn hp b hb =>
    ⟨hn b hb, (I'.ok.exf b hb).1, I'.ok.exfs b hb, .inl hb, fun x c e => (I'.ok.exf b hb).2 x c e, fun q hq => by
      have : q = p := by simpa using hq
      rw [this]; exact (hp b hb).symm⟩
  intro m
  induction m using Nat.strongRecOn with
  | ind m ih =>
  intro n i s₀ s H hmn w I st fr
  show Seg _ X.A.in1.in1 _ _ _ s₀ _ ((compTurn (.GeneratorExp elt [⟨tg, iter, [], 0⟩] scope pos) 0 (.ref it) .none cenv).onRaise (leaving cenv)) [] s
  rw [compTurn_gen, Sem.onRaise_eq_wrap]
  refine seg_bind_wrap (wpAny_standAt ?_)
  rcases hW i m H w with ⟨stop, q⟩ | ⟨go, step⟩
  · refine seg_bind_wrap ?_
    rw [over_gen]
    refine thnF (T.done (genCx X s0 H0 cenv fp p) rfl rfl rfl hc i [] s _ H (fun _ _ => False) I (stat I fr hfp) st stop) fun r s1 ⟨hr, I1⟩ => ?_
    subst hr
    exact seg_end (.ok .next) ⟨rfl, H, I1, q⟩
  · obtain ⟨n, rfl⟩ : ∃ n', n = n' + 1 := ⟨n - 1, by omega⟩
    refine seg_bind_wrap ?_
    rw [over_gen]
    refine thnF (T.item (genCx X s0 H0 cenv fp p) rfl rfl rfl hc i [] s _ H (fun _ _ => False) I (stat I fr hfp) st go) fun r s1 ⟨u, hr, h1⟩ => ?_
    subst hr
    refine seg_bind_wrap ?_
    rw [over_gen]
    refine thnF h1 fun _ s2 ⟨x, H2, I2, r2, y2, st2, fr2⟩ => ?_
    have I2' := I2.pinned (stat I2 fr2 hfp) (T.obj _ _ st2)
    refine seg_bind_wrap ?_
    rw [over_gen]
    refine thnF (hg.run _ s2 _ H2 x u _ I2' r2 (step x H2 y2)) fun _ s3 ⟨σ3, H3, I3, hw3, q3⟩ => ?_
    refine seg_bind_wrap (wpAny_tests_nil ?_)
    simp only [if_true]
    have hy : ∀ v, yieldOut cenv v = yieldValue v := fun v => by simp only [yieldOut, hco, Bool.false_eq_true, if_false]
    simp only [hy]
    rw [Sem.bind_eq_wrap', Sem.bind_eq_wrap', Sem.wrap_wrap, Sem.wrap_wrap]
    refine seg_wrap ?_
    rw [over_gen]
    refine thnF (he.run _ s3 σ3 H3 _ I3 q3) fun v s4 ⟨yv, H4, I4, r4, b, hb, q4⟩ => ?_
    subst hb
    obtain rfl : v = .bool b := r4
    have pin' : ∀ a ∈ fp, ∀ o, s2.heap.get? a = some o → s4.heap.get? a = some o ∧ H4 a = none := fun a ha o e =>
      let z := I4.pin (a, o) (List.mem_append_right _ (List.mem_append_right _ (mem_pinsAt ha e)))
      ⟨z.1, z.2.1⟩
    have hl : (wipe σ vs).length = σ3.length := by rw [← hw3, wipe_length]
    have I5 : Inv (genCx X s0 H0 cenv fp p) [] (wipe σ vs) H4 s4 := (I4.unpinned (pins := [])).weak hl fun j v e => by
      rw [← hw3] at e
      exact (wipe_some e).1
    refine seg_at (seg_yield rfl rfl rfl ⟨b, H4, rfl, I5, ?_⟩)
    by_cases hbs : b = stp
    · rw [if_pos hbs] at q4 ⊢
      exact q4
    · rw [if_neg hbs] at q4 ⊢
      obtain ⟨m', hm, w'⟩ := q4
      intro s' e1 e2 e3
      refine seg_again rfl (ih m' hm n (i + 1) s' s' H4 (by omega) w' (inv_same I5 e1 e2 e3) ?_ fun a ha => ?_)
      · rw [e1]; exact T.keep _ _ _ st2 fun a ha o e => (pin' a ha o e).1
      · obtain ⟨o, e, _⟩ := T.obj _ _ st2 a ha
        exact (pin' a ha o e).2
/-! ### all, any: who asks -/
def GSt (Xg : Cx) (A : Around) (σw : L2.St) (stp : Bool) (Q : VK) (g : Nat) (n : Nat) (s : Shared) : Prop :=
  (∃ H, Inv Xg [] σw H s) ∧ ∃ gs, s.gens[g]? = some gs ∧ gs.Goes (model Xg.prog Xg.w) A (genR Xg σw stp Q) (genY Xg σw stp Q) n (.send .none) (s.setGen g .running)
theorem all_go {Xg : Cx} {A : Around} {σw : L2.St} {Q : VK} {a : Addr} {g : Nat} {R' : Result → Shared → Prop} (hh : A.handled = none) (hd : A.depth < recursionLimit) (hga : ∀ s H, Inv Xg [] σw H s → s.heap.IsGen a g)
    (fin : ∀ b s' H, Inv Xg [] σw H s' → Q (.bl b) H → R' (.ok (.ret (.bool b))) s') : ∀ (n : Nat) (s : Shared), GSt Xg A.in1.in1 σw false Q g n s → codeAny (model Xg.prog Xg.w) A (.builtin "all.loop" ⟨[.ref a], []⟩) R' s := by
  intro n
  induction n with
  | zero =>
    intro s ⟨⟨H, I⟩, gs, hgs, hgo⟩
    refine codeAny_builtin F.entry_all_loop ?_
    rw [Around.under_plainId F.plain_all_loop _]
    show wpAny _ A.in1 (pyNext (.ref a) >>= _) _ _ s
    refine wpAny_bind (wpAny_pyNext_genexpQ (A := A.in1) hh I.nolimit hd (hga s H I) hgs hgo (fun v s₁ gs' hb hv => ?_) fun s₁ hp h' hk => ?_)
    · obtain ⟨b, H1, rfl, I1, q⟩ := hv
      refine wpAny_bind (wpAny_holding (wpAny_truthy_bool ?_))
      refine wpAny_bind (wpAny_letGo ?_)
      cases b with
      | true =>
        rw [if_neg (by decide)] at q
        exact (q s₁ rfl rfl I1.bare).elim
      | false =>
        simp only [Bool.false_eq_true, if_false]
        refine wpAny_bind (wpAny_rule (wpAny_pure ?_))
        rw [if_pos rfl] at q
        exact fin false _ H1 (inv_same I1 rfl rfl (allBare_setGen I1.bare hb)) q
    · obtain ⟨H1, I1, q⟩ := hp
      refine wpAny_bind (wpAny_rule (wpAny_pure ?_))
      exact fin true _ H1 (I1.call' (ch := []) rfl (Un.kept hk) (I1.hok.kept hk) (allBare_setGen I1.bare rfl) fun b hb => by simp at hb) q
  | succ n ih =>
    intro s ⟨⟨H, I⟩, gs, hgs, hgo⟩
    have hgl : g < s.gens.size := (Array.getElem?_eq_some_iff.mp hgs).1
    refine codeAny_builtin F.entry_all_loop ?_
    rw [Around.under_plainId F.plain_all_loop _]
    show wpAny _ A.in1 (pyNext (.ref a) >>= _) _ _ s
    refine wpAny_bind (wpAny_gsz (n := g + 1) hgl (wpAny_pyNext_genexpQ (A := A.in1) hh I.nolimit hd (hga s H I) hgs hgo (fun v s₁ gs' hb hv => ?_) fun s₁ hp h' hk => ?_))
    · intro hsz
      obtain ⟨b, H1, rfl, I1, q⟩ := hv
      refine wpAny_bind (wpAny_holding (wpAny_truthy_bool ?_))
      refine wpAny_bind (wpAny_letGo ?_)
      have hgl : g < s₁.gens.size := by
        have q : (s₁.setGen g gs').gens.size = s₁.gens.size := setGen_size _ _ _
        have hsz' : g + 1 ≤ (s₁.setGen g gs').gens.size := hsz
        omega
      cases b with
      | true =>
        rw [if_neg (by decide)] at q
        simp only [if_true]
        refine wpAny_pure ⟨plainId_quiet F.plain_all_loop _, ih _ ⟨⟨H1, inv_same I1 rfl rfl (allBare_setGen I1.bare hb)⟩, gs', setGen_at hgl, ?_⟩⟩
        exact q _ rfl rfl (allBare_setGen (allBare_setGen I1.bare hb) rfl)
      | false =>
        simp only [Bool.false_eq_true, if_false]
        refine wpAny_bind (wpAny_rule (wpAny_pure ?_))
        rw [if_pos rfl] at q
        exact fin false _ H1 (inv_same I1 rfl rfl (allBare_setGen I1.bare hb)) q
    · intro hsz
      obtain ⟨H1, I1, q⟩ := hp
      refine wpAny_bind (wpAny_rule (wpAny_pure ?_))
      exact fin true _ H1 (I1.call' (ch := []) rfl (Un.kept hk) (I1.hok.kept hk) (allBare_setGen I1.bare rfl) fun b hb => by simp at hb) q
theorem any_go {Xg : Cx} {A : Around} {σw : L2.St} {Q : VK} {a : Addr} {g : Nat} {R' : Result → Shared → Prop} (hh : A.handled = none) (hd : A.depth < recursionLimit) (hga : ∀ s H, Inv Xg [] σw H s → s.heap.IsGen a g)
    (fin : ∀ b s' H, Inv Xg [] σw H s' → Q (.bl b) H → R' (.ok (.ret (.bool b))) s') : ∀ (n : Nat) (s : Shared), GSt Xg A.in1.in1 σw true Q g n s → codeAny (model Xg.prog Xg.w) A (.builtin "any.loop" ⟨[.ref a], []⟩) R' s := by
  intro n
  induction n with
  | zero =>
    intro s ⟨⟨H, I⟩, gs, hgs, hgo⟩
    refine codeAny_builtin F.entry_any_loop ?_
    rw [Around.under_plainId F.plain_any_loop _]
    show wpAny _ A.in1 (pyNext (.ref a) >>= _) _ _ s
    refine wpAny_bind (wpAny_pyNext_genexpQ (A := A.in1) hh I.nolimit hd (hga s H I) hgs hgo (fun v s₁ gs' hb hv => ?_) fun s₁ hp h' hk => ?_)
    · obtain ⟨b, H1, rfl, I1, q⟩ := hv
      refine wpAny_bind (wpAny_holding (wpAny_truthy_bool ?_))
      refine wpAny_bind (wpAny_letGo ?_)
      cases b with
      | false =>
        rw [if_neg (by decide)] at q
        exact (q s₁ rfl rfl I1.bare).elim
      | true =>
        simp only [if_true]
        refine wpAny_bind (wpAny_rule (wpAny_pure ?_))
        rw [if_pos rfl] at q
        exact fin true _ H1 (inv_same I1 rfl rfl (allBare_setGen I1.bare hb)) q
    · obtain ⟨H1, I1, q⟩ := hp
      refine wpAny_bind (wpAny_rule (wpAny_pure ?_))
      exact fin false _ H1 (I1.call' (ch := []) rfl (Un.kept hk) (I1.hok.kept hk) (allBare_setGen I1.bare rfl) fun b hb => by simp at hb) q
  | succ n ih =>
    intro s ⟨⟨H, I⟩, gs, hgs, hgo⟩
    have hgl : g < s.gens.size := (Array.getElem?_eq_some_iff.mp hgs).1
    refine codeAny_builtin F.entry_any_loop ?_
    rw [Around.under_plainId F.plain_any_loop _]
    show wpAny _ A.in1 (pyNext (.ref a) >>= _) _ _ s
    refine wpAny_bind (wpAny_gsz (n := g + 1) hgl (wpAny_pyNext_genexpQ (A := A.in1) hh I.nolimit hd (hga s H I) hgs hgo (fun v s₁ gs' hb hv => ?_) fun s₁ hp h' hk => ?_))
    · intro hsz
      obtain ⟨b, H1, rfl, I1, q⟩ := hv
      refine wpAny_bind (wpAny_holding (wpAny_truthy_bool ?_))
      refine wpAny_bind (wpAny_letGo ?_)
      have hgl : g < s₁.gens.size := by
        have q : (s₁.setGen g gs').gens.size = s₁.gens.size := setGen_size _ _ _
        have hsz' : g + 1 ≤ (s₁.setGen g gs').gens.size := hsz
        omega
      cases b with
      | false =>
        rw [if_neg (by decide)] at q
        simp only [Bool.false_eq_true, if_false]
        refine wpAny_pure ⟨plainId_quiet F.plain_any_loop _, ih _ ⟨⟨H1, inv_same I1 rfl rfl (allBare_setGen I1.bare hb)⟩, gs', setGen_at hgl, ?_⟩⟩
        exact q _ rfl rfl (allBare_setGen (allBare_setGen I1.bare hb) rfl)
      | true =>
        simp only [if_true]
        refine wpAny_bind (wpAny_rule (wpAny_pure ?_))
        rw [if_pos rfl] at q
        exact fin true _ H1 (inv_same I1 rfl rfl (allBare_setGen I1.bare hb)) q
    · intro hsz
      obtain ⟨H1, I1, q⟩ := hp
      refine wpAny_bind (wpAny_rule (wpAny_pure ?_))
      exact fin false _ H1 (I1.call' (ch := []) rfl (Un.kept hk) (I1.hok.kept hk) (allBare_setGen I1.bare rfl) fun b hb => by simp at hb) q
end
end M


set_option Elab.async false
set_option linter.all false
set_option maxRecDepth 100000
set_option maxHeartbeats 4000000
namespace M
open PySem PySem.Spec PyProof.Rows L2 GenW
variable [Tabs]
section
variable {X : Cx} {pins : List (Addr × Obj)} {σ : L2.St} {H : Hp} {s : Shared}
/-- nothing, or one more code object in a table, with an empty table of its own -/
def Grown (H H' : Hp) : Prop := H' = H ∨ ∃ (P : Addr) (ps : Array Value) (pos : Pos) (c P' : Addr), H P = some (.tbl ps) ∧ TriplesOk ps.toList ∧ TriplesOk (ps ++ #[rawInt pos.line, rawInt pos.col, .ref c]).toList ∧ H c = none ∧ H P' = none ∧ c ≠ P' ∧
  H' = upd (upd (upd H P (.tbl (ps ++ #[rawInt pos.line, rawInt pos.col, .ref c]))) c (CodeX c P')) P' (.tbl #[])
theorem codeHd_stay {h1 h2 : Heap} {c P : Addr} (x : PySem.W.CodeHd h1 c P) (k : ∀ o, h1.get? c = some o → h2.get? c = some o) : PySem.W.CodeHd h2 c P := by
  obtain ⟨o, vs, file, tf, flags, tg, inF, text, tt, e, r⟩ := x
  exact ⟨o, vs, file, tf, flags, tg, inF, text, tt, k o e, r⟩
theorem inv_grow {P c P' : Addr} {ps : Array Value} {pos : Pos} {h' : Heap} {t' : Nat} (I : Inv X pins σ H s) (hP : H P = some (.tbl ps)) (k : ∀ b o, b ≠ P → s.heap.get? b = some o → h'.get? b = some o)
    (hm : h'.get? P = some { cls := .none, data := .fields (ps ++ #[rawInt pos.line, rawInt pos.col, .ref c]) }) (hc : s.heap.objs.size ≤ c) (hP' : s.heap.objs.size ≤ P') (hcd : PySem.W.CodeHd h' c P') (hm' : h'.get? P' = some { cls := .none, data := .fields #[] }) :
    Inv X pins σ (upd (upd (upd H P (.tbl (ps ++ #[rawInt pos.line, rawInt pos.col, .ref c]))) c (CodeX c P')) P' (.tbl #[])) { s with heap := h', toks := t' } ∧ c ≠ P' := by
  have hcn : H c = none := I.hok.fresh hc
  have hPn : H P' = none := I.hok.fresh hP'
  have ne : c ≠ P' := by
    obtain ⟨o, vs, file, tf, flags, tg, inF, text, tt, e, r1, r2, r3, r4, r5, r6, r7, r8, r9⟩ := hcd
    exact r9
  have nPc : P ≠ c := fun z => by rw [z, hcn] at hP; cases hP
  have nPP : P ≠ P' := fun z => by rw [z, hPn] at hP; cases hP
  have at_ : ∀ b, b ≠ P → b ≠ c → b ≠ P' → (upd (upd (upd H P (.tbl (ps ++ #[rawInt pos.line, rawInt pos.col, .ref c]))) c (CodeX c P')) P' (.tbl #[])) b = H b := fun b h1 h2 h3 => by rw [upd_ne h3, upd_ne h2, upd_ne h1]
  have atP : (upd (upd (upd H P (.tbl (ps ++ #[rawInt pos.line, rawInt pos.col, .ref c]))) c (CodeX c P')) P' (.tbl #[])) P = some (.tbl (ps ++ #[rawInt pos.line, rawInt pos.col, .ref c])) := by rw [upd_ne nPP, upd_ne nPc, upd_same]
  have atc : (upd (upd (upd H P (.tbl (ps ++ #[rawInt pos.line, rawInt pos.col, .ref c]))) c (CodeX c P')) P' (.tbl #[])) c = some (CodeX c P') := by rw [upd_ne ne, upd_same]
  have sm : ∀ b u, H b = some u → (∀ q, u ≠ .tbl q) → (upd (upd (upd H P (.tbl (ps ++ #[rawInt pos.line, rawInt pos.col, .ref c]))) c (CodeX c P')) P' (.tbl #[])) b = some u := fun b u e q => by
    rw [at_ b (fun z => by rw [z, hP] at e; exact q ps (Option.some.inj e).symm) (fun z => by rw [z, hcn] at e; cases e) (fun z => by rw [z, hPn] at e; cases e)]; exact e
  have nP : ∀ b u, H b = some u → (∀ q, u ≠ .tbl q) → b ≠ P := fun b u e q z => by
    rw [z, hP] at e
    exact q ps (Option.some.inj e).symm
  have nN : ∀ b, H b = none → b ≠ P := fun b e z => by
    rw [z, hP] at e
    cases e
  have old : ∀ b o, s.heap.get? b = some o → b ≠ c ∧ b ≠ P' := fun b o e => ⟨fun z => by
    have := Heap.lt_size e; rw [z] at this; exact absurd (Nat.lt_of_lt_of_le this hc) (Nat.lt_irrefl _), fun z => by
    have := Heap.lt_size e; rw [z] at this; exact absurd (Nat.lt_of_lt_of_le this hP') (Nat.lt_irrefl _)⟩
  have J : Inv X pins σ (upd (upd (upd H P (.tbl (ps ++ #[rawInt pos.line, rawInt pos.col, .ref c]))) c (CodeX c P')) P' (.tbl #[])) { s with heap := h', gens := s.gens, drawn := s.drawn, toks := t' } := by
    refine I.step (ch := []) (fun b hb => absurd hb (by simp)) (fun b o _ _ _ e n => k b o (nN b n) e) (fun b o _ _ _ e n => ⟨o.slots, k b o (nN b n) e⟩)
      (fun b o _ e n => by rw [at_ b (nN b n) (old b o e).1 (old b o e).2]; exact n) (fun b o _ e => ?_) (fun b xs e => sm b _ e fun q z => by cases z) (fun b o u e => sm b _ e fun q z => by cases z) (fun b qs e => ?_) (fun m hn => ?_) (fun b u e => ?_) I.bare
    · by_cases hb : b = P
      · rw [hb]
        exact ⟨_, hm⟩
      · exact ⟨o, k b o hb e⟩
    · by_cases hb : b = P
      · rw [hb, hP] at e
        cases e
        rw [hb, atP]
        exact ⟨_, rfl⟩
      · rw [at_ b hb (fun z => by rw [z, hcn] at e; cases e) (fun z => by rw [z, hPn] at e; cases e), e]
        exact ⟨#[], by simp⟩
    · obtain ⟨ob, es, ep, ho, r⟩ := hn
      exact ⟨ob, es, ep, k _ ob (nN _ I.free) ho, r⟩
    · by_cases h1 : b = P'
      · rw [h1, upd_same] at e
        cases e
        rw [h1]
        exact hm'
      · by_cases h2 : b = c
        · rw [h2, atc] at e
          cases e
          rw [h2]
          obtain ⟨o, vs, file, tf, flags, tg, inF, text, tt, e, r⟩ := id hcd
          exact ⟨hcd, ⟨o, e⟩, fun _ _ x k => codeHd_stay x k⟩
        · by_cases hb2 : b = P
          · rw [hb2, atP] at e
            cases e
            rw [hb2]
            exact hm
          · rw [at_ b hb2 h2 h1] at e
            refine (I.hok b u e).stay (fun d v hd q => k d v ?_ q) (fun d q => sm d _ q fun _ z => by cases z) fun d xs q => sm d _ q fun _ z => by cases z
            rcases hd with z | z
            · rw [z]
              exact hb2
            · exact nP d _ z (fun q z => by cases z)
  exact ⟨J, ne⟩
/-- the frame's own code stands in a table of D's -/
def InTab (D : Addr → Prop) (gpos : Pos) (H : Hp) (code : Value) : Prop := ∃ P, D P ∧ ∃ ps : Array Value, H P = some (.tbl ps) ∧ TriplesOk ps.toList ∧ codeAmong gpos ps.toList = some code
theorem among_snoc {pos : Pos} {c : Value} : ∀ (l : List Value), TriplesOk l → codeAmong pos l = none → codeAmong pos (l ++ [rawInt pos.line, rawInt pos.col, c]) = some c := fun l h hn => codeAmong_snoc _ h hn
theorem mk_gen {k : Nat} {D : Addr → Prop} {elt tg iter : Expr} {scope : Scope} {own : List (Str × Nat)} {gpos : Pos} {wi : TI} {g : TG} {te : TE} {stp : Bool} {Q : VK} {Q' : Value → Shared → Prop}
    (hr : Room k X.A) (bb : ∃ P, X.base.BuiltinsAt X.mg P) (hT : ∀ (pins : List (Addr × Obj)) (σ : L2.St) (H : Hp) (s : Shared), Inv X pins σ H s → (∀ a ∈ Tabs.t, TabN H a) → ∃ c P qs, X.env.code = .ref c ∧ D P ∧ PySem.W.CodeHd s.heap c P ∧ H P = some (.tbl qs) ∧ TriplesOk qs.toList) (hi : PI X tg iter wi) (ok : BlkOk X.N X.env.scope scope own) (hN : X.N.Nodup) (hc : X.calm = true) (hco : scope.isCoroutine = false) (hcell : ∀ y ∈ scope.names, y.2 ≠ .cell)
    (h0 : scope.names.lookup (".0" : Str) = some NameKind.local)
    (hg : ∀ (s : Shared) (H : Hp) (C : Addr) (code : Value) (cl : List (Str × Addr)) (fp : List Addr) (p : Addr × Obj), PG (genCx X s H (genEnv scope cl C code builtinsNs X.env) fp p) tg g)
    (he : ∀ (s : Shared) (H : Hp) (C : Addr) (code : Value) (cl : List (Str × Addr)) (fp : List Addr) (p : Addr × Obj), InTab D gpos H code → PE (genCx X s H (genEnv scope cl C code builtinsNs X.env) fp p) elt te)
    (hs : ∀ v, genFold iter X.env v = pure v) (I : Inv X pins σ H s)
    (h : wi σ H fun J H1 => (∀ a ∈ Tabs.t, TabN H1 a) ∧ ∀ H2, Grown H1 H2 → ∃ (W : Nat → Nat → Hp → Prop) (m0 : Nat), W 0 m0 H2 ∧ genW J g te stp Q (wipe σ (own.map (·.2))) (own.map (·.2)) W)
    (hQ : ∀ (Xg : Cx) (a : Addr) (gi n : Nat) (s5 : Shared), Xg.prog = X.prog → Xg.w = X.w → GSt Xg X.A.in1.in1 (wipe σ (own.map (·.2))) stp Q gi n s5 → s5.heap.IsGen a gi → (∀ s H, Inv Xg [] (wipe σ (own.map (·.2))) H s → s.heap.IsGen a gi) → (∀ s' H, Inv Xg [] (wipe σ (own.map (·.2))) H s' → Inv X pins σ H s') → Q' (.ref a) s5) :
    wpAny (model X.prog X.w) X.A (eval (.GeneratorExp elt [⟨tg, iter, [], 0⟩] scope gpos) X.env) Q' X.xe s := by
  have hfree : ∀ y ∈ scope.names, y.2 = .free → ∃ c, X.env.cells.lookup y.1 = some c := fun y hy e => by
    rcases ok.free y hy e with k | k
    · exact I.ok.has _ (.inl k)
    · exact I.ok.has _ (.inr k)
  refine wpAny_GeneratorExp_make hco (closure_ok hfree) hcell h0 ok.kind (by have := hr.dp; omega) ?_ hs
  refine thn (hi.run pins s σ H _ I h) fun xv s1 hx => thn hx fun itv s2 h2 => ?_
  obtain ⟨it, fp, tn, J, H2, e, I2, T, st2, f2, tN, q⟩ := h2
  subst e
  refine ⟨I2.nolimit, ?_⟩
  obtain ⟨c, P, ps, hcode, hD, cd, hP, htr⟩ := hT pins σ H2 s2 I2 tN
  have hPs : s2.heap.get? P = some { cls := .none, data := .fields ps } := I2.hok P _ hP
  have cont : ∀ (code : Value) (h3 : Heap) (tk : Nat) (H4 : Hp), Inv X pins σ H4 { s2 with heap := h3, toks := tk } → Heap.ExtBut P s2.heap h3 → s2.heap.objs.size ≤ h3.objs.size → Grown H2 H4 → (∀ b, b < s2.heap.objs.size → H2 b = none → H4 b = none) → InTab D gpos H4 code →
      wpAny (model X.prog X.w) X.A (builtinsFor X.env.globals X.env.builtins) (fun bi s₄ =>
        ∀ h', h'.Ns s₄.heap.objs.size (fun y => if y = ".0" then some (.ref it) else none) → Heap.SameBut s₄.heap.objs.size (s₄.heap.push { cls := .type "frame", data := .dict #[] }) h' →
          Q' (.ref h'.objs.size) { s₄ with
            gens := s₄.gens.push (.fresh (.compStart (.GeneratorExp elt [⟨tg, iter, [], 0⟩] scope gpos) 0 (.ref it) .none (genEnv scope (cloFrom X.env.cells scope.names []) s₄.heap.objs.size code bi X.env))),
            toks := s₄.toks + 1 + 1 + 1,
            heap := h'.push { cls := .type "generator", data := .fields #[.int s₄.gens.size 0, .str "<genexpr>" (s₄.toks + 1), .str (X.env.qual ++ "<genexpr>") (s₄.toks + 1 + 1)] } }) X.xe { s2 with heap := h3, toks := tk } := by
    intro code h3 tk H4 I4 hx3 hsz hgr hlow hin
    obtain ⟨P0, bm, ob, e1, e2, e3, e4, e5, e6, e7, e8⟩ := bb
    refine wpAny_builtinsFor (m := X.mg) (by rw [I4.ok.glob]; exact I4.mod.glob.keeps I4.bk) e1 e2 (I4.bk _ _ e5) e6 e7 e8 ?_
    intro h' hn' hs'
    obtain ⟨W, m0, w0, hW⟩ := q H4 hgr
    have keep3 : ∀ b u, b ≠ P → s2.heap.get? b = some u → h3.get? b = some u := fun b u hb e => hx3 b u hb e
    have nP : ∀ b ∈ fp, b ≠ P := fun b hb z => by
      have := (f2 b hb).1
      rw [z, hP] at this; cases this
    have f4 : ∀ b ∈ fp, FpOk X pins H4 b ∧ b < h3.objs.size := fun b hb => by
      obtain ⟨o, e, _⟩ := T.obj _ _ st2 b hb
      exact ⟨⟨hlow b (Heap.lt_size e) (f2 b hb).1, (f2 b hb).2⟩, Nat.lt_of_lt_of_le (Heap.lt_size e) hsz⟩
    have st3 : tn 0 h3 := T.keep _ _ _ st2 fun b hb o e => keep3 b o (nP b hb) e
    have hsz' : h'.objs.size = h3.objs.size + 1 := by rw [hs'.1, Heap.size_push]
    have Ig := gen_start (code := code) (tk := tk + 1 + 1 + 1) I4 ok hN f4 hcell hr.hd hn' hs' { cls := .type "generator", data := .fields #[.int s2.gens.size 0, .str "<genexpr>" (tk + 1), .str (X.env.qual ++ "<genexpr>") (tk + 1 + 1)] } (fun v z => by cases z) (Heap.get?_push_size _ rfl)
      (.fresh (.compStart (.GeneratorExp elt [⟨tg, iter, [], 0⟩] scope gpos) 0 (.ref it) .none (genEnv scope (cloFrom X.env.cells scope.names []) h3.objs.size code builtinsNs X.env))) rfl
    have st5 : tn 0 (h'.push { cls := .type "generator", data := .fields #[.int s2.gens.size 0, .str "<genexpr>" (tk + 1), .str (X.env.qual ++ "<genexpr>") (tk + 1 + 1)] }) := T.keep _ _ _ st3 fun b hb o e =>
      Heap.get?_push_of_some _ (hs'.extBut b o (Nat.ne_of_lt (Heap.lt_size e)) (Heap.get?_push_of_some _ e))
    have hfpn : ∀ b ∈ fp, H4 b = none := fun b hb => (f4 b hb).1.1
    have hfpa : ∀ b ∈ fp, b ≠ h'.objs.size := fun b hb z => by
      have h1 : h'.objs.size < h3.objs.size := by rw [← z]; exact (f4 b hb).2
      exact absurd h1 (by omega)
    refine hQ (genCx X { s2 with heap := h3, toks := tk } H4 (genEnv scope (cloFrom X.env.cells scope.names []) h3.objs.size code builtinsNs X.env) fp (h'.objs.size, { cls := .type "generator", data := .fields #[.int s2.gens.size 0, .str "<genexpr>" (tk + 1), .str (X.env.qual ++ "<genexpr>") (tk + 1 + 1)] })) h'.objs.size s2.gens.size (m0 + 1) _ rfl rfl ⟨⟨_, Ig⟩, _, Array.getElem?_push_size .., ⟨rfl, ?_⟩⟩ ⟨_, _, _, Heap.get?_push_size _ rfl, rfl, rfl, rfl⟩ (fun s H J => ?_) fun s' H J => ?_
    · have loop := fun (s₀ s' : Shared) (e1 : s'.heap = h'.push { cls := .type "generator", data := .fields #[.int s2.gens.size 0, .str "<genexpr>" (tk + 1), .str (X.env.qual ++ "<genexpr>") (tk + 1 + 1)] }) (e2 : s'.os = s2.os) (e3 : AllBare s'.gens) => seg_gen (iter := iter) (scope := scope) (pos := gpos) (stp := stp) (Q := Q) hc T (hg _ _ _ code _ fp _) (he _ _ _ code _ fp _ hin) hco hfpa hW m0 (m0 + 1) 0 s₀ s' _ (Nat.lt_succ_self _) w0 (inv_same Ig e1 e2 e3) (by rw [e1]; exact st5) hfpn
      show Seg _ X.A.in1.in1 _ _ _ _ _ ((compStart (.GeneratorExp elt [⟨tg, iter, [], 0⟩] scope gpos) 0 (.ref it) .none (genEnv scope (cloFrom X.env.cells scope.names []) h3.objs.size code builtinsNs X.env)).onRaise (leaving (genEnv scope (cloFrom X.env.cells scope.names []) h3.objs.size code builtinsNs X.env))) [] _
      unfold compStart
      rw [Sem.onRaise_eq_wrap]
      show Seg _ X.A.in1.in1 _ _ _ _ _ ((ask >>= _).wrap _ _ _ _) [] _
      refine seg_bind_wrap (wpAny_askSetting ?_)
      split
      · exact seg_again rfl (loop _ _ rfl rfl (allBare_setGen Ig.bare rfl))
      · first
          | exact seg_bind_wrap (wpAny_rule (seg_bind_wrap (wpAny_standAt (seg_bind_wrap (T.self _ 0 _ _ _ st5 (seg_again rfl (loop _ _ rfl rfl (allBare_setGen Ig.bare rfl))))))))
          | (refine seg_bind_wrap (wpAny_rule ?_); show Seg _ X.A.in1.in1 _ _ _ _ _ ((standAt iter.pos >>= _).wrap _ _ _ _) [] _; exact seg_bind_wrap (wpAny_standAt (seg_bind_wrap (T.self _ 0 _ _ _ st5 (seg_again rfl (loop _ _ rfl rfl (allBare_setGen Ig.bare rfl)))))))
    · obtain ⟨z, _⟩ := J.pin (h'.objs.size, _) (List.mem_append_left _ (List.mem_singleton.mpr rfl))
      exact ⟨_, _, _, z, rfl, rfl, rfl⟩
    · exact I4.call' (ch := fp) J.os J.base J.hok J.bare fun b hb => ⟨(f4 b hb).1.2.2.2.1, (f4 b hb).1.2.1, (f4 b hb).1.2.2.2.2.1, (f4 b hb).1.2.2.2.2.2⟩
  cases hf : codeAmong gpos ps.toList with
  | none =>
    refine wpAny_genexprCodeX hcode (cd.code hPs htr) (cd.tab hPs) hf fun c' h' tk hx hge hlt hco' _ htab' hnew => ?_
    obtain ⟨o1, vs, f1, tf, fl, tg', inF, tx, tt, op, _, _, _, _, _, _, _, _, _, htr', _⟩ := hco'
    obtain ⟨P', hP', hc1, ht1⟩ := hnew
    obtain ⟨I4, ne⟩ := inv_grow (t' := tk) (pos := gpos) I2 hP (fun b u hb e => hx b u hb e) htab'.2 hge hP' (PySem.W.CodeHd.of hc1 ht1) ht1.2
    have hcn : H2 c' = none := I2.hok.fresh hge
    have hPn : H2 P' = none := I2.hok.fresh hP'
    have nPc : P ≠ c' := fun z => by rw [z, hcn] at hP; cases hP
    have nPP : P ≠ P' := fun z => by rw [z, hPn] at hP; cases hP
    refine cont _ h' tk _ I4 hx (Nat.le_trans hge (Nat.le_of_lt hlt)) (.inr ⟨P, ps, gpos, c', P', hP, htr, htr', hcn, hPn, ne, rfl⟩) (fun b hb e => ?_) ⟨P, hD, _, by rw [upd_ne nPP, upd_ne nPc, upd_same], htr', ?_⟩
    · have n1 : b ≠ P := fun z => by rw [z, hP] at e; cases e
      have n2 : b ≠ c' := fun z => by rw [z] at hb; exact absurd (Nat.lt_of_lt_of_le hb hge) (Nat.lt_irrefl _)
      have n3 : b ≠ P' := fun z => by rw [z] at hb; exact absurd (Nat.lt_of_lt_of_le hb hP') (Nat.lt_irrefl _)
      rw [upd_ne n3, upd_ne n2, upd_ne n1]; exact e
    · have : (ps ++ #[rawInt gpos.line, rawInt gpos.col, Value.ref c']).toList = ps.toList ++ [rawInt gpos.line, rawInt gpos.col, .ref c'] := by simp
      rw [this]
      exact among_snoc _ htr hf
  | some cv =>
    refine wpAny_genexprCode_hit hcode (cd.code hPs htr) hf ?_
    exact cont cv s2.heap s2.toks H2 I2 (Heap.ExtBut.refl _ _) (Nat.le_refl _) (.inl rfl) (fun _ _ e => e) ⟨P, hD, ps, hP, htr, hf⟩
end
/-! ### the rule -/
open Classical in
noncomputable def allM (src : Src) (g : MG) (me : ME) (e : Env) (stp : Bool) : List D → Store → Res D
  | [], S => if src.ok S then .ok (.bl (!stp)) S else .bad
  | d :: ds, S => if src.ok S then match g d e S with
    | some e1 => (noEx (me e1 S)).bind fun y S2 => match y with
      | .bl b => if b = stp then .ok (.bl stp) S2 else allM src g me e stp ds S2
      | _ => .bad
    | none => .bad else .bad
noncomputable def mAll (stp : Bool) (mi : MI) (g : MG) (me : ME) (vs : List Nat) : ME := fun e S => (mi e S).bind fun src S1 => allM src g me (wipeE e vs) stp src.xs S1
theorem rel_grown {K : PySem.W.Frag} {ρ : Rh} {H H' : Hp} {S : Store} (R : Rel K ρ H S) (g : Grown H H') : Fr ρ H ρ H' ∧ Rel K ρ H' S := by
  rcases g with rfl | ⟨P, ps, pos, c, P', hP, ht, ht', hcn, hPn, ne, rfl⟩
  · exact ⟨Fr.refl _ _, R⟩
  have nPc : P ≠ c := fun z => by rw [z, hcn] at hP; cases hP
  have nPP : P ≠ P' := fun z => by rw [z, hPn] at hP; cases hP
  generalize hH' : upd (upd (upd H P (.tbl (ps ++ #[rawInt pos.line, rawInt pos.col, .ref c]))) c (CodeX c P')) P' (.tbl #[]) = H'
  have sm : ∀ b u, H b = some u → b ≠ P → H' b = some u := fun b u e q => by
    rw [← hH', upd_ne (fun z => by rw [z, hPn] at e; cases e), upd_ne (fun z => by rw [z, hcn] at e; cases e), upd_ne q]; exact e
  have atP : H' P = some (.tbl (ps ++ #[rawInt pos.line, rawInt pos.col, .ref c])) := by rw [← hH', upd_ne nPP, upd_ne nPc, upd_same]
  have atc : H' c = some (CodeX c P') := by rw [← hH', upd_ne ne, upd_same]
  have atP' : H' P' = some (.tbl #[]) := by rw [← hH', upd_same]
  have nP : ∀ b u, H b = some u → NT u → b ≠ P := fun b u e nt z => by rw [z, hP] at e; cases e; exact nt ps rfl
  have f : Fr ρ H ρ H' := ⟨⟨[], by simp, by simp⟩, fun a o h _ nt => sm a o h (nP a o h nt), fun a o h => by
    by_cases z : a = P
    · exact ⟨_, by rw [z]; exact atP⟩
    · exact ⟨o, sm a o h z⟩⟩
  have kid : ∀ (c0 P0 : Addr) (qs : Array Value), H c0 = some (CodeX c0 P0) → H P0 = some (.tbl qs) → TriplesOk qs.toList → H' c0 = some (CodeX c0 P0) ∧ ∃ qs', H' P0 = some (.tbl qs') ∧ TriplesOk qs'.toList := fun c0 P0 qs h1 h2 h3 => by
    refine ⟨sm c0 _ h1 (nP c0 _ h1 fun _ z => by cases z), ?_⟩
    by_cases z : P0 = P
    · exact ⟨_, by rw [z]; exact atP, ht'⟩
    · exact ⟨qs, sm P0 _ h2 z, h3⟩
  refine ⟨f, R.len, R.nd, fun n o a e1 e2 => ?_, fun a m => ?_, fun a m => ?_⟩
  · have q := R.at_ n o a e1 e2
    cases o with
    | lst ds => obtain ⟨vs, h1, h2⟩ := q; exact ⟨vs, sm a _ h1 (nP a _ h1 fun _ z => by cases z), RepDs.fr R.free f _ _ h2⟩
  · obtain ⟨vs, h1⟩ := R.hid a m
    exact ⟨vs, sm a _ h1 (nP a _ h1 fun _ z => by cases z)⟩
  · obtain ⟨qs, h1, h2, h3⟩ := R.tab a m
    by_cases z : a = P
    · subst z
      rw [hP] at h1; cases h1
      refine ⟨_, atP, ht', fun p0 cv hc => ?_⟩
      have e9 : (ps ++ #[rawInt pos.line, rawInt pos.col, Value.ref c]).toList = ps.toList ++ [rawInt pos.line, rawInt pos.col, .ref c] := by simp
      rw [e9] at hc
      rcases LamX.among_app _ ht hc with hc | rfl
      · obtain ⟨c0, P0, qs, g1, g2, g3, g4⟩ := h3 p0 cv hc
        obtain ⟨k1, qs', k2, k3⟩ := kid c0 P0 qs g2 g3 g4
        exact ⟨c0, P0, qs', g1, k1, k2, k3⟩
      · exact ⟨c, P', #[], rfl, atc, atP', trivial⟩
    · refine ⟨qs, sm a _ h1 z, h2, fun p0 cv hc => ?_⟩
      obtain ⟨c0, P0, qs, g1, g2, g3, g4⟩ := h3 p0 cv hc
      obtain ⟨k1, qs', k2, k3⟩ := kid c0 P0 qs g2 g3 g4
      exact ⟨c0, P0, qs', g1, k1, k2, k3⟩
section
variable {X : Cx} {W : WX} {mi : MI} {g : MG} {sl vs : List Nat} {me : ME} {stp : Bool}
theorem all_imp (hsl : ∀ i ∈ sl, i ∈ vs) {σ : L2.St} {H : Hp} {Q : VK} (h : tE X.K X.mg W (mAll stp mi g me vs) σ H Q) :
    tI X.K X.mg W mi σ H fun J H1 => (∀ a ∈ Tabs.t, TabN H1 a) ∧ ∀ H2, Grown H1 H2 → ∃ (W : Nat → Nat → Hp → Prop) (m0 : Nat), W 0 m0 H2 ∧ genW J (tG X.K g sl) (tE X.K X.mg W0 me) stp Q (wipe σ vs) vs W := by
  obtain ⟨ρ, e, S, he, R, q⟩ := h
  refine ⟨ρ, e, S, he, R, (Post.bind q).mono fun src S1 ρ1 H1 f1 R1 q J hJ => ?_⟩
  refine ⟨R1.tab, fun H2 hgr => ?_⟩
  obtain ⟨ft, Rt⟩ := rel_grown R1 hgr
  have het := (he.fr R.free f1).fr R1.free ft
  refine ⟨fun i m H' => m = src.xs.length - i ∧ i ≤ src.xs.length ∧ ∃ ρ' S', Fr ρ1 H1 ρ' H' ∧ Rel X.K ρ' H' S' ∧ PostE X.K X.mg W ρ' H' σ Q (allM src g me (wipeE e vs) stp (src.xs.drop i) S'), src.xs.length, ⟨rfl, Nat.zero_le _, ρ1, S1, ft, Rt, Post.fr ft q⟩, ?_⟩
  rintro i m H' ⟨rfl, hi, ρ', S', f, R', q⟩
  rcases Nat.lt_or_ge i src.xs.length with hlt | hge
  · rw [List.drop_eq_getElem_cons hlt] at q
    unfold allM at q
    by_cases hok : src.ok S'
    case neg => rw [if_neg hok] at q; exact q.elim
    rw [if_pos hok] at q
    obtain ⟨hgo, hy⟩ := hJ.go ρ' H' S' i _ (.of f) R' hok (List.getElem?_eq_getElem hlt)
    refine .inr ⟨hgo, fun x H'' yy => ?_⟩
    obtain ⟨f2, R2, r2⟩ := hy x H'' yy
    cases hgd : g src.xs[i] (wipeE e vs) S' with
    | none => rw [hgd] at q; exact q.elim
    | some e1 =>
      rw [hgd] at q
      dsimp only at q
      have he2 : EnvRel X.K ρ' H'' (wipe σ vs) (wipeE e vs) := ((((he.fr R.free f1).fr R1.free f)).fr R'.free f2).wipe vs
      refine ⟨ρ', _, S', _, e1, he2, R2, r2, hgd, fun σ2 hσ2 hw => ⟨(hw vs hsl).trans (wipe_wipe fun _ h => h), ρ', e1, S', hσ2, R2, ?_⟩⟩
      cases hm : me e1 S' with
      | bad => rw [hm] at q; exact q.elim
      | ex c S2 => rw [hm] at q; exact q.elim
      | ok y S2 =>
        rw [hm] at q
        simp only [noEx_ok, Res.bind_ok] at q
        intro ρ3 H3 f3 R3 v r3
        cases y with
        | bl b =>
          cases r3
          refine ⟨b, rfl, ?_⟩
          by_cases hb : b = stp
          · rw [if_pos hb]
            dsimp only at q
            rw [if_pos hb] at q
            exact q ρ3 H3 (f2.trans f3) R3 _ (.bl stp)
          · rw [if_neg hb]
            dsimp only at q
            rw [if_neg hb] at q
            exact ⟨src.xs.length - (i + 1), by omega, rfl, hlt, ρ3, S2, (f.trans f2).trans f3, R3, Post.fr (f2.trans f3) q⟩
        | _ => exact q.elim
  · have e0 : i = src.xs.length := by omega
    subst e0
    rw [List.drop_length] at q
    unfold allM at q
    by_cases hok : src.ok S'
    case neg => rw [if_neg hok] at q; exact q.elim
    rw [if_pos hok] at q
    exact .inl ⟨hJ.stop ρ' H' S' (.of f) R' hok, q ρ' H' (Fr.refl _ _) R' _ (.bl _)⟩
variable {k : Nat} {c : Addr} {elt tg iter : Expr} {scope : Scope} {own : List (Str × Nat)} {p gpos pos : Pos}
/-- where a frame's generator expressions have their code -/
structure GenIn (X : Cx) (D : Addr → Prop) : Prop where
  bb : ∃ P, X.base.BuiltinsAt X.mg P
  hT : ∀ (pins : List (Addr × Obj)) (σ : L2.St) (H : Hp) (s : Shared), Inv X pins σ H s → (∀ a ∈ Tabs.t, TabN H a) → ∃ c P qs, X.env.code = .ref c ∧ D P ∧ PySem.W.CodeHd s.heap c P ∧ H P = some (.tbl qs) ∧ TriplesOk qs.toList
theorem genIn_def {P : Addr} (TB : GxR.TabB X.base X.mg c P) (hP : P ∈ Tabs.t) (hcode : X.env.code = .ref c) : GenIn X (fun P => P ∈ Tabs.t) :=
  ⟨⟨P, TB.bm⟩, fun pins σ H s I tN => by
    obtain ⟨ps, h1, h2, _⟩ := tN P hP
    exact ⟨c, P, ps, hcode, hP, TB.code.keeps fun b u e => I.bk b u e, h1, h2⟩⟩
theorem among_more {pos : Pos} {cv : Value} (l r : List Value) (h : TriplesOk l) (hc : codeAmong pos l = some cv) : codeAmong pos (l ++ r) = some cv := by
  fun_induction TriplesOk l with
  | case1 => simp [codeAmong] at hc
  | case2 a t b u x rest ih =>
    simp only [List.cons_append, codeAmong] at hc ⊢
    split at hc
    · rename_i q
      rw [if_pos q]; exact hc
    · rename_i q
      rw [if_neg q]; exact ih h hc
  | case3 l h1 h2 => exact h.elim
theorem genIn_in {s : Shared} {H : Hp} {C : Addr} {code : Value} {cl : List (Str × Addr)} {fp : List Addr} {p : Addr × Obj} (bb : ∃ P, X.base.BuiltinsAt X.mg P) (hin : InTab (fun P => P ∈ Tabs.t) gpos H code) :
    GenIn (genCx X s H (genEnv scope cl C code builtinsNs X.env) fp p) (fun _ => True) :=
  ⟨bb, fun pins σ H' s' I tN => by
    obtain ⟨P, hP, ps, h1, h2, h3⟩ := hin
    obtain ⟨more, h4⟩ := I.base.tbls P ps h1
    obtain ⟨qs, e1, e2, e3⟩ := tN P hP
    rw [h4] at e1; cases e1
    obtain ⟨c, P', rs, g1, g2, g3, g4⟩ := e3 gpos code (by rw [Array.toList_append]; exact among_more _ _ h2 h3)
    have q : PySem.W.CodeHd s'.heap c P' := (I.hok c _ g2).1
    exact ⟨c, P', rs, g1, trivial, q, g3, g4⟩⟩
theorem em_all (own : List (Str × Nat)) (hr : Room k X.A) (hgl : Gl X "all") (hm : X.mg "all" = none) {D : Addr → Prop} (gin : GenIn X D) (hi : IM X W tg iter mi) (ok : BlkOk X.N X.env.scope scope own) (hsl : ∀ i ∈ sl, i ∈ own.map (·.2)) (hN : X.N.Nodup) (hc : X.calm = true) (hco : scope.isCoroutine = false) (hcell : ∀ y ∈ scope.names, y.2 ≠ .cell)
    (h0 : scope.names.lookup (".0" : Str) = some NameKind.local)
    (hg : ∀ (s : Shared) (H : Hp) (C : Addr) (code : Value) (cl : List (Str × Addr)) (fp : List Addr) (p : Addr × Obj), GM (genCx X s H (genEnv scope cl C code builtinsNs X.env) fp p) tg g sl)
    (he : ∀ (s : Shared) (H : Hp) (C : Addr) (code : Value) (cl : List (Str × Addr)) (fp : List Addr) (p : Addr × Obj), InTab D gpos H code → EM (genCx X s H (genEnv scope cl C code builtinsNs X.env) fp p) W0 elt me)
    (hs : ∀ v, genFold iter X.env v = pure v := by intro _; rfl) (hb : bootBuiltins "all" = some (.builtin "all") := by rfl)
    (hse : starEach [.GeneratorExp elt [⟨tg, iter, [], 0⟩] scope gpos] X.env = (false, eval (.GeneratorExp elt [⟨tg, iter, [], 0⟩] scope gpos) X.env) :: starEach [] X.env := by rfl) :
    EM X W (.Call (.Name "all" p) [.GeneratorExp elt [⟨tg, iter, [], 0⟩] scope gpos] [] pos) (mAll false mi g me (own.map (·.2))) := by
  refine ⟨fun pins s σ H Q I h => ?_⟩
  refine wpAny_Call_Name_kw (ld_blt I hgl hm hb ?_)
  refine PyProof.Rows.callWith_builtin1 ?_ hse (by rfl)
  rw [hse]
  show wpAny _ _ (spliced ((false, eval (.GeneratorExp elt [⟨tg, iter, [], 0⟩] scope gpos) X.env) :: backTo pos (starEach [] X.env))) _ _ s
  refine Calls.spliced_cons (mk_gen (stp := false) (Q := Q) hr gin.bb gin.hT hi ok hN hc hco hcell h0 hg he hs I (all_imp hsl h) fun Xg a gi n s5 e1 e2 hG hga hgal back => ?_)
  refine Calls.spliced_nil ?_
  refine call_function_tree F.kind_all F.plain_all F.entry_all (F.args_all1 _) ?_
  unfold Builtin.«all»
  refine wpAny_bind (m := oneArg "all" _) (wpAny_pure ?_)
  refine wpAny_bind (wpAny_pyIter_gen hga ?_)
  refine wpAny_pure ⟨plainId_quiet F.plain_all_loop _, ?_⟩
  rw [← e1, ← e2]
  refine all_go (A := X.A) hr.hd (by have := hr.dp; omega) hgal (fun b s' H' J q => ?_) n s5 hG
  exact ⟨.bl b, H', back s' H' J, rfl, q⟩
theorem em_any (own : List (Str × Nat)) (hr : Room k X.A) (hgl : Gl X "any") (hm : X.mg "any" = none) {D : Addr → Prop} (gin : GenIn X D) (hi : IM X W tg iter mi) (ok : BlkOk X.N X.env.scope scope own) (hsl : ∀ i ∈ sl, i ∈ own.map (·.2)) (hN : X.N.Nodup) (hc : X.calm = true) (hco : scope.isCoroutine = false) (hcell : ∀ y ∈ scope.names, y.2 ≠ .cell)
    (h0 : scope.names.lookup (".0" : Str) = some NameKind.local)
    (hg : ∀ (s : Shared) (H : Hp) (C : Addr) (code : Value) (cl : List (Str × Addr)) (fp : List Addr) (p : Addr × Obj), GM (genCx X s H (genEnv scope cl C code builtinsNs X.env) fp p) tg g sl)
    (he : ∀ (s : Shared) (H : Hp) (C : Addr) (code : Value) (cl : List (Str × Addr)) (fp : List Addr) (p : Addr × Obj), InTab D gpos H code → EM (genCx X s H (genEnv scope cl C code builtinsNs X.env) fp p) W0 elt me)
    (hs : ∀ v, genFold iter X.env v = pure v := by intro _; rfl) (hb : bootBuiltins "any" = some (.builtin "any") := by rfl)
    (hse : starEach [.GeneratorExp elt [⟨tg, iter, [], 0⟩] scope gpos] X.env = (false, eval (.GeneratorExp elt [⟨tg, iter, [], 0⟩] scope gpos) X.env) :: starEach [] X.env := by rfl) :
    EM X W (.Call (.Name "any" p) [.GeneratorExp elt [⟨tg, iter, [], 0⟩] scope gpos] [] pos) (mAll true mi g me (own.map (·.2))) := by
  refine ⟨fun pins s σ H Q I h => ?_⟩
  refine wpAny_Call_Name_kw (ld_blt I hgl hm hb ?_)
  refine PyProof.Rows.callWith_builtin1 ?_ hse (by rfl)
  rw [hse]
  show wpAny _ _ (spliced ((false, eval (.GeneratorExp elt [⟨tg, iter, [], 0⟩] scope gpos) X.env) :: backTo pos (starEach [] X.env))) _ _ s
  refine Calls.spliced_cons (mk_gen (stp := true) (Q := Q) hr gin.bb gin.hT hi ok hN hc hco hcell h0 hg he hs I (all_imp hsl h) fun Xg a gi n s5 e1 e2 hG hga hgal back => ?_)
  refine Calls.spliced_nil ?_
  refine call_function_tree F.kind_any F.plain_any F.entry_any (F.args_any1 _) ?_
  unfold Builtin.«any»
  refine wpAny_bind (m := oneArg "any" _) (wpAny_pure ?_)
  refine wpAny_bind (wpAny_pyIter_gen hga ?_)
  refine wpAny_pure ⟨plainId_quiet F.plain_any_loop _, ?_⟩
  rw [← e1, ← e2]
  refine any_go (A := X.A) hr.hd (by have := hr.dp; omega) hgal (fun b s' H' J q => ?_) n s5 hG
  exact ⟨.bl b, H', back s' H' J, rfl, q⟩
end
end M


set_option Elab.async false
set_option linter.all false
set_option maxRecDepth 100000
set_option maxHeartbeats 4000000
namespace M
open PySem PySem.Spec PyProof.Rows L2 RT
variable [Tabs]
section
variable {prog : Program} {w : World} {A : Around} {E : Value → Shared → Prop} {s : Shared}
theorem call_list_rev {it l : Addr} {items : Array Value} {Q : Value → Shared → Prop} (hh : A.handled = none) (hit : s.heap.IsRevIter it l ((items.size : Int) - 1)) (hl : s.heap.IsList l items) (hne : l ≠ it) (hn : items.size ≤ sizeLine)
    (hQ : ∀ (h' : Heap) (tk : Nat) (acc : Array Value) (c : Nat), (∀ b o, b ≠ it → s.heap.get? b = some o → h'.get? b = some o) → h'.get? s.heap.objs.size = some { cls := .type "list", dict := none, data := .seq acc c, slots := #[] } → ItemsOf (fun i v => items[items.size - 1 - i]? = some v) acc items.size → Q (.ref s.heap.objs.size) { s with heap := h', toks := tk }) :
    wpAny (model prog w) A (call (.type "list") [.ref it]) Q E s := by
  have W := (Walks.listRev (prog := prog) (w := w) (A := A.in1.in1) hh it l hne items).toS
  obtain ⟨oi, hoi, _⟩ := id hit
  obtain ⟨ol, hol, _⟩ := id hl
  have hSi : s.heap.objs.size ≠ it := Nat.ne_of_gt (Heap.lt_size hoi)
  have hSl : s.heap.objs.size ≠ l := Nat.ne_of_gt (Heap.lt_size hol)
  have hSf : s.heap.objs.size ∉ [it, l] := by simp only [List.mem_cons, List.not_mem_nil, or_false, not_or]; exact ⟨hSi, hSl⟩
  refine callType_codes (Q₁ := fun obj s₁ => obj = .ref s.heap.objs.size ∧ s₁ = { s with heap := s.heap.push { cls := .type "list", data := .seq #[] } }) F.called_list (F.typeCall_list_1 _) F.entry_list_init
    (code_list_new _ ⟨rfl, rfl⟩) fun obj s₁ h₁ => ?_
  obtain ⟨rfl, rfl⟩ := h₁
  have hS : (s.heap.push { cls := .type "list", data := .seq #[] }).get? s.heap.objs.size = some { cls := .type "list", data := .seq #[] } := Heap.get?_push_size _ rfl
  refine ⟨⟨_, hS, rfl⟩, F.args_list_init_2 _ _, ?_⟩
  show wpAny _ A.in1.in1 (do let old ← Builtin.List.listItems (.ref s.heap.objs.size); Builtin.List.listUpdate (.ref s.heap.objs.size) (fun _ => #[]); letGo old.toList.reverse; Builtin.List.listExtendWith (.ref s.heap.objs.size) (.ref it) .none) _ _ _
  refine wpAny_bind ?_
  unfold Builtin.List.listItems
  refine wpAny_bind (wpAny_seqItems hS rfl (wpAny_pure ?_))
  show wpAny _ A.in1.in1 (updateSeq s.heap.objs.size (fun _ => #[]) >>= fun _ => letGo (#[] : Array Value).toList.reverse >>= fun _ => Builtin.List.listExtendWith (.ref s.heap.objs.size) (.ref it) .none) _ _ _
  refine wpAny_bind (wpAny_updateSeq hS rfl ?_)
  have hS2 := Heap.get?_update_self (Obj.mapSeq (fun _ => (#[] : Array Value))) hS rfl
  have k2 : ∀ b o, s.heap.get? b = some o → ((s.heap.push { cls := .type "list", data := .seq #[] }).update s.heap.objs.size (Obj.mapSeq (fun _ => (#[] : Array Value)))).get? b = some o := fun b o e =>
    (Heap.get?_update_other _ _ (Ne.symm (Nat.ne_of_lt (Heap.lt_size e)))).trans (Heap.get?_push_of_some _ e)
  refine wpAny_bind (wpAny_letGo ?_)
  unfold Builtin.List.listExtendWith
  generalize hh2 : ((s.heap.push { cls := .type "list", data := .seq #[] }).update s.heap.objs.size (Obj.mapSeq (fun _ => (#[] : Array Value)))) = h2 at hS2 k2 ⊢
  have hit1 : h2.IsRevIter it l ((items.size : Int) - 1) := hit.at fun o e => k2 _ _ e
  have hl1 : h2.IsList l items := by
    obtain ⟨ol, hol, r⟩ := id hl
    exact ⟨ol, k2 _ _ hol, r⟩
  have hT : ({ s with heap := h2 } : Shared).TypeIs (.ref it) "list_reverseiterator" := Heap.IsRevIter.typeIs (s := { s with heap := h2 }) hit1
  have h1 : Builtin.List.listSameRef (.ref s.heap.objs.size) (.ref it) = false := by simp [Builtin.List.listSameRef, hSi]
  refine wpAny_bind (wpAny_typeOf hT ?_)
  rw [if_neg (by rw [h1]; decide)]
  refine wpAny_bind (wpAny_pyIter_revIter (s := { s with heap := h2 }) hit1 ?_)
  refine wpAny_bind (wpAny_holding ?_)
  unfold Builtin.List.listLengthHint
  refine wpAny_bind (wpAny_specialOf hT nolen_lri ?_)
  show wpAny _ A.in1.in1 (specialOf (Value.ref it) (Str.ofString "__length_hint__") >>= _) _ _ _
  refine wpAny_bind (wpAny_specialOf hT hint_lri ?_)
  generalize hid : ("list_reverseiterator.__length_hint__" : String) = id0
  wp_delta
  rw [show splitId id0 = some ("list_reverseiterator", "__length_hint__") from by subst hid; decide +kernel]
  subst hid
  refine wpAny_bind (wpAny_isInstance (b := true) hT (by rw [isSubtype_type]; kernel_rfl) ?_)
  refine wpAny_pure ?_
  rw [if_neg (by decide)]
  have e0 : ((items.size : Nat) : Int) - 1 - ((0 : Nat) : Int) = (items.size : Int) - 1 := by omega
  refine wpAny_pure ⟨plainId_quiet F.plain_extend_loop _, codeAny_extend_loopS W hn _ hSf _ items.size 0 _ _ _ rfl (Nat.zero_le _) ⟨Nat.zero_le _, by rw [e0]; exact hit1, hl1⟩ hS2 (ItemsOf.nil _) fun s' acc' c' hm hS' hacc => ?_⟩
  refine ⟨rfl, ?_⟩
  rw [Moved.eq_with hm]
  refine hQ s'.heap s'.toks acc' c' (fun b o hb e => hm.heap b o (fun hmem => ?_) (k2 b o e)) hS' hacc
  rcases List.mem_cons.mp hmem with e' | hmem
  · exact absurd (Heap.lt_size e) (by rw [e']; exact Nat.lt_irrefl _)
  · exact hb (List.mem_singleton.mp hmem)
end
def tListRev (K : PySem.W.Frag) (te : TE) : TE := fun σ H Q => te σ H fun v H1 => ∃ (a : Addr) (xs : List V), v = .ref a ∧ SqL K H1 a xs ∧ ∀ p, H1 p = none → Q (.ref p) (upd H1 p (.lst xs.reverse))
section
variable {X : Cx} {W : WX} {e : Expr} {m : ME}
theorem pe_listRev {te : TE} {p p2 pos pos2 : Pos} (hg : Gl X "list") (hm : X.mg "list" = none) (hg2 : Gl X "reversed") (hm2 : X.mg "reversed" = none) (hc : X.calm = true) (he : PE X e te)
    (hs : starEach [e] X.env = (false, eval e X.env) :: starEach [] X.env := by rfl)
    (hs2 : starEach [.Call (.Name "reversed" p2) [e] [] pos2] X.env = (false, eval (.Call (.Name "reversed" p2) [e] [] pos2) X.env) :: starEach [] X.env := by rfl) :
    PE X (.Call (.Name "list" p) [.Call (.Name "reversed" p2) [e] [] pos2] [] pos) (tListRev X.K te) := by
  refine ⟨fun pins s σ H Q I h => ?_⟩
  refine Call_ (ld_blt I hg hm (by rfl) (PyProof.Rows.callWith_type1 (args_cons (Call_ (ld_blt I hg2 hm2 PyProof.Rows.boot_reversed (PyProof.Rows.callWith_type1 (args_cons (thn (he.run pins s σ H _ I h) fun u s1 ⟨v, H1, I1, r1, q1⟩ => args_nil ?_) hs) hs rfl))) hs2) hs2 rfl))
  obtain ⟨a, xs, ev, hq, q⟩ := q1
  subst ev
  obtain rfl : u = Value.ref a := r1
  obtain ⟨its, rv, p', hz⟩ := I1.list hq
  refine call_reversed_list p'.isList (args_nil ?_)
  have k0 : ∀ b o, s1.heap.get? b = some o → (s1.heap.push (revObj a ((its.toArray.size : Int) - 1))).get? b = some o := fun b o e => Heap.get?_push_of_some _ e
  have I2 : Inv X pins σ H1 { s1 with heap := s1.heap.push (revObj a ((its.toArray.size : Int) - 1)) } := I1.kept (t' := s1.toks) k0
  obtain ⟨f0, f1, f2, f3, f4, f5⟩ := I1.fpOk (H' := H1) (b := s1.heap.objs.size) (Nat.le_refl _) (I1.hok.fresh (Nat.le_refl _))
  have hl := p'.isList
  obtain ⟨ol, hol, _⟩ := id hl
  have hne : a ≠ s1.heap.objs.size := Nat.ne_of_lt (Heap.lt_size hol)
  have hn : its.toArray.size ≤ sizeLine := by rw [List.size_toArray, ← rv.length]; exact hz
  refine call_list_rev (s := { s1 with heap := s1.heap.push (revObj a ((its.toArray.size : Int) - 1)) }) (I1.ok.hd hc) ⟨_, Heap.get?_push_size _ rfl, rfl, rfl⟩ (hl.push _) hne hn fun h' tk acc c hk hS hi => ?_
  have hsz2 : (s1.heap.push (revObj a ((its.toArray.size : Int) - 1))).objs.size = s1.heap.objs.size + 1 := Heap.size_push ..
  have I3 := I2.turnedNew (h' := h') (t' := tk) (ch := [s1.heap.objs.size]) (T := (s1.heap.push (revObj a ((its.toArray.size : Int) - 1))).objs.size) (ob := .lst xs.reverse) (fun b o hb e => hk b o (fun z => hb (by simp [z])) e)
    (fun b hb => by rw [List.mem_singleton.mp hb]; exact ⟨f0, f1, f2, f3, f4, f5⟩) (Nat.le_refl _) ⟨by rw [List.length_reverse]; exact hz, acc.toList, c, vals_rev rv hi, hS⟩
  exact ⟨.ref _, _, I3, rfl, q _ (I2.hok.fresh (Nat.le_refl _))⟩
end
section
variable {X : Cx} {W : WX} {e : Expr} {m : ME}
def mListRev (m : ME) : MA := fun e S => (m e S).bind fun d S1 => .of ((lstOf S1 d).map List.reverse) S1
theorem nm_listRev {p p2 pos pos2 : Pos} (hg : Gl X "list") (hm : X.mg "list" = none) (hg2 : Gl X "reversed") (hm2 : X.mg "reversed" = none) (hc : X.calm = true) (he : EM X W e m)
    (hs : starEach [e] X.env = (false, eval e X.env) :: starEach [] X.env := by rfl)
    (hs2 : starEach [.Call (.Name "reversed" p2) [e] [] pos2] X.env = (false, eval (.Call (.Name "reversed" p2) [e] [] pos2) X.env) :: starEach [] X.env := by rfl) :
    NM X W (.Call (.Name "list" p) [.Call (.Name "reversed" p2) [e] [] pos2] [] pos) (mListRev m) :=
  pe_imp (pe_listRev hg hm hg2 hm2 hc he hs hs2) fun σ H Q ⟨ρ, e, S, he, R, q⟩ => ⟨ρ, e, S, he, R, (PostN.bind q).mono fun d S1 ρ1 H1 f1 R1 q v r => by
    cases hd : lstOf S1 d with
    | none => rw [hd] at q; exact q.elim
    | some xs =>
      rw [hd] at q
      obtain ⟨a, vs, rfl, hr, rd⟩ := lstOf_rep R1 r hd
      exact ⟨a, vs, rfl, hr, PostN.of_new R1 rd.reverse q⟩⟩
/-- a global that the top has written -/
theorem em_glob {x : Str} {d : D} {v : V} {u : Value} {pos : Pos} (hg : Gl X x) (hm : X.mg x = some u) (r : RelV v u) (rd : ∀ ρ H, RepD X.K ρ H d v) (hd : (x == ("__debug__" : Str)) = false := by decide) : EM X W (.Name x pos) (mC d) := em_c (pe_glob hg hm r hd) rd
end
/-! ### a def of the hook -/
section
variable {P : Program} {w : World} {K : PySem.W.Frag} {mg : Str → Option Value} {base : Heap}
theorem fn_mD {x qual : Str} {params : Arguments} {body : List Stmt} {scope : Scope} {f : Addr} {fd : FuncData} {N ps : List Str} {k : Nat} {b : MS} (F : FunD K x qual params body scope [] [] f fd) (S : FnScope N ps scope)
    (hbody : ∀ (A : Around) (outer : List PySem.Env) (s : Shared) (H : Hp) (E : XK), Room k (A.deeper (envOfC qual scope s.heap.objs.size f fd.code)) →
      BM (cxOf (L2.CX P w) P w K mg base N qual scope f fd.code A outer s H E) (fun c d _ H => E c d H) body b) : FnM P w K mg base (k + 1) f fd ps (runF N.length b) := by
  obtain ⟨oc, od, dV, kV, doc, pm, an, cdv, ct, osl, rfl, lk, hcd, _, _⟩ := F.ex
  refine fn_of lk hcd S (fun vs H Q E h => spM_len h) (fun A outer s H vs Q E hr h => ⟨_, hbody A outer s H E hr, ?_⟩)
  obtain ⟨ρ, ds, S, hl, r, R, q⟩ := h
  refine ⟨ρ, _, S, env_start r, R, ?_⟩
  show PostS K mg _ ρ H _ _
  unfold runF at q
  split at q
  · rename_i d e' S' hb
    rw [hb]
    exact fun ρ' H' v f R' r => q ρ' H' f R' v r
  · rename_i e' S' hb
    rw [hb]
    exact fun ρ' H' σ' f R' _ => q ρ' H' f R' _ .non
  · rename_i c e' S' hb
    rw [hb]
    exact fun ρ' H' σ' C f R' _ => q ρ' H' C f R'
  · exact q.elim
variable {N : List Str} {qual : Str} {scope : Scope} {f : Addr} {cd : Value} {A : Around} {outer : List PySem.Env} {s : Shared} {H : Hp} {E : XK}
theorem tk0 {X : Cx} : Takes X W0 := fun _ _ ⟨_, _, _, _, _, _, _, _, _, _, _, _, _, _, _, _, w⟩ => w.elim
theorem takes_cx : Takes (cxOf (L2.CX P w) P w K mg base N qual scope f cd A outer s H E) (fun cls d _ H' => E cls d H') := takes_of rfl rfl rfl (E₁ := fun e' s'' => L2.CX P w outer H s E e' s'') rfl
theorem owns_cx : PassesOwn (model P w) (cxOf (L2.CX P w) P w K mg base N qual scope f cd A outer s H E).A (cxOf (L2.CX P w) P w K mg base N qual scope f cd A outer s H E).env (cxOf (L2.CX P w) P w K mg base N qual scope f cd A outer s H E).xe :=
  passes_of (X := cxOf (L2.CX P w) P w K mg base N qual scope f cd A outer s H E) (K := fun e s'' => L2.CX P w outer H s E e s'') (E₁ := fun e' s'' => L2.CX P w outer H s E e' s'') rfl
theorem fn_bad {n : Nat} {ps : List Str} {fd : FuncData} (k : Nat) : FnM P w K mg base k f fd ps (fun _ _ => .bad) :=
  ⟨fun _ _ _ _ h => spM_len h, fun _ _ _ _ _ _ _ _ _ _ _ _ _ ⟨_, _, _, _, _, _, q⟩ => q.elim⟩
end
end M


set_option Elab.async false
set_option linter.all false
set_option maxRecDepth 100000
set_option maxHeartbeats 4000000
/-! Plain lemmas: what the mirrors come to. -/
namespace M
open PySem PySem.Spec PyProof.Rows L2
section
variable [Tabs]
abbrev I (l : List Int) : List D := l.map D.int
/-- a picture -/
abbrev pic (a : List (List Int)) : D := .tup (a.map fun r => .tup (I r))
/-! ### the combinators -/
variable {e : Env} {S : Store} {d : D} {a b c : ME} {g : DOp} {i j : Nat}
@[simp] theorem x_mC : mC d e S = .ok d S := rfl
@[simp] theorem x_mVar : mVar i e S = (match e[i]? with | some (some d) => .ok d S | _ => .bad) := rfl
@[simp] theorem x_mBin : mBin g a b e S = (a e S).bind fun x S1 => (b e S1).bind fun y S2 => .of (g x y S2) S2 := rfl
@[simp] theorem x_mNil : mNil e S = .ok [] S := rfl
@[simp] theorem x_mCons {r : MA} : mCons a r e S = (a e S).bind fun d S1 => (r e S1).bind fun ds S2 => .ok (d :: ds) S2 := rfl
@[simp] theorem x_mCall {h : List D → Store → Option D} {m : MA} : mCall h m e S = (m e S).bind fun ds S1 => .of (h ds S1) S1 := rfl
@[simp] theorem x_mCallN {h : List D → Store → Option (List D)} {m : MA} : mCallN h m e S = (m e S).bind fun ds S1 => .of (h ds S1) S1 := rfl
@[simp] theorem x_mCallF {n : Nat} {h : List D → Store → Res D} {m : MA} : mCallF n h m e S = (m e S).bind fun ds S1 => if ds.length = n then h ds S1 else .bad := rfl
@[simp] theorem x_asV {m : MA} : asV m e S = (m e S).bind fun ds S1 => .ok (.lst ds) S1 := rfl
@[simp] theorem x_asL {m : MA} : asL m e S = (m e S).bind fun ds S1 => .ok (.loc S1.length) (S1 ++ [.lst ds]) := rfl
@[simp] theorem x_mLst {m : MA} : mLst m e S = (m e S).bind fun ds S1 => .of (if ds.length ≤ sizeLine then some ds else none) S1 := rfl
@[simp] theorem x_mTup {m : MA} : mTup m e S = (m e S).bind fun ds S1 => .of (if ds.length ≤ sizeLine then some (.tup ds) else none) S1 := rfl
@[simp] theorem x_mB {m : ME} : mB m e S = (m e S).bind fun d S1 => .of (bOf d) S1 := rfl
@[simp] theorem x_bOf {k : Bool} : bOf (.bl k) = some k := rfl
@[simp] theorem x_mTru {m : ME} : mTru m e S = (m e S).bind fun d S1 => .of (truOf S1 d) S1 := rfl
@[simp] theorem x_truB {k : Bool} : truOf S (.bl k) = some k := rfl
@[simp] theorem x_mAnd {s t : MT} : mAnd s t e S = (s e S).bind fun c S1 => if c = true then t e S1 else .ok false S1 := rfl
@[simp] theorem x_mOr {s t : MT} : mOr s t e S = (s e S).bind fun c S1 => if c = true then .ok true S1 else t e S1 := rfl
@[simp] theorem x_mNot {s : MT} : mNot s e S = (s e S).bind fun c S1 => .ok (!c) S1 := rfl
@[simp] theorem x_mIte {t : MT} : mIte t a b e S = (t e S).bind fun c S1 => if c = true then a e S1 else b e S1 := rfl
@[simp] theorem x_mAndV : mAndV a b e S = (a e S).bind fun d S1 => match d with | .bl c => if c = true then b e S1 else .ok (.bl false) S1 | _ => .bad := rfl
@[simp] theorem x_mOrV : mOrV a b e S = (a e S).bind fun d S1 => match d with | .bl c => if c = true then .ok (.bl true) S1 else b e S1 | _ => .bad := rfl
@[simp] theorem x_mNotV : mNotV a e S = (a e S).bind fun d S1 => match d with | .bl c => .ok (.bl (!c)) S1 | _ => .bad := rfl
@[simp] theorem x_mUn {h : D → Store → Option D} : mUn h a e S = (a e S).bind fun x S1 => .of (h x S1) S1 := rfl
@[simp] theorem x_mChain {g' : DOp} : mChain g g' a b c e S = (a e S).bind fun x S1 => (b e S1).bind fun y S2 => (Res.of (g x y S2) S2).bind fun k S3 => match k with
  | .bl t => if t = true then (c e S3).bind fun z S4 => .of (g' y z S4) S4 else .ok (.bl false) S3
  | _ => .bad := by
  unfold mChain
  rfl
@[simp] theorem x_sSeq {p q : MS} : sSeq p q e S = (match p e S with | some (.nx, e1, S1) => q e1 S1 | r => r) := rfl
@[simp] theorem x_sRet : sRet a e S = (a e S).st e fun d S1 => some (.rt d, e, S1) := rfl
@[simp] theorem x_sSet {h : MG} : sSet h a e S = (a e S).st e fun d S1 => (h d e S1).bind fun e1 => some (.nx, e1, S1) := rfl
@[simp] theorem x_sExpr : sExpr a e S = (a e S).st e fun _ S1 => some (.nx, e, S1) := rfl
@[simp] theorem x_sIf {t : MT} {p q : MS} : sIf t p q e S = (t e S).st e fun c S1 => if c = true then p e S1 else q e S1 := rfl
@[simp] theorem x_sSkip : sSkip e S = some (.nx, e, S) := rfl
@[simp] theorem x_gN : gN i d e S = some (e.set i (some d)) := rfl
@[simp] theorem x_gTup {n : Nat} {r : List D → Env → Store → Option Env} {ds : List D} : gTup n r (.tup ds) e S = if ds.length = n then r ds e S else none := rfl
@[simp] theorem x_gLst {n : Nat} {r : List D → Env → Store → Option Env} {ds : List D} : gLst n r (.lst ds) e S = if ds.length = n then r ds e S else none := rfl
@[simp] theorem x_gCons {h : MG} {r : List D → Env → Store → Option Env} {ds : List D} : gCons h r (d :: ds) e S = (h d e S).bind fun e1 => r ds e1 S := rfl
@[simp] theorem x_gNil : gNil [] e S = some e := rfl
@[simp] theorem x_mMeth {T : String} {h : MtF} {m : MA} : mMeth T h a m e S = (a e S).bind fun d S1 => if rcv T S1 d = true then (m e S1).bind fun ds S2 => .ofS (h d ds S2) else .bad := rfl
@[simp] theorem x_mSrc : mSrc a e S = (a e S).bind fun d S1 => .of (srcOf S1 d) S1 := rfl
@[simp] theorem x_mSrcA {f : List D → Store → Option Src} {m : MA} : mSrcA f m e S = (m e S).bind fun ds S1 => .of (f ds S1) S1 := rfl
@[simp] theorem x_mSlice {lo hi : MO} : mSlice a lo hi e S = (a e S).bind fun d S1 => (lo e S1).bind fun l S2 => (hi e S2).bind fun h S3 => .of (dSlice d l h S3) S3 := rfl
@[simp] theorem x_mNo : mNo e S = .ok none S := rfl
@[simp] theorem x_mPart : mPart a e S = (a e S).bind fun d S1 => .of ((iOf d).map some) S1 := rfl
@[simp] theorem x_iOf {k : Int} : iOf (.int k) = some k := rfl
/-! ### operations on ints -/
variable {x y : Int}
@[simp] theorem x_add : dAdd (.int x) (.int y) S = some (.int (x + y)) := rfl
@[simp] theorem x_sub : dSub (.int x) (.int y) S = some (.int (x - y)) := rfl
theorem x_mul (h : x.natAbs < 2 ^ 64 ∨ y.natAbs < 2 ^ 64) : dMul (.int x) (.int y) S = some (.int (x * y)) := if_pos h
theorem x_mod (h : 0 < y) : dMod (.int x) (.int y) S = some (.int (x % y)) := if_pos h
theorem x_fdiv (h : 0 < y ∧ y < 1073741824) : dFdiv (.int x) (.int y) S = some (.int (x / y)) := if_pos h
@[simp] theorem x_neg : dNeg (.int x) S = some (.int (-x)) := rfl
@[simp] theorem x_lt : dLt (.int x) (.int y) S = some (.bl (decide (x < y))) := rfl
@[simp] theorem x_le : dLe (.int x) (.int y) S = some (.bl (decide (x ≤ y))) := rfl
@[simp] theorem x_gt : dGt (.int x) (.int y) S = some (.bl (decide (y < x))) := rfl
@[simp] theorem x_ge : dGe (.int x) (.int y) S = some (.bl (decide (y ≤ x))) := rfl
@[simp] theorem x_int : dInt [.int x] S = some (.int x) := rfl
@[simp] theorem x_abs : dAbs [.int x] S = some (.int (if x < 0 then -x else x)) := rfl
theorem eqvAll_I : ∀ (l m : List Int), PyData.eqvAll (l.map PyData.int) (m.map PyData.int) = decide (l = m)
  | [], [] => rfl
  | [], _ :: _ => rfl
  | _ :: _, [] => rfl
  | x :: l, y :: m => by
    simp only [List.map_cons, PyData.eqvAll, PyData.eqv, eqvAll_I l m, List.cons.injEq, Bool.decide_and]
    by_cases h : x = y <;> simp [h]
theorem eqvAll_P : ∀ (l m : List (List Int)), PyData.eqvAll (l.map fun r => .tuple (r.map PyData.int)) (m.map fun r => .tuple (r.map PyData.int)) = decide (l = m)
  | [], [] => rfl
  | [], _ :: _ => rfl
  | _ :: _, [] => rfl
  | x :: l, y :: m => by
    simp only [List.map_cons, PyData.eqvAll, PyData.eqv, eqvAll_I, eqvAll_P l m, List.cons.injEq, Bool.decide_and]
theorem toPys_I : ∀ l : List Int, toPys0 (I l) = some (l.map PyData.int)
  | [] => by simp [toPys0]
  | x :: l => by
    have := toPys_I l
    simp only [I] at this
    simp [toPys0, toPy0, this]
theorem toPys_P : ∀ a : List (List Int), toPys0 (a.map fun r => .tup (I r)) = some (a.map fun r => .tuple (r.map PyData.int))
  | [] => by simp [toPys0]
  | x :: l => by
    have := toPys_P l
    have h2 := toPys_I x
    simp only [I] at this h2
    simp [toPys0, toPy0, this, h2]
theorem can_I : ∀ l : List Int, PyData.canLayAll0 (l.map PyData.int) = true
  | [] => by simp [PyData.canLayAll0]
  | x :: l => by simp [PyData.canLayAll0, PyData.canLay0, can_I l]
theorem dep_I : ∀ l : List Int, PyData.depthAll (l.map PyData.int) = 0
  | [] => by simp [PyData.depthAll]
  | x :: l => by simp [PyData.depthAll, PyData.depth, dep_I l]
theorem can_P : ∀ l : List (List Int), PyData.canLayAll0 (l.map fun r => .tuple (r.map PyData.int)) = true
  | [] => by simp [PyData.canLayAll0]
  | x :: l => by simp [PyData.canLayAll0, PyData.canLay0, can_P l, can_I]
theorem dep_P : ∀ l : List (List Int), PyData.depthAll (l.map fun r => .tuple (r.map PyData.int)) ≤ 1
  | [] => by simp [PyData.depthAll]
  | x :: l => by
    have := dep_P l
    simp [PyData.depthAll, PyData.depth, dep_I]; omega
theorem shp_P (l : List (List Int)) : SeqAt.shaped (.tuple (l.map fun r => .tuple (r.map PyData.int))) = true := by
  have := dep_P l
  unfold SeqAt.shaped
  rw [Bool.and_eq_true]
  exact ⟨by simp [PyData.canLay0, can_P], decide_eq_true (by simp [PyData.depth]; omega)⟩
theorem shp_L (l : List Int) : SeqAt.shaped (.list (l.map PyData.int)) = true := by
  unfold SeqAt.shaped
  rw [Bool.and_eq_true]
  exact ⟨by simp [PyData.canLay0, can_I], decide_eq_true (by simp [PyData.depth, dep_I])⟩
theorem shp_T (l : List Int) : SeqAt.shaped (.tuple (l.map PyData.int)) = true := by
  unfold SeqAt.shaped
  rw [Bool.and_eq_true]
  exact ⟨by simp [PyData.canLay0, can_I], decide_eq_true (by simp [PyData.depth, dep_I])⟩
@[simp] theorem x_eqI : dEq (.int x) (.int y) S = some (.bl (decide (x = y))) := by
  have h1 : ∀ z : Int, SeqAt.shaped (.int z) = true := fun z => rfl
  unfold dEq
  simp only [toPy, toPy0, h1, PyData.eqv]
  by_cases h : x = y <;> simp [h]
@[simp] theorem x_neI : dNe (.int x) (.int y) S = some (.bl (!decide (x = y))) := by simp [dNe, dNot]
@[simp] theorem x_eqP (p q : List (List Int)) : dEq (.tup (p.map fun r => .tup (I r))) (.tup (q.map fun r => .tup (I r))) S = some (.bl (decide (p = q))) := by
  unfold dEq
  simp only [toPy, toPy0, toPys_P, Option.map_some, shp_P, PyData.eqv, eqvAll_P]
  simp
@[simp] theorem x_neP (p q : List (List Int)) : dNe (.tup (p.map fun r => .tup (I r))) (.tup (q.map fun r => .tup (I r))) S = some (.bl (!decide (p = q))) := by simp only [dNe, x_eqP]; rfl
@[simp] theorem x_eqL (p q : List Int) : dEq (.lst (I p)) (.lst (I q)) S = some (.bl (decide (p = q))) := by
  unfold dEq
  simp only [toPy, toPy0, toPys_I, Option.map_some, shp_L, PyData.eqv, eqvAll_I]
  simp
@[simp] theorem x_neL (p q : List Int) : dNe (.lst (I p)) (.lst (I q)) S = some (.bl (!decide (p = q))) := by simp only [dNe, x_eqL]; rfl
@[simp] theorem x_eqStr (p q : Str) : dEq (.str p) (.str q) S = some (.bl (decide (p = q))) := rfl
@[simp] theorem x_neStr (p q : Str) : dNe (.str p) (.str q) S = some (.bl (!decide (p = q))) := rfl
@[simp] theorem x_eqB (p q : Bool) : dEq (.bl p) (.bl q) S = some (.bl (decide (p = q))) := by cases p <;> cases q <;> rfl
@[simp] theorem x_neB (p q : Bool) : dNe (.bl p) (.bl q) S = some (.bl (!decide (p = q))) := by cases p <;> cases q <;> rfl
/-! ### comprehensions, all -/
variable {t : MG} {me : ME} {xs : List D}
theorem lc_pure (f : D → D) : ∀ (ds : List D), (∀ d ∈ ds, ∃ e1, t d e S = some e1 ∧ me e1 S = .ok (f d) S) → lcM ⟨xs, []⟩ t mYes me e ds S = .ok (ds.map f) S
  | [], _ => by simp [lcM]
  | d :: ds, h => by
    obtain ⟨e1, h1, h2⟩ := h d (by simp)
    have ih := lc_pure f ds fun d hd => h d (List.mem_cons_of_mem _ hd)
    simp [lcM, h1, h2, mYes, ih]
/-- a comprehension whose elements change the store: St l goes to St l' -/
theorem lc_run {α : Type} {P : D → Prop} (St : α → Store) : ∀ (ds : List D) (l : α), (∀ d ∈ ds, ∀ l, ∃ e1 y l', t d e (St l) = some e1 ∧ P y ∧ me e1 (St l) = .ok y (St l')) → ∃ ys l', ys.length = ds.length ∧ (∀ y ∈ ys, P y) ∧ lcM ⟨xs, []⟩ t mYes me e ds (St l) = .ok ys (St l')
  | [], l, _ => ⟨[], l, rfl, by simp, by simp [lcM]⟩
  | d :: ds, l, h => by
    obtain ⟨e1, y, l1, h1, hp, h2⟩ := h d (by simp) l
    obtain ⟨ys, l2, hl, hP, ih⟩ := lc_run St ds l1 fun d hd => h d (List.mem_cons_of_mem _ hd)
    refine ⟨y :: ys, l2, by simp [hl], fun z hz => ?_, by simp [lcM, h1, h2, mYes, ih]⟩
    rcases List.mem_cons.mp hz with rfl | hz
    · exact hp
    · exact hP z hz
theorem all_pure : ∀ (ds : List D), (∀ d ∈ ds, ∃ e1, t d e S = some e1 ∧ me e1 S = .ok (.bl true) S) → allM ⟨xs, []⟩ t me e false ds S = .ok (.bl true) S
  | [], _ => by simp [allM]
  | d :: ds, h => by
    obtain ⟨e1, h1, h2⟩ := h d (by simp)
    have ih := all_pure ds fun d hd => h d (List.mem_cons_of_mem _ hd)
    simp [allM, h1, h2, ih]
@[simp] theorem x_mLc {mi : MI} {mt : MT} {vs : List Nat} : mLc mi t mt me vs e S = (mi e S).bind fun src S1 => if src.xs.length ≤ sizeLine then lcM src t mt me (wipeE e vs) src.xs S1 else .bad := rfl
@[simp] theorem x_mAll {mi : MI} {k : Bool} {vs : List Nat} : mAll k mi t me vs e S = (mi e S).bind fun src S1 => allM src t me (wipeE e vs) k src.xs S1 := rfl
theorem cls_I (n : Nat) : ∀ l : List Int, cls n (I l) = true
  | [] => rfl
  | _ :: l => by simp only [I, List.map_cons, cls, cl, Bool.true_and]; exact cls_I n l
theorem cls_P (n : Nat) : ∀ l : List (List Int), cls n (l.map fun r => .tup (I r)) = true
  | [] => rfl
  | r :: l => by simp only [List.map_cons, cls, cl, cls_I, Bool.true_and]; exact cls_P n l
/-- a call that leaves the store as it was -/
theorem retV_id {h : List D → Store → Res D} {ds : List D} {d : D} (hh : h ds S = .ok d S) (hc : clS S.length S = true) (hd : cl S.length d = true) : retV h ds S = .ok d S := by
  unfold retV
  rw [hh]
  simp only [List.take_length, hc, if_true]
  have : fz S.length S d = some d := by
    cases d <;> simp only [fz, hd, if_true]
    case loc n => simp [cl] at hd; simp [hd]
  rw [this]
theorem retV_ok {h : List D → Store → Res D} {ds : List D} {S' : Store} {d d' : D} (hh : h ds S = .ok d S') (hc : clS S.length (S'.take S.length) = true) (hf : fz S.length S' d = some d') : retV h ds S = .ok d' (S'.take S.length) := by
  unfold retV
  rw [hh]
  simp only [hc, if_true, hf]
section
variable {t : MG} {me : ME} {xs : List D}
theorem lc_map {α : Type} (ι f : α → D) : ∀ (as : List α), (∀ x ∈ as, ∃ e1, t (ι x) e S = some e1 ∧ me e1 S = .ok (f x) S) → lcM ⟨xs, []⟩ t mYes me e (as.map ι) S = .ok (as.map f) S
  | [], _ => by simp [lcM]
  | d :: ds, h => by
    obtain ⟨e1, h1, h2⟩ := h d (by simp)
    have ih := lc_map ι f ds fun d hd => h d (List.mem_cons_of_mem _ hd)
    simp [lcM, h1, h2, mYes, ih]
theorem all_map {α : Type} (ι : α → D) : ∀ (as : List α), (∀ x ∈ as, ∃ e1, t (ι x) e S = some e1 ∧ me e1 S = .ok (.bl true) S) → allM ⟨xs, []⟩ t me e false (as.map ι) S = .ok (.bl true) S
  | [], _ => by simp [allM]
  | d :: ds, h => by
    obtain ⟨e1, h1, h2⟩ := h d (by simp)
    have ih := all_map ι ds fun d hd => h d (List.mem_cons_of_mem _ hd)
    simp [allM, h1, h2, ih]
theorem zip_map {α β : Type} (ι : α → D) (κ : β → D) : ∀ (as : List α) (bs : List β), zipD (as.map ι) (bs.map κ) = (as.zip bs).map fun p => .tup [ι p.1, κ p.2]
  | [], _ => by simp [zipD]
  | _ :: _, [] => by simp [zipD]
  | a :: as, b :: bs => by simp [zipD, zip_map ι κ as bs]
variable {mi : MI} {vs : List Nat} {ys : List D} {S' : Store} {a : ME} {n : Nat}
theorem sz (h : n ≤ 100000) : n ≤ sizeLine := Nat.le_trans h (by decide)
theorem lc_ok (hi : mi e S = .ok ⟨xs, []⟩ S) (hz : xs.length ≤ 100000) (h : lcM ⟨xs, []⟩ t mYes me (wipeE e vs) xs S = .ok ys S') : mLc mi t mYes me vs e S = .ok ys S' := by
  rw [x_mLc, hi, Res.bind_ok]
  have : (Src.mk xs []).xs.length ≤ sizeLine := sz hz
  rw [if_pos this]
  exact h
theorem all_ok {k : Bool} {r : D} (hi : mi e S = .ok ⟨xs, []⟩ S) (h : allM ⟨xs, []⟩ t me (wipeE e vs) k xs S = .ok r S') : mAll k mi t me vs e S = .ok r S' := by
  rw [x_mAll, hi, Res.bind_ok]
  exact h
theorem src_tup (h : a e S = .ok (.tup xs) S') : mSrc a e S = .ok ⟨xs, []⟩ S' := by rw [x_mSrc, h]; rfl
theorem src_lst (h : a e S = .ok (.lst xs) S') : mSrc a e S = .ok ⟨xs, []⟩ S' := by rw [x_mSrc, h]; rfl
theorem src_str {x : Str} (h : a e S = .ok (.str x) S') : mSrc a e S = .ok ⟨strItems x, []⟩ S' := by rw [x_mSrc, h]; rfl
theorem src_zipT {m : MA} {ys : List D} (h : m e S = .ok [.tup xs, .tup ys] S') : mSrcA srcZip m e S = .ok ⟨zipD xs ys, []⟩ S' := by rw [x_mSrcA, h]; rfl
theorem tuple_ok {m : MA} (h : m e S = .ok ys S') : mCall dTuple (mCons (asV m) mNil) e S = .ok (.tup ys) S' := by
  rw [x_mCall, x_mCons, x_asV, h]; rfl
theorem slice_ok {lo hi : MO} {d r : D} {l h : Option Int} (ha : a e S = .ok d S) (hl : lo e S = .ok l S) (hh : hi e S = .ok h S) (hs : dSlice d l h S = some r) : mSlice a lo hi e S = .ok r S := by
  rw [x_mSlice, ha, Res.bind_ok, hl, Res.bind_ok, hh, Res.bind_ok, hs]; rfl
theorem part_ok {k : Int} (ha : a e S = .ok (.int k) S) : mPart a e S = .ok (some k) S := by rw [x_mPart, ha]; rfl
def cutG {α : Type} (xs : List α) (lo hi : Option Int) : List α := (xs.drop (HT.sIx xs.length 0 lo)).take (HT.sIx xs.length xs.length hi - HT.sIx xs.length 0 lo)
theorem cutD_map {α : Type} (ι : α → D) (as : List α) (lo hi : Option Int) : cutD (as.map ι) lo hi = (cutG as lo hi).map ι := by
  unfold cutD cutG
  rw [List.length_map, List.map_take, List.map_drop]
theorem cut_nat {α : Type} (as : List α) (a k : Nat) : cutG as (some (a : Int)) (some ((a : Int) + (k : Int))) = (as.drop a).take k := by
  have h2 : ((a : Int) + (k : Int)) = ((a + k : Nat) : Int) := by omega
  unfold cutG
  rw [h2, HT.sIx_nat, HT.sIx_nat]
  rcases Nat.le_total a as.length with h | h
  · rw [Nat.min_eq_left h]
    rcases Nat.le_total (a + k) as.length with g | g
    · rw [Nat.min_eq_left g]; congr 1; omega
    · rw [Nat.min_eq_right g, List.take_of_length_le (by simp), List.take_of_length_le (by simp; omega)]
  · rw [Nat.min_eq_right h, List.drop_of_length_le (Nat.le_refl _), List.drop_of_length_le h]; simp
theorem len_tup : dLen [.tup xs] S = some (.int xs.length) := rfl
theorem len_lst : dLen [.lst xs] S = some (.int xs.length) := rfl
theorem cat_tup {ys : List D} (h : xs.length + ys.length ≤ 100000) : dAdd (.tup xs) (.tup ys) S = some (.tup (xs ++ ys)) := if_pos (sz h)
end
/-! ### steps -/
section
variable {p q : MS} {e1 : Env} {S1 S' : Store} {n : Nat} {ds : List D} {m : ME} {t : MT} {k : Int}
theorem seq_nx (h : p e S = some (.nx, e1, S1)) : sSeq p q e S = q e1 S1 := by rw [x_sSeq, h]
theorem seq_rt {r : D} (h : p e S = some (.rt r, e1, S1)) : sSeq p q e S = some (.rt r, e1, S1) := by rw [x_sSeq, h]
theorem run_rt {b : MS} {e' : Env} (h : b (ds.map some ++ List.replicate (n - ds.length) none) S = some (.rt d, e', S')) : runF n b ds S = .ok d S' := by
  unfold runF
  rw [h]
theorem set_ok {i : Nat} (h : m e S = .ok d S1) : sSet (gN i) m e S = some (.nx, e.set i (some d), S1) := by rw [x_sSet, h]; rfl
theorem setg_ok {g : MG} (h : m e S = .ok d S1) (hg : g d e S1 = some e1) : sSet g m e S = some (.nx, e1, S1) := by rw [x_sSet, h, Res.st_ok, hg]; rfl
theorem ret_ok (h : m e S = .ok d S1) : sRet m e S = some (.rt d, e, S1) := by rw [x_sRet, h]; rfl
theorem expr_ok (h : m e S = .ok d S1) : sExpr m e S = some (.nx, e, S1) := by rw [x_sExpr, h]; rfl
theorem if_t (h : t e S = .ok true S1) : sIf t p q e S = p e S1 := by rw [x_sIf, h]; rfl
theorem if_f (h : t e S = .ok false S1) : sIf t p q e S = q e S1 := by rw [x_sIf, h]; rfl
theorem if_b {c : Bool} (h : t e S = .ok c S1) : sIf t p q e S = if c = true then p e S1 else q e S1 := by rw [x_sIf, h]; rfl
theorem var_ok {i : Nat} (h : e[i]? = some (some d)) : mVar i e S = .ok d S := by rw [x_mVar, h]
theorem cons_ok {ma : ME} {mr : MA} {S2 : Store} {ds : List D} (h : ma e S = .ok d S1) (hr : mr e S1 = .ok ds S2) : mCons ma mr e S = .ok (d :: ds) S2 := by rw [x_mCons, h, Res.bind_ok, hr]; rfl
theorem one_ok {ma : ME} (h : ma e S = .ok d S1) : mCons ma mNil e S = .ok [d] S1 := by rw [x_mCons, h]; rfl
theorem callF_ok {mr : MA} {h : List D → Store → Res D} {S2 : Store} {ds : List D} {r : D} (ha : mr e S = .ok ds S1) (hh : h ds S1 = .ok r S2) (hl : ds.length = n := by rfl) : mCallF n h mr e S = .ok r S2 := by rw [x_mCallF, ha, Res.bind_ok, if_pos hl, hh]
theorem call_ok {mr : MA} {h : List D → Store → Option D} {ds : List D} {r : D} (ha : mr e S = .ok ds S1) (hh : h ds S1 = some r) : mCall h mr e S = .ok r S1 := by rw [x_mCall, ha, Res.bind_ok, hh]; rfl
theorem bin_ok {ma mb : ME} {g : DOp} {S2 : Store} {u v r : D} (ha : ma e S = .ok u S1) (hb : mb e S1 = .ok v S2) (hg : g u v S2 = some r) : mBin g ma mb e S = .ok r S2 := by rw [x_mBin, ha, Res.bind_ok, hb, Res.bind_ok, hg]; rfl
theorem b_ok {ma : ME} {c : Bool} (ha : ma e S = .ok (.bl c) S1) : mB ma e S = .ok c S1 := by rw [x_mB, ha]; rfl
theorem tup_ok {mr : MA} {ds : List D} (ha : mr e S = .ok ds S1) (hl : ds.length ≤ sizeLine) : mTup mr e S = .ok (.tup ds) S1 := by rw [x_mTup, ha, Res.bind_ok, if_pos hl]; rfl
theorem lst_ok {mr : MA} {ds : List D} (ha : mr e S = .ok ds S1) (hl : ds.length ≤ sizeLine) : mLst mr e S = .ok ds S1 := by rw [x_mLst, ha, Res.bind_ok, if_pos hl]; rfl
theorem asV_ok {mr : MA} {ds : List D} (ha : mr e S = .ok ds S1) : asV mr e S = .ok (.lst ds) S1 := by rw [x_asV, ha]; rfl
theorem eqc_t {i : Nat} {c : Int} (h : e[i]? = some (some (.int k))) (hk : k = c) : mB (mBin dEq (mVar i) (mC (.int c))) e S = .ok true S := by rw [b_ok (bin_ok (var_ok h) rfl x_eqI), decide_eq_true hk]
theorem eqc_f {i : Nat} {c : Int} (h : e[i]? = some (some (.int k))) (hk : ¬ k = c) : mB (mBin dEq (mVar i) (mC (.int c))) e S = .ok false S := by rw [b_ok (bin_ok (var_ok h) rfl x_eqI), decide_eq_false hk]
theorem if_skip {b : MS} (h : t e S = .ok false S1) : sIf t b sSkip e S = some (.nx, e, S1) := by rw [x_sIf, h]; rfl
theorem eqc {i : Nat} {c : Int} (h : e[i]? = some (some (.int k))) : mB (mBin dEq (mVar i) (mC (.int c))) e S = .ok (decide (k = c)) S := b_ok (bin_ok (var_ok h) rfl (x_eqI))
end
end
end M


set_option Elab.async false
set_option linter.all false
set_option maxRecDepth 100000
set_option maxHeartbeats 4000000
/-! Plain lemmas, second part. -/
namespace M
open PySem PySem.Spec PyProof.Rows L2
section
variable [Tabs]
theorem at_nat (xs : List D) (i : Nat) (d : D) (h : xs[i]? = some d) : atI xs (i : Int) = some d := by
  obtain ⟨hi, _⟩ := List.getElem?_eq_some_iff.mp h
  unfold atI ixN
  rw [if_pos (show (0 : Int) ≤ (i : Int) by omega), if_pos (show (i : Int) < (xs.length : Int) by omega)]
  show xs[(i : Int).toNat]? = some d
  rw [Int.toNat_natCast]
  exact h
theorem ix_tup (xs : List D) (i : Nat) (d : D) (S : Store) (h : xs[i]? = some d) : dIx (.tup xs) (.int i) S = some d := at_nat xs i d h
theorem ix_lst (xs : List D) (i : Nat) (d : D) (S : Store) (h : xs[i]? = some d) : dIx (.lst xs) (.int i) S = some d := at_nat xs i d h
theorem ix0 (x : D) (xs : List D) (S : Store) : dIx (.tup (x :: xs)) (.int 0) S = some x := ix_tup (x :: xs) 0 x S rfl
theorem ix0l (x : D) (xs : List D) (S : Store) : dIx (.lst (x :: xs)) (.int 0) S = some x := ix_lst (x :: xs) 0 x S rfl
variable {xs ds : List D} {g : MG} {b : MS} {d : D} {e e1 e2 : Env} {S S1 S2 : Store}
theorem for_nil : M.forM ⟨xs, []⟩ g b [] e S = some (.nx, e, S) := by
  unfold M.forM
  rw [if_pos (Src.ok_nil _ _)]
theorem for_cons (hg : g d e S = some e1) (hb : b e1 S = some (.nx, e2, S2)) : M.forM ⟨xs, []⟩ g b (d :: ds) e S = M.forM ⟨xs, []⟩ g b ds e2 S2 := by
  conv => lhs; unfold M.forM
  rw [if_pos (Src.ok_nil _ _), hg, Option.bind_some, hb]
  rfl
theorem for_ok {mi : MI} {r : Option (Fl × Env × Store)} (hi : mi e S = .ok ⟨xs, []⟩ S1) (h : M.forM ⟨xs, []⟩ g b xs e S1 = r) : sFor mi g b e S = r := by
  unfold sFor
  rw [hi]
  exact h
theorem set_last {α : Type} (xs : List α) (x y : α) : (xs ++ [x]).set xs.length y = xs ++ [y] := by
  rw [List.set_append_right _ _ (Nat.le_refl _)]; simp
theorem get_last {α : Type} (xs : List α) (x : α) : (xs ++ [x])[xs.length]? = some x := by simp
theorem ext_last {xs ys : List D} (h : xs.length + ys.length ≤ 100000) : gExtend (.loc S.length) [.lst ys] (S ++ [.lst xs]) = some (.non, S ++ [.lst (xs ++ ys)]) := by
  unfold gExtend
  simp only [get_last, seqOf', lstOf']
  rw [if_pos (sz h), set_last]
theorem app_last {xs : List D} {y : D} (h : xs.length < 100000) : gAppend (.loc S.length) [y] (S ++ [.lst xs]) = some (.non, S ++ [.lst (xs ++ [y])]) := by
  unfold gAppend
  simp only [get_last]
  rw [if_pos (Nat.lt_of_lt_of_le h (by decide)), set_last]
theorem rcv_last {xs : List D} : rcv "list" (S ++ [.lst xs]) (.loc S.length) = true := by
  simp [rcv, lstOf]
theorem meth_ok {T : String} {a : ME} {m : MA} {h : MtF} {ds : List D} {r : D} (ha : a e S = .ok d S) (hr : rcv T S d = true) (hm : m e S = .ok ds S1) (hh : h d ds S1 = some (r, S2)) : mMeth T h a m e S = .ok r S2 := by
  rw [x_mMeth, ha, Res.bind_ok, if_pos hr, hm, Res.bind_ok, hh]
  rfl
theorem asL_ok {m : MA} {ds : List D} (ha : m e S = .ok ds S1) : asL m e S = .ok (.loc S1.length) (S1 ++ [.lst ds]) := by rw [x_asL, ha]; rfl
theorem ints_I : ∀ l : List Int, intsOf (I l) = some l
  | [] => rfl
  | x :: l => by
    show (intsOf (I l)).map (x :: ·) = _
    rw [ints_I l]
    rfl
theorem strs_S : ∀ l : List Str, strsOf (l.map D.str) = some l
  | [] => rfl
  | x :: l => by
    show (strsOf (l.map D.str)).map (x :: ·) = _
    rw [strs_S l]
    rfl
theorem sum_I (l : List Int) : dSum [.lst (I l)] S = some (.int l.sum) := by
  show ((intsOf (I l))).map _ = _
  rw [ints_I]
  rfl
/-- the greatest, of one at least -/
def mx : List Int → Int
  | [] => 0
  | x :: xs => xs.foldl max x
theorem mx_le : ∀ (l : List Int), ∀ y ∈ l, y ≤ mx l
  | [], _, h => by simp at h
  | x :: xs, y, h => by
    rcases List.mem_cons.mp h with rfl | h
    · exact (foldl_max xs _).1
    · exact (foldl_max xs x).2.1 y h
theorem mx_mem : ∀ (l : List Int), l ≠ [] → mx l ∈ l
  | [], h => absurd rfl h
  | x :: xs, _ => by
    rcases (foldl_max xs x).2.2 with h | h
    · simp [mx, h]
    · exact List.mem_cons_of_mem _ h
theorem mx_iff {l : List Int} (h : l ≠ []) (m : Int) : mx l = m ↔ m ∈ l ∧ ∀ y ∈ l, y ≤ m :=
  ⟨fun e => e ▸ ⟨mx_mem l h, mx_le l⟩, fun ⟨a, b⟩ => Int.le_antisymm (b _ (mx_mem l h)) (mx_le l _ a)⟩
theorem max_I (l : List Int) (h : l ≠ []) : dMax [.lst (I l)] S = some (.int (mx l)) := by
  show ((intsOf (I l)).bind maxI).map _ = _
  rw [ints_I]
  cases l with
  | nil => exact absurd rfl h
  | cons x xs => rfl
end
end M


set_option Elab.async false
set_option linter.all false
set_option maxRecDepth 100000
set_option maxHeartbeats 4000000
/-! Texts: lines put together and cut. -/
namespace M
open PySem PySem.Spec PyProof.Rows L2
open Builtin Builtin.Str StrLaws
abbrev tl (s : PySem.Str) : List Nat := s.cps.toList
def mk (l : List Nat) : PySem.Str := ⟨l.toArray⟩
@[simp] theorem tl_mk (l : List Nat) : tl (mk l) = l := rfl
theorem mk_tl (s : PySem.Str) : mk (tl s) = s := by cases s; simp [mk, tl]
theorem mk_len (l : List Nat) : (mk l).length = l.length := by simp [mk, PySem.Str.length]
theorem mk_app (l m : List Nat) : mk l ++ mk m = mk (l ++ m) := Str.ext' (by simp [mk, Str.cps_append])
theorem tl_inj {s t : PySem.Str} (h : tl s = tl t) : s = t := by rw [← mk_tl s, ← mk_tl t, h]
theorem join_nil : ∀ ys : List PySem.Str, Txt.join (mk []) ys = mk (ys.map tl).flatten := by
  intro ys
  have h : ∀ ys : List PySem.Str, PySem.Str.join (mk []) ys = mk (ys.map tl).flatten := by
    intro ys
    induction ys with
    | nil => rfl
    | cons x ys ih =>
      cases ys with
      | nil => simp [PySem.Str.join, mk_tl]
      | cons y ys =>
        show x ++ mk [] ++ PySem.Str.join (mk []) (y :: ys) = _
        rw [ih]
        apply tl_inj
        simp [tl, mk, Str.cps_append]
  show glued _ _ = _
  rw [glued_eq_join, h]
theorem occ_all (s sub : PySem.Str) (hi limit : Nat) (hs : 1 ≤ sub.length) (h1 : sub.length ≤ 1) : ∀ (k lo : Nat) (st : Array Nat × Nat), st.snd ≤ lo → st.fst.size + k ≤ limit →
    (forIn (List.range' lo k) st (occBody s sub hi limit)).run.fst.toList = st.fst.toList ++ (List.range' lo k).filter (fun i => decide (i + sub.length ≤ hi) && subAt s sub i)
  | 0, lo, st, _, _ => by simp
  | k + 1, lo, st, h2, h3 => by
    rw [List.range'_succ, List.forIn_cons]
    unfold occBody
    by_cases hc : lo + sub.length ≤ hi ∧ subAt s sub lo = true
    · have c1 : (((st.fst.size < limit ∧ st.snd ≤ lo) ∧ lo + sub.length ≤ hi) ∧ subAt s sub lo = true) := ⟨⟨⟨by omega, h2⟩, hc.1⟩, hc.2⟩
      rw [if_pos c1]
      have ih := occ_all s sub hi limit hs h1 k (lo + 1) (st.fst.push lo, lo + sub.length) (by simp; omega) (by simp; omega)
      refine Eq.trans ih ?_
      have : (decide (lo + sub.length ≤ hi) && subAt s sub lo) = true := by simp [hc.1, hc.2]
      simp only [List.filter_cons, this, if_true, Array.toList_push, List.append_assoc, List.singleton_append]
    · have c2 : ¬ (((st.fst.size < limit ∧ st.snd ≤ lo) ∧ lo + sub.length ≤ hi) ∧ subAt s sub lo = true) := fun h => hc ⟨h.1.2, h.2⟩
      rw [if_neg c2]
      have ih := occ_all s sub hi limit hs h1 k (lo + 1) (st.fst, st.snd) (by simp; omega) (by simp; omega)
      refine Eq.trans ih ?_
      have : (decide (lo + sub.length ≤ hi) && subAt s sub lo) = false := by
        rw [Bool.and_eq_false_iff]
        by_cases h : lo + sub.length ≤ hi
        · exact .inr (by simpa [h] using hc)
        · exact .inl (by simp [h])
      simp only [List.filter_cons, this]
      rfl
/-- cut at each c -/
def splitL (c : Nat) : List Nat → List Nat → List (List Nat)
  | acc, [] => [acc]
  | acc, x :: xs => if x = c then acc :: splitL c [] xs else splitL c (acc ++ [x]) xs
theorem parts_L (c : Nat) (L : List Nat) : ∀ (xs : List Nat) (a p : Nat) (acc : List Nat), a ≤ p → L.drop p = xs → acc = (L.drop a).take (p - a) →
    partsFrom (mk L) 1 a ((List.range' p xs.length).filter (fun i => L[i]? == some c)) = (splitL c acc xs).map mk
  | [], a, p, acc, h1, h2, h3 => by
    have hp : L.length ≤ p := by simpa using h2
    simp only [List.length_nil, List.range'_zero, List.filter_nil, partsFrom, splitL, List.map_cons, List.map_nil]
    congr 1
    apply tl_inj
    show (strSub (mk L) a (mk L).length).cps.toList = acc
    rw [strSub_toList, h3, mk_len]
    show ((tl (mk L)).drop a).take _ = _
    rw [tl_mk, List.take_of_length_le (by simp), List.take_of_length_le (by simp; omega)]
  | x :: xs, a, p, acc, h1, h2, h3 => by
    have hp : L[p]? = some x := by
      have := congrArg (fun l => l[0]?) h2
      simpa using this
    have hd : L.drop (p + 1) = xs := by
      have := congrArg List.tail h2
      simpa using this
    rw [List.length_cons, List.range'_succ, List.filter_cons, hp]
    by_cases hx : x = c
    · subst hx
      rw [if_pos (by simp), splitL, if_pos rfl, List.map_cons]
      show strSub (mk L) a p :: partsFrom (mk L) 1 (p + 1) _ = _
      rw [parts_L x L xs (p + 1) (p + 1) [] (Nat.le_refl _) hd (by simp)]
      congr 1
      apply tl_inj
      show (strSub (mk L) a p).cps.toList = acc
      rw [strSub_toList, h3]
      rfl
    · rw [if_neg (by simpa using hx), splitL, if_neg hx]
      refine parts_L c L xs a (p + 1) _ (by omega) hd ?_
      rw [h3]
      have h5 : p - a < (L.drop a).length := by
        have := (List.getElem?_eq_some_iff.mp hp).1
        simp; omega
      have e : p + 1 - a = p - a + 1 := by omega
      rw [e, List.take_succ]
      congr 1
      have : (L.drop a)[p - a]? = some x := by rw [List.getElem?_drop]; rw [← hp]; congr 1; omega
      rw [this]
      rfl
theorem split_L (c : Nat) (hc : c < 256) (L : List Nat) (h0 : L ≠ []) : Txt.split (mk L) (mk [c]) = (splitL c [] L).map mk := by
  have hl : (mk L).length = L.length := mk_len L
  have hk : Builtin.Str.strKind (mk [c]) = 1 := by simp [Builtin.Str.strKind, mk, hc]
  have hk2 : 1 ≤ Builtin.Str.strKind (mk L) := by unfold Builtin.Str.strKind; split <;> (try split) <;> omega
  have hn : 1 ≤ L.length := by cases L with
    | nil => exact absurd rfl h0
    | cons => simp
  have e1 : (decide ((mk L).length < (mk [c]).length) || decide (Builtin.Str.strKind (mk L) < Builtin.Str.strKind (mk [c]))) = false := by
    rw [hl, mk_len, hk, Bool.or_eq_false_iff]
    exact ⟨decide_eq_false (by simp; omega), decide_eq_false (by omega)⟩
  have occ : occurrences (mk L) (mk [c]) 0 (mk L).length ((mk L).length + 1) = (List.range' 0 L.length).filter (fun i => L[i]? == some c) := by
    rw [occ_eq, occ_all (mk L) (mk [c]) (mk L).length ((mk L).length + 1) (by rw [mk_len]; simp) (by rw [mk_len]; simp) ((mk L).length + 1 - 0) 0 (#[], 0) (Nat.le_refl _) (by simp), hl]
    have e2 : L.length + 1 - 0 = L.length + 1 := by omega
    rw [e2, List.range'_concat, List.filter_append]
    have e3 : (List.filter (fun i => decide (i + (mk [c]).length ≤ L.length) && subAt (mk L) (mk [c]) i) [0 + 1 * L.length]) = [] := by
      simp [mk_len]
      intro h
      omega
    rw [e3, List.append_nil]
    simp only [List.nil_append]
    apply List.filter_congr
    intro i hi
    have hi' : i < L.length := by simpa using hi
    rw [subAt_eq, mk_len]
    show (_ && (List.take _ (List.drop i (tl (mk L))) == tl (mk [c]))) = _
    rw [tl_mk, tl_mk]
    have : List.take 1 (List.drop i L) = [L[i]] := by
      rw [List.drop_eq_getElem_cons hi']
      rfl
    have e4 : decide (i + [c].length ≤ L.length) = true := by simp; omega
    rw [e4, Bool.true_and]
    show (List.take 1 (List.drop i L) == [c]) = _
    rw [this, List.getElem?_eq_getElem hi']
    simp
  have key : partsFrom (mk L) 1 0 (occurrences (mk L) (mk [c]) 0 (mk L).length ((mk L).length + 1)) = (splitL c [] L).map mk := by
    rw [occ]
    exact parts_L c L L 0 0 [] (Nat.le_refl _) rfl (by simp)
  unfold Txt.split
  rw [if_neg (by rw [e1]; simp)]
  split
  · rename_i h
    have h' : occurrences (mk L) (mk [c]) 0 (mk L).length ((mk L).length + 1) = [] := by simpa using h
    rw [h'] at key
    rw [← key]
    show [mk L] = [strSub (mk L) 0 (mk L).length]
    rw [sub_whole]
  · rw [partsBetween_eq]
    exact key
theorem splitL_line (c : Nat) : ∀ (l rest acc : List Nat), c ∉ l → splitL c acc (l ++ c :: rest) = (acc ++ l) :: splitL c [] rest
  | [], rest, acc, _ => by simp [splitL]
  | x :: l, rest, acc, h => by
    have hx : ¬ x = c := fun e => h (by simp [e])
    rw [List.cons_append, splitL, if_neg hx, splitL_line c l rest _ (fun hm => h (List.mem_cons_of_mem _ hm))]
    simp
theorem splitL_end (c : Nat) : ∀ (l acc : List Nat), c ∉ l → splitL c acc l = [acc ++ l]
  | [], acc, _ => by simp [splitL]
  | x :: l, acc, h => by
    have hx : ¬ x = c := fun e => h (by simp [e])
    rw [splitL, if_neg hx, splitL_end c l _ (fun hm => h (List.mem_cons_of_mem _ hm))]
    simp
/-- the lines, each with its end, but for the last end -/
theorem splitL_lines (c : Nat) : ∀ (ls : List (List Nat)), ls ≠ [] → (∀ l ∈ ls, c ∉ l) → splitL c [] ((ls.map (· ++ [c])).flatten.dropLast) = ls
  | [], h, _ => absurd rfl h
  | [l], _, h => by
    simp only [List.map_cons, List.map_nil, List.flatten_cons, List.flatten_nil, List.append_nil, List.dropLast_concat]
    rw [splitL_end c l [] (h l (by simp))]
    rfl
  | l :: m :: ls, _, h => by
    have hne : ((m :: ls).map (· ++ [c])).flatten ≠ [] := by simp
    rw [List.map_cons, List.flatten_cons, List.append_assoc, List.singleton_append, List.dropLast_append_of_ne_nil (by simp), List.dropLast_cons_of_ne_nil hne, splitL_line c l _ _ (h l (by simp)),
      splitL_lines c (m :: ls) (by simp) (fun x hx => h x (List.mem_cons_of_mem _ hx))]
    rfl
end M


set_option Elab.async false
set_option linter.all false
set_option maxRecDepth 100000
set_option maxHeartbeats 4000000
namespace M
open PySem PySem.Spec PyProof.Rows L2 RZ
variable [Tabs]
/-! ### range with a step, list(range) -/
theorem jok_rngC {K : PySem.W.Frag} {ρ : Rh} {H : Hp} (lo c : Int) (n : Nat) : JOk K ⟨rngC lo c n, []⟩ (Itc lo c n) ρ H :=
  jok_at (fun _ => True) walk_rangeC (by simp [rngC]) (fun _ _ _ _ _ _ => trivial) fun ρ' H' S' i d x H'' f R' ok hd y => by
    obtain ⟨rfl, rfl⟩ := y
    have hi : i < n := by have := (List.getElem?_eq_some_iff.mp hd).1; simpa [rngC] using this
    simp only [rngC, List.getElem?_map, List.getElem?_range hi, Option.map_some, Option.some.injEq] at hd
    subst hd
    exact ⟨rfl, .int _⟩
def rgOk (i j c : Int) : Bool := decide (c ≠ 0 ∧ c.natAbs < 1073741824 ∧ Builtin.Range.small i j c = true ∧ 0 ≤ Builtin.Range.rangeSize i j c)
def srcR3 : List D → Store → Option Src
  | [.int i, .int j, .int c], _ => if rgOk i j c then some ⟨rngC i c (Builtin.Range.rangeSize i j c).toNat, []⟩ else none
  | _, _ => none
theorem reps3 {K : PySem.W.Frag} {ρ : Rh} {H : Hp} {d e f : D} {vs : List V} (h : RepDs K ρ H [d, e, f] vs) : ∃ v w u, vs = [v, w, u] ∧ RepD K ρ H d v ∧ RepD K ρ H e w ∧ RepD K ρ H f u := by
  cases h with
  | cons a h => cases h with
    | cons b h => cases h with
      | cons c h => cases h; exact ⟨_, _, _, rfl, a, b, c⟩
section
variable {X : Cx} {W : WX} {tg a b c e : Expr} {m : MA} {ma mb : ME} {p pos : Pos}
theorem im_range3 (hg : Gl X "range") (hm : X.mg "range" = none) (ha : AM X W [a, b, c] m) (hs : starEach [a, b, c] X.env = (false, eval a X.env) :: starEach [b, c] X.env := by rfl) (hpl : (backTo pos (starEach [b, c] X.env)).any (·.1) = false := by rfl) : IM X W tg (.Call (.Name "range" p) [a, b, c] [] pos) (mSrcA srcR3 m) :=
  pi_imp (pi_range3 hg hm ha hs hpl) fun σ H R' h => tA_src (fun ρ H ds vs S src R r hk q => by
    unfold srcR3 at hk
    split at hk
    · rename_i i j k
      split at hk
      · rename_i hj
        cases hk
        obtain ⟨v, w, u, rfl, r1, r2, r3⟩ := reps3 r
        cases r1
        cases r2
        cases r3
        unfold rgOk at hj
        simp only [decide_eq_true_eq] at hj
        exact ⟨i, j, k, _, rfl, ⟨hj.1, hj.2.1, hj.2.2.1, (Int.toNat_of_nonneg hj.2.2.2).symm⟩, q _ (jok_rngC i k _)⟩
      · cases hk
    · cases hk) h
theorem src_up {i j c : Int} {S : Store} (c0 : 0 < c) (c1 : c < 100000) (h1 : -100000000 ≤ i) (h2 : i < 100000000) (h3 : -100000000 ≤ j) (h4 : j < 100000000) : srcR3 [.int i, .int j, .int c] S = some ⟨rngC i c ((j - i + c - 1) / c).toNat, []⟩ := by
  have hn : 0 ≤ Builtin.Range.rangeSize i j c ∧ Builtin.Range.rangeSize i j c ≤ 200000000 ∧ (Builtin.Range.rangeSize i j c).toNat = ((j - i + c - 1) / c).toNat := by
    unfold Builtin.Range.rangeSize
    rw [if_pos c0]
    by_cases hij : i < j
    · rw [if_pos hij]
      have e : j - i + c - 1 = (j - i - 1) + c := by omega
      have e2 : (j - i - 1 + c) / c = (j - i - 1) / c + 1 := by
        rw [Int.add_ediv_of_dvd_right (Int.dvd_refl c), Int.ediv_self (by omega)]
      have e3 : 0 ≤ (j - i - 1) / c := Int.ediv_nonneg (by omega) (by omega)
      have e4 : (j - i - 1) / c ≤ j - i - 1 := Int.ediv_le_self _ (by omega)
      rw [e, e2]
      omega
    · rw [if_neg hij]
      have e : (j - i + c - 1) / c ≤ 0 := by
        have : (j - i + c - 1) / c < 1 := Int.ediv_lt_of_lt_mul c0 (by omega)
        omega
      omega
  have hs : Builtin.Range.small i j c = true := by
    unfold Builtin.Range.small
    generalize Builtin.Range.rangeSize i j c = n at hn
    rw [if_pos c0]
    simp only [Builtin.Range.rangeFitsLong, Bool.and_eq_true, Bool.or_eq_true, decide_eq_true_eq]
    omega
  have e : srcR3 [.int i, .int j, .int c] S = if rgOk i j c then some ⟨rngC i c (Builtin.Range.rangeSize i j c).toNat, []⟩ else none := rfl
  rw [e, if_pos, hn.2.2]
  exact decide_eq_true ⟨by omega, by omega, hs, hn.1⟩
theorem src_down {i j : Int} {S : Store} (h1 : -100000000 ≤ i) (h2 : i < 100000000) (h3 : -100000000 ≤ j) (h4 : j < 100000000) : srcR3 [.int i, .int j, .int (-1)] S = some ⟨rngC i (-1) (i - j).toNat, []⟩ := by
  have k := RgC.neg (i := i) (j := j) (by omega) (by omega) (by omega) (by omega)
  have e : srcR3 [.int i, .int j, .int (-1)] S = if rgOk i j (-1) then some ⟨rngC i (-1) (Builtin.Range.rangeSize i j (-1)).toNat, []⟩ else none := rfl
  rw [e, k.2.2.2, if_pos]
  · rfl
  · exact decide_eq_true ⟨k.1, k.2.1, k.2.2.1, by rw [k.2.2.2]; omega⟩
/-! list(range(n)) -/
def nRg1 : List D → Store → Option (List D)
  | [.int n], _ => if 0 ≤ n ∧ n ≤ 16777216 then some (rng 0 n.toNat) else none
  | _, _ => none
theorem rng_rep {K : PySem.W.Frag} {ρ : Rh} {H : Hp} (n : Int) : RepDs K ρ H (rng 0 n.toNat) (rgV 0 n) := by
  have e : rng 0 n.toNat = ((List.range n.toNat).map fun (i : Nat) => (0 : Int) + (i : Int)).map D.int := by rw [rng, List.map_map]; rfl
  have e2 : rgV 0 n = ((List.range n.toNat).map fun (i : Nat) => (0 : Int) + (i : Int)).map V.int := by rw [rgV, List.map_map, Int.sub_zero]; rfl
  rw [e, e2]
  exact .of_ints _
theorem nm_listRg {p2 pos2 : Pos} (hg : Gl X "list") (hm : X.mg "list" = none) (hg2 : Gl X "range") (hm2 : X.mg "range" = none) (hc : X.calm = true) (ha : EM X W a ma)
    (na : starEach [a] X.env = (false, eval a X.env) :: starEach [] X.env := by rfl)
    (nb : starEach [.Call (.Name "range" p2) [a] [] pos2] X.env = (false, eval (.Call (.Name "range" p2) [a] [] pos2) X.env) :: starEach [] X.env := by rfl) :
    NM X W (.Call (.Name "list" p) [.Call (.Name "range" p2) [a] [] pos2] [] pos) (mCallN nRg1 (mCons ma mNil)) :=
  pe_imp (pe_listRg hc hg hm (prg_1 hg2 hm2 ha na) nb) fun σ H Q ⟨ρ, e, S, he, R, q⟩ => ⟨ρ, e, S, he, R, by
    have q := PostN.bind q
    unfold mCons at q
    refine (Post.bind q).mono fun d S1 ρ1 H1 f1 R1 q v r => ?_
    have q : PostN X.K X.mg W ρ1 H1 σ Q (Res.of (nRg1 [d] S1) S1) := q ρ1 H1 (Fr.refl _ _) R1
    cases d with
    | int n =>
      by_cases hn : 0 ≤ n ∧ n ≤ 16777216
      · have e1 : nRg1 [.int n] S1 = some (rng 0 n.toNat) := if_pos hn
        rw [e1] at q
        cases r
        exact ⟨n, rfl, RgOk.of_le (by omega) hn.2 (by omega) hn.1, PostN.of_new R1 (rng_rep n) q⟩
      · have e1 : nRg1 [.int n] S1 = none := if_neg hn
        rw [e1] at q; exact q.elim
    | _ => exact q.elim⟩
/-- two lists, one behind the other: a new list -/
def mCat (a b : ME) : MA := fun e S => (a e S).bind fun x S1 => (b e S1).bind fun y S2 => .of (match lstOf' S2 x, lstOf' S2 y with
  | some xs, some ys => if xs.length + ys.length ≤ sizeLine then some (xs ++ ys) else none
  | _, _ => none) S2
theorem nm_cat (ha : EM X W a ma) (hb : EM X W b mb) : NM X W (.BinOp a .Add b pos) (mCat ma mb) :=
  pe_imp (pe_op op_cat ha hb) fun σ H Q ⟨ρ, e, S, he, R, q⟩ => ⟨ρ, e, S, he, R, (PostN.bind q).mono fun x S1 ρ1 H1 f1 R1 q v rv => ⟨ρ1, e, S1, he.fr R.free f1, R1, (PostN.bind q).mono fun y S2 ρ2 H2 f2 R2 q w rw' => by
    have rv2 := RepD.fr R1.free f2 _ _ rv
    cases h1 : lstOf' S2 x with
    | none => rw [h1] at q; exact q.elim
    | some xs =>
      cases h2 : lstOf' S2 y with
      | none => rw [h1, h2] at q; exact q.elim
      | some ys =>
        rw [h1, h2] at q
        dsimp only at q
        by_cases hz : xs.length + ys.length ≤ sizeLine
        · rw [if_pos hz] at q
          obtain ⟨a, vs, rfl, hA, ra⟩ := lstOf'_rep R2 rv2 h1
          obtain ⟨b, ws, rfl, hB, rb⟩ := lstOf'_rep R2 rw' h2
          exact ⟨a, b, vs, ws, rfl, rfl, hA, hB, by rw [← ra.length, ← rb.length]; exact hz, PostN.of_new R2 (ra.append rb) q⟩
        · rw [if_neg hz] at q; exact q.elim⟩⟩
end
end M


set_option Elab.async false
set_option linter.all false
set_option maxRecDepth 100000
set_option maxHeartbeats 4000000
/-! What every law has: its draws, one taken, likeness; and plain lemmas of these. -/
namespace M
open PySem PySem.Spec PyProof.Rows L2
noncomputable def b__law_draws_1 : MS := (sSeq (sSet (gN 4) (mBin dMod (mCall dInt (mCons (mBin dAdd (mBin dMul (mVar 3) (mC (.int 48271))) (mC (.int 11))) mNil)) (mC (.int 2147483647)))) (sSeq (sExpr (mMeth "list" gAppend (mVar 1) (mCons (mBin dMod (mCall dInt (mCons (mBin dAdd (mBin dMul (mVar 4) (mC (.int 69621))) (mVar 3)) mNil)) (mC (.int 2147483629))) mNil))) (sSeq (sExpr (mMeth "list" gAppend (mVar 1) (mCons (mBin dMod (mCall dInt (mCons (mBin dAdd (mVar 4) (mBin dFdiv (mVar 3) (mC (.int 7)))) mNil)) (mC (.int 1000003))) mNil))) (sSet (gN 3) (mC (.int 0))))))
noncomputable def b__law_draws_2 : MS := (sSeq (sExpr (mMeth "list" gAppend (mVar 1) (mCons (mBin dMod (mCall dInt (mCons (mVar 3) mNil)) (mC (.int 997))) mNil))) (sSet (gN 3) (mBin dFdiv (mVar 3) (mC (.int 997)))))
noncomputable def l__law_draws_3 : MS := (sIf (mB (mBin dGt (mVar 3) (mC (.int 0)))) b__law_draws_2 sSkip)
noncomputable def l__law_draws_4 : MS := (sSeq (sSet (gN 3) (mCall dAbs (mCons (mVar 2) mNil))) (sSeq (sIf (mB (mBin dLt (mVar 3) (mBin dPow (mC (.int 10)) (mC (.int 18))))) b__law_draws_1 sSkip) (sFor (mSrcA srcR1 (mCons (mC (.int 60)) mNil)) (gN 5) l__law_draws_3)))
noncomputable def b__law_draws_5 : MS := (sSet (gN 6) (mBin dAdd (mC (.int 1)) (mCall dAbs (mCons (mBin dIx (mVar 0) (mC (.int 0))) mNil))))
noncomputable def l__law_draws_6 : MS := (sSeq (sSet (gN 6) (mBin dMod (mCall dInt (mCons (mBin dAdd (mBin dMul (mVar 6) (mC (.int 48271))) (mC (.int 69621))) mNil)) (mC (.int 2147483647)))) (sExpr (mMeth "list" gAppend (mVar 1) (mCons (mBin dFdiv (mVar 6) (mC (.int 5))) mNil))))
noncomputable def b__law_draws : MS := (sSeq (sSet (gN 1) (asL (mLst mNil))) (sSeq (sFor (mSrc (mVar 0)) (gN 2) l__law_draws_4) (sSeq (sSet (gN 6) (mC (.int 1))) (sSeq (sIf (mB (mBin dGt (mCall dLen (mCons (mVar 0) mNil)) (mC (.int 0)))) b__law_draws_5 sSkip) (sSeq (sFor (mSrcA srcR1 (mCons (mC (.int 900)) mNil)) (gN 5) l__law_draws_6) (sRet (asL (mListRev (mVar 1)))))))))
noncomputable def m__law_draws : List D → Store → Res D := retK (runF 7 b__law_draws)
noncomputable def b__law_take : MS := (sSeq (sIf (mB (mBin dEq (mCall dLen (mCons (mVar 0) mNil)) (mC (.int 0)))) (sRet (mC (.int 0))) sSkip) (sRet (mBin dMod (mCall dInt (mCons (mMeth "list" gPop (mVar 0) mNil) mNil)) (mVar 1))))
noncomputable def m__law_take : List D → Store → Res D := retV (runF 2 b__law_take)
noncomputable def t__law_alike_1 (g : List D → Store → Res D) : MT := (mNot (mTru (mCallF 2 g (mCons (mBin dIx (mVar 0) (mVar 2)) (mCons (mBin dIx (mVar 1) (mVar 2)) mNil)))))
noncomputable def b__law_alike_2 (g : List D → Store → Res D) : MS := (sSeq (sIf (mOr (mB (mBin dNe (mCall dIsInst (mCons (mVar 0) (mCons (mC (.ty "list")) mNil))) (mCall dIsInst (mCons (mVar 1) (mCons (mC (.ty "list")) mNil))))) (mB (mBin dNe (mCall dIsInst (mCons (mVar 0) (mCons (mC (.ty "tuple")) mNil))) (mCall dIsInst (mCons (mVar 1) (mCons (mC (.ty "tuple")) mNil)))))) (sRet (mC (.bl false))) sSkip) (sRet (mAndV (mBin dEq (mCall dLen (mCons (mVar 0) mNil)) (mCall dLen (mCons (mVar 1) mNil))) (mBin dEq (asV (mLc (mSrcA srcR1 (mCons (mCall dLen (mCons (mVar 1) mNil)) mNil)) (gN 2) (t__law_alike_1 g) (mVar 2) [2])) (asV (mLst mNil))))))
noncomputable def b__law_alike_3 (g : List D → Store → Res D) : MS := (sRet (mBin dIs (mVar 0) (mC .non)))
noncomputable def b__law_alike_4 (g : List D → Store → Res D) : MS := (sRet (mAndV (mCall dIsInst (mCons (mVar 0) (mCons (mC (.ty "bool")) mNil))) (mAndV (mCall dIsInst (mCons (mVar 1) (mCons (mC (.ty "bool")) mNil))) (mBin dEq (mVar 0) (mVar 1)))))
noncomputable def b__law_alike_5 (g : List D → Store → Res D) : MS := (sRet (mAndV (mCall dIsInst (mCons (mVar 0) (mCons (mC (.ty "int")) mNil))) (mBin dEq (mVar 0) (mVar 1))))
noncomputable def b__law_alike (g : List D → Store → Res D) : MS := (sSeq (sIf (mOr (mTru (mCall dIsInst (mCons (mVar 1) (mCons (mC (.ty "list")) mNil)))) (mTru (mCall dIsInst (mCons (mVar 1) (mCons (mC (.ty "tuple")) mNil))))) (b__law_alike_2 g) sSkip) (sSeq (sIf (mB (mBin dIs (mVar 1) (mC .non))) (b__law_alike_3 g) sSkip) (sSeq (sIf (mOr (mTru (mCall dIsInst (mCons (mVar 1) (mCons (mC (.ty "bool")) mNil)))) (mTru (mCall dIsInst (mCons (mVar 0) (mCons (mC (.ty "bool")) mNil))))) (b__law_alike_4 g) sSkip) (sSeq (sIf (mTru (mCall dIsInst (mCons (mVar 1) (mCons (mC (.ty "int")) mNil)))) (b__law_alike_5 g) sSkip) (sRet (mAndV (mCall dIsInst (mCons (mVar 0) (mCons (mC (.ty "str")) mNil))) (mBin dEq (mVar 0) (mVar 1))))))))
noncomputable def r__law_alike : Nat → List D → Store → Res D
  | 0 => fun _ _ => .bad
  | n + 1 => retV (runF 3 (b__law_alike (r__law_alike n)))
noncomputable def m__law_alike := r__law_alike 8
section
variable [Tabs]
/-- the store of the law: the draws that are left -/
abbrev St (l : List Int) : Store := [OB.lst (I l)]
theorem clS_St (l : List Int) (n : Nat) : clS n (St l) = true := by simp [clS, clO, cls_I]
theorem take_ex (b : Int) (hb : 0 < b) (l : List Int) : ∃ k l', 0 ≤ k ∧ k < b ∧ m__law_take [.loc 0, .int b] (St l) = .ok (.int k) (St l') := by
  rcases List.eq_nil_or_concat l with rfl | ⟨l', x, rfl⟩
  · refine ⟨0, [], Int.le_refl _, hb, ?_⟩
    refine (retV_ok (d := .int 0) (S' := St []) ?_ (clS_St _ _) rfl).trans rfl
    simp [runF, b__law_take, dLen, seqOf, lstOf]
  · refine ⟨x % b, l', Int.emod_nonneg _ (by omega), Int.emod_lt_of_pos _ hb, ?_⟩
    refine (retV_ok (d := .int (x % b)) (S' := St l') ?_ (clS_St _ _) rfl).trans rfl
    have h0 : ¬ ((l'.length : Int) + 1 = 0) := by omega
    simp [runF, b__law_take, dLen, seqOf, lstOf, rcv, gPop, x_mod hb, h0]
theorem a1 {w : Nat} (h : w ≤ 40) : w ≤ sizeLine := Nat.le_trans h (by decide)
theorem a2 {w : Nat} (h : w ≤ 40) : M.inR (w : Int) = true := by
  unfold M.inR
  rw [decide_eq_true_eq]
  constructor <;> omega
theorem a3 {w : Nat} {S : Store} (hr : M.inR (w : Int) = true) : srcR1 [.int w] S = some ⟨rng 0 w, []⟩ := by
      simp only [srcR1, hr, if_true, Int.toNat_natCast]
theorem a4 {w : Nat} (hw : w ≤ 40) : (rng 0 w).length ≤ sizeLine := by rw [rng, List.length_map, List.length_range]; exact a1 hw
theorem a5 {w : Nat} {ys : List D} (hl : ys.length = (rng 0 w).length) : ys.length = w := by simpa [rng] using hl
theorem a6 {ys : List D} {l' : List Int} : dTuple [.lst ys] (St l') = some (.tup ys) := rfl
theorem t1 (ys xs : List D) (e : M.Env) (me : ME) (s v : Nat) (S S' : Store) (hz : xs.length ≤ sizeLine) (h : lcM ⟨xs, []⟩ (gN s) mYes me (wipeE e [s]) xs S = .ok ys S') (s1 : (mSrcA srcR1 (mCons (mVar v) mNil)) e S = .ok ⟨xs, []⟩ S) :
   (mCall dTuple (mCons (asV (mLc (mSrcA srcR1 (mCons (mVar v) mNil)) (gN s) mYes me [s])) mNil)) e S = .ok (.tup ys) S' := by
  have s2 : (mLc (mSrcA srcR1 (mCons (mVar v) mNil)) (gN s) mYes me [s]) e S = .ok ys S' := by rw [x_mLc, s1, Res.bind_ok, if_pos hz, h]
  have h5 : dTuple [.lst ys] S' = some (.tup ys) := rfl
  simp only [x_mCall, x_mCons, x_asV, s2, Res.bind_ok, x_mNil, h5, Res.of_some]
theorem rng_mem {n : Nat} {d : D} (h : d ∈ rng 0 n) : ∃ j : Int, d = .int j := by
  obtain ⟨i, _, rfl⟩ := List.mem_map.mp h
  exact ⟨_, rfl⟩
theorem t2 {P : D → Prop} (me : ME) (e : M.Env) (v s w : Nat) (hc : ∀ (j : Int) l, ∃ y l', P y ∧ me ((wipeE e [s]).set s (some (.int j))) (St l) = .ok y (St l')) (l : List Int) :
  ∃ ys l', ys.length = (rng 0 w).length ∧ (∀ y ∈ ys, P y) ∧ lcM ⟨rng 0 w, []⟩ (gN s) mYes me (wipeE e [s]) (rng 0 w) (St l) = .ok ys (St l') := by
  apply lc_run (t := gN s) (me := me) (e := wipeE e [s]) (xs := rng 0 w) (P := P) St (rng 0 w) l
  intro d hd l
  obtain ⟨j, hj⟩ := rng_mem hd
  obtain ⟨y, l', hp, hy⟩ := hc j l
  rw [hj]
  exact ⟨_, y, l', rfl, hp, hy⟩
theorem t3a (e : M.Env) (v : Nat) (d : D) (hv : e[v]? = some (some d)) (S : Store) : mVar v e S = .ok d S := by
  simp only [x_mVar, hv]
theorem t3b (e : M.Env) (d : D) (a : ME) (S : Store) (src : Src) (f : List D → Store → Option Src) (h1 : a e S = .ok d S) (h2 : f [d] S = some src) : (mSrcA f (mCons a mNil)) e S = .ok src S := by
  simp only [x_mSrcA, x_mCons, h1, Res.bind_ok, x_mNil, h2, Res.of_some]
theorem t3 (e : M.Env) (v w : Nat) (hv : e[v]? = some (some (.int w))) (hw : w ≤ 40) (S : Store) : (mSrcA srcR1 (mCons (mVar v) mNil)) e S = .ok ⟨rng 0 w, []⟩ S :=
  t3b e (.int w) _ S _ _ (t3a e v _ hv S) (a3 (a2 hw))
theorem grid1 {P : D → Prop} (me : ME) (e : M.Env) (v s w : Nat) (hw : w ≤ 40) (hv : e[v]? = some (some (.int w))) (hc : ∀ (j : Int) l, ∃ y l', P y ∧ me ((wipeE e [s]).set s (some (.int j))) (St l) = .ok y (St l')) (l : List Int) :
    ∃ ys l', ys.length = w ∧ (∀ y ∈ ys, P y) ∧ (mCall dTuple (mCons (asV (mLc (mSrcA srcR1 (mCons (mVar v) mNil)) (gN s) mYes me [s])) mNil)) e (St l) = .ok (.tup ys) (St l') := by
  obtain ⟨ys, l', h1, h2, h3⟩ := t2 me e v s w hc l
  exact ⟨ys, l', a5 h1, h2, t1 ys (rng 0 w) e me s v (St l) (St l') (a4 hw) h3 (t3 e v w hv hw (St l))⟩
theorem ints_of {P : Int → Prop} : ∀ {ys : List D}, (∀ y ∈ ys, ∃ x, y = .int x ∧ P x) → ∃ r, ys = I r ∧ ∀ x ∈ r, P x
  | [], _ => ⟨[], rfl, by simp⟩
  | y :: ys, h => by
    obtain ⟨x, rfl, hx⟩ := h y (by simp)
    obtain ⟨r, rfl, hr⟩ := ints_of fun z hz => h z (List.mem_cons_of_mem _ hz)
    refine ⟨x :: r, rfl, fun z hz => ?_⟩
    rcases List.mem_cons.mp hz with rfl | hz
    · exact hx
    · exact hr z hz
theorem rows_of {P : List Int → Prop} : ∀ {ys : List D}, (∀ y ∈ ys, ∃ r, y = .tup (I r) ∧ P r) → ∃ a : List (List Int), ys = a.map (fun r => .tup (I r)) ∧ ∀ r ∈ a, P r
  | [], _ => ⟨[], rfl, by simp⟩
  | y :: ys, h => by
    obtain ⟨x, rfl, hx⟩ := h y (by simp)
    obtain ⟨r, rfl, hr⟩ := rows_of fun z hz => h z (List.mem_cons_of_mem _ hz)
    refine ⟨x :: r, rfl, fun z hz => ?_⟩
    rcases List.mem_cons.mp hz with rfl | hz
    · exact hx
    · exact hr z hz
def ab (x : Int) : Int := if x < 0 then -x else x
theorem for_ex {xs : List D} {g : MG} {b : MS} (Inv : Nat → M.Env → Store → Prop) : ∀ (ds : List D) (k : Nat) (e : M.Env) (S : Store), Inv k e S →
    (∀ d ∈ ds, ∀ k' e S, k' < k + ds.length → Inv k' e S → ∃ e1 e2 S2, g d e S = some e1 ∧ b e1 S = some (.nx, e2, S2) ∧ Inv (k' + 1) e2 S2) → ∃ e' S', Inv (k + ds.length) e' S' ∧ M.forM ⟨xs, []⟩ g b ds e S = some (.nx, e', S')
  | [], k, e, S, h, _ => ⟨e, S, h, for_nil⟩
  | d :: ds, k, e, S, h, hs => by
    obtain ⟨e1, e2, S2, h1, h2, h3⟩ := hs d (by simp) k e S (by simp) h
    obtain ⟨e', S', h4, h5⟩ := for_ex Inv ds (k + 1) e2 S2 h3 fun d hd k' e S hk => hs d (List.mem_cons_of_mem _ hd) k' e S (by simp only [List.length_cons]; omega)
    refine ⟨e', S', ?_, (for_cons h1 h2).trans h5⟩
    have : k + 1 + ds.length = k + (d :: ds).length := by simp; omega
    rwa [this] at h4
theorem src_rng (n : Nat) (h : n ≤ 100000) {e : M.Env} {S : Store} {m : ME} (hm : m e S = .ok (.int n) S) : mSrcA srcR1 (mCons m mNil) e S = .ok ⟨rng 0 n, []⟩ S := by
  have hr : M.inR (n : Int) = true := by
    unfold M.inR
    rw [decide_eq_true_eq]
    constructor <;> omega
  rw [x_mSrcA, one_ok hm, Res.bind_ok, a3 hr]
  rfl
theorem rng_len (n : Nat) : (rng 0 n).length = n := by rw [rng, List.length_map, List.length_range]
theorem app_st {e : M.Env} {me : ME} {l : List Int} {v : Int} (h1 : e[1]? = some (some (.loc 0))) (h2 : me e (St l) = .ok (.int v) (St l)) (hl : l.length < 100000) :
    sExpr (mMeth "list" gAppend (mVar 1) (mCons me mNil)) e (St l) = some (.nx, e, St (l ++ [v])) := by
  have h3 := app_last (S := []) (xs := I l) (y := .int v) (by rw [I, List.length_map]; exact hl)
  refine expr_ok (d := .non) (meth_ok (var_ok h1) (rcv_last (S := [])) (one_ok h2) (h3.trans ?_))
  rw [St, I, I, List.map_append]
  rfl
theorem mulc (x : Int) (c : Int) (hc : c.natAbs < 2 ^ 64) (S : Store) : dMul (.int x) (.int c) S = some (.int (x * c)) := x_mul (.inr hc)
theorem in_loop (o0 o2 : D) (e4 e6 : Option D) (left : Int) (l : List Int) (e5 : Option D) (hl : l.length ≤ 50000) :
    ∃ e' l', e'[0]? = some (some o0) ∧ e'[1]? = some (some (.loc 0)) ∧ e'.length = 7 ∧ l'.length ≤ l.length + 60 ∧
      sFor (mSrcA srcR1 (mCons (mC (.int 60)) mNil)) (gN 5) l__law_draws_3 [some o0, some (.loc 0), some o2, some (.int left), e4, e5, e6] (St l) = some (.nx, e', St l') := by
  obtain ⟨e', S', ⟨lf, l', e5', h1, rfl, rfl⟩, h2⟩ := for_ex (xs := rng 0 60) (g := gN 5) (b := l__law_draws_3) (fun k e S => ∃ left l' e5, l'.length ≤ l.length + k ∧ e = [some o0, some (.loc 0), some o2, some (.int left), e4, e5, e6] ∧ S = St l') (rng 0 60) 0
    [some o0, some (.loc 0), some o2, some (.int left), e4, e5, e6] (St l) ⟨left, l, e5, Nat.le_refl _, rfl, rfl⟩ (by
      rintro d hd k e S hk ⟨left, l', e5, hl', rfl, rfl⟩
      rw [rng_len] at hk
      by_cases h0 : 0 < left
      · refine ⟨_, [some o0, some (.loc 0), some o2, some (.int (left / 997)), e4, some d, e6], St (l' ++ [left % 997]), rfl, ?_, _, _, _, ?_, rfl, rfl⟩
        · refine (if_t (b_ok (c := true) (bin_ok (var_ok rfl) rfl ?_))).trans ?_
          · rw [x_gt, decide_eq_true h0]
          · refine (seq_nx (app_st rfl (bin_ok (call_ok (one_ok (var_ok rfl)) x_int) rfl (x_mod (by decide))) (by omega))).trans ?_
            exact set_ok (bin_ok (var_ok rfl) rfl (x_fdiv (by decide)))
        · simp only [List.length_append, List.length_singleton]; omega
      · refine ⟨_, [some o0, some (.loc 0), some o2, some (.int left), e4, some d, e6], St l', rfl, if_skip (b_ok (c := false) (bin_ok (var_ok rfl) rfl ?_)), _, _, _, ?_, rfl, rfl⟩
        · rw [x_gt, decide_eq_false h0]
        · omega)
  refine ⟨_, l', rfl, rfl, rfl, ?_, for_ok (src_rng 60 (by decide) rfl) h2⟩
  rw [rng_len] at h1
  omega
theorem x_pow {x y : Int} {S : Store} (h : 0 ≤ y ∧ y ≤ 1000000 ∧ x.natAbs < 2 ^ 64) : dPow (.int x) (.int y) S = some (.int (x ^ y.toNat)) := if_pos h
theorem num_step (o0 : D) (n : Int) (e3 e4 e5 e6 : Option D) (l : List Int) (hl : l.length ≤ 40000) :
    ∃ e' l', e'[0]? = some (some o0) ∧ e'[1]? = some (some (.loc 0)) ∧ e'.length = 7 ∧ l'.length ≤ l.length + 62 ∧
      l__law_draws_4 [some o0, some (.loc 0), some (.int n), e3, e4, e5, e6] (St l) = some (.nx, e', St l') := by
  have s1 : sSet (gN 3) (mCall dAbs (mCons (mVar 2) mNil)) [some o0, some (.loc 0), some (.int n), e3, e4, e5, e6] (St l) = some (.nx, [some o0, some (.loc 0), some (.int n), some (.int (ab n)), e4, e5, e6], St l) :=
    set_ok (call_ok (one_ok (var_ok rfl)) x_abs)
  have hp : ∀ (e : M.Env) (S : Store), mBin dPow (mC (.int 10)) (mC (.int 18)) e S = .ok (.int (10 ^ 18)) S := fun e S => bin_ok rfl rfl (x_pow (by decide))
  by_cases h0 : ab n < 10 ^ 18
  · obtain ⟨e', l', a0, a1, a2, a3, hi⟩ := in_loop o0 (.int n) (some (.int ((ab n * 48271 + 11) % 2147483647))) e6 0 (l ++ [((ab n * 48271 + 11) % 2147483647 * 69621 + ab n) % 2147483629] ++ [((ab n * 48271 + 11) % 2147483647 + ab n / 7) % 1000003]) e5
      (by simp only [List.length_append, List.length_singleton]; omega)
    refine ⟨e', l', a0, a1, a2, ?_, ?_⟩
    · simp only [List.length_append, List.length_singleton] at a3; omega
    refine (seq_nx s1).trans ((seq_nx (e1 := [some o0, some (.loc 0), some (.int n), some (.int 0), some (.int ((ab n * 48271 + 11) % 2147483647)), e5, e6]) (S1 := St (l ++ [((ab n * 48271 + 11) % 2147483647 * 69621 + ab n) % 2147483629] ++ [((ab n * 48271 + 11) % 2147483647 + ab n / 7) % 1000003])) ?_).trans hi)
    refine (if_t (b_ok (c := true) (bin_ok (var_ok rfl) (hp _ _) ?_))).trans ?_
    · rw [x_lt, decide_eq_true h0]
    refine (seq_nx (set_ok (bin_ok (call_ok (one_ok (bin_ok (bin_ok (var_ok rfl) rfl (mulc _ _ (by decide) _)) rfl x_add)) x_int) rfl (x_mod (by decide))))).trans ?_
    refine (seq_nx (app_st rfl (bin_ok (call_ok (one_ok (bin_ok (bin_ok (var_ok rfl) rfl (mulc _ _ (by decide) _)) (var_ok rfl) x_add)) x_int) rfl (x_mod (by decide))) (by omega))).trans ?_
    refine (seq_nx (app_st rfl (bin_ok (call_ok (one_ok (bin_ok (var_ok rfl) (bin_ok (var_ok rfl) rfl (x_fdiv (by decide))) x_add)) x_int) rfl (x_mod (by decide))) (by simp only [List.length_append, List.length_singleton]; omega))).trans ?_
    exact set_ok rfl
  · obtain ⟨e', l', a0, a1, a2, a3, hi⟩ := in_loop o0 (.int n) e4 e6 (ab n) l e5 (by omega)
    refine ⟨e', l', a0, a1, a2, by omega, ?_⟩
    refine (seq_nx s1).trans ((seq_nx (if_skip (b_ok (c := false) (bin_ok (var_ok rfl) (hp _ _) ?_)))).trans hi)
    rw [x_lt, decide_eq_false h0]
theorem env7 {e : M.Env} {o0 o1 : D} (h0 : e[0]? = some (some o0)) (h1 : e[1]? = some (some o1)) (hl : e.length = 7) : ∃ e2 e3 e4 e5 e6, e = [some o0, some o1, e2, e3, e4, e5, e6] := by
  match e, hl with
  | [a, b, c, d, f, g, h], _ =>
    simp at h0 h1
    subst h0 h1
    exact ⟨c, d, f, g, h, rfl⟩
theorem draws_ex (ns : List Int) (hn : ns.length ≤ 63) : ∃ l, m__law_draws [.fro (I ns)] [] = .ok (.loc 0) (St l) := by
  suffices hs : ∃ l l' e', b__law_draws [some (.fro (I ns)), none, none, none, none, none, none] [] = some (.rt (.loc 1), e', [OB.lst (I l), OB.lst (I l')]) by
    obtain ⟨l, l', e', h⟩ := hs
    refine ⟨l', ?_⟩
    show retK (runF 7 b__law_draws) _ _ = _
    unfold retK
    have : runF 7 b__law_draws [.fro (I ns)] [] = .ok (.loc 1) [OB.lst (I l), OB.lst (I l')] := run_rt (e' := e') h
    rw [this]
    simp [clS, cls_I]
  obtain ⟨e1, S1, ⟨l1, hl1, g0, g1, g2, rfl⟩, hf1⟩ := for_ex (xs := I ns) (g := gN 2) (b := l__law_draws_4) (fun k e S => ∃ l, l.length ≤ 62 * k ∧ e[0]? = some (some (.fro (I ns))) ∧ e[1]? = some (some (.loc 0)) ∧ e.length = 7 ∧ S = St l) (I ns) 0
    [some (.fro (I ns)), some (.loc 0), none, none, none, none, none] (St []) ⟨[], Nat.zero_le _, rfl, rfl, rfl, rfl⟩ (by
      rintro d hd k e S hk ⟨l, hl, h0, h1, h2, rfl⟩
      obtain ⟨n, _, rfl⟩ := List.mem_map.mp hd
      simp only [I, List.length_map] at hk
      obtain ⟨e2, e3, e4, e5, e6, rfl⟩ := env7 h0 h1 h2
      obtain ⟨e', l', a0, a1, a2, a3, hi⟩ := num_step (.fro (I ns)) n e3 e4 e5 e6 l (by omega)
      exact ⟨_, e', St l', rfl, hi, l', by omega, a0, a1, a2, rfl⟩)
  obtain ⟨b2, b3, b4, b5, b6, rfl⟩ := env7 g0 g1 g2
  simp only [I, List.length_map, Nat.zero_add] at hl1
  have tail : ∀ (st : Int), ∃ l l' e', sSeq (sFor (mSrcA srcR1 (mCons (mC (.int 900)) mNil)) (gN 5) l__law_draws_6) (sRet (asL (mListRev (mVar 1)))) [some (.fro (I ns)), some (.loc 0), b2, b3, b4, b5, some (.int st)] (St l1) = some (.rt (.loc 1), e', [OB.lst (I l), OB.lst (I l')]) := by
    intro st
    obtain ⟨e', S', ⟨st', l2, b5', hl2, rfl, rfl⟩, hf2⟩ := for_ex (xs := rng 0 900) (g := gN 5) (b := l__law_draws_6) (fun k e S => ∃ st l b5, l.length ≤ l1.length + k ∧ e = [some (.fro (I ns)), some (.loc 0), b2, b3, b4, b5, some (.int st)] ∧ S = St l) (rng 0 900) 0
      [some (.fro (I ns)), some (.loc 0), b2, b3, b4, b5, some (.int st)] (St l1) ⟨st, l1, b5, Nat.le_refl _, rfl, rfl⟩ (by
        rintro d hd k e S hk ⟨st, l, b5, hl, rfl, rfl⟩
        rw [rng_len] at hk
        refine ⟨_, _, St (l ++ [(st * 48271 + 69621) % 2147483647 / 5]), rfl, ?_, (st * 48271 + 69621) % 2147483647, _, some d, ?_, rfl, rfl⟩
        · refine (seq_nx (set_ok (bin_ok (call_ok (one_ok (bin_ok (bin_ok (var_ok rfl) rfl (mulc _ _ (by decide) _)) rfl x_add)) x_int) rfl (x_mod (by decide))))).trans ?_
          exact app_st rfl (bin_ok (var_ok rfl) rfl (x_fdiv (by decide))) (by omega)
        · simp only [List.length_append, List.length_singleton]; omega)
    refine ⟨l2, l2.reverse, _, (seq_nx (for_ok (src_rng 900 (by decide) rfl) hf2)).trans (ret_ok ?_)⟩
    refine (asL_ok (S1 := St l2) (ds := (I l2).reverse) ?_).trans ?_
    · rfl
    · rw [← List.map_reverse]; rfl
  have hlen : dLen [.fro (I ns)] (St l1) = some (.int ns.length) := by
    show some (D.int ((I ns).length : Int)) = _
    rw [I, List.length_map]
  by_cases hp : 0 < (ns.length : Int)
  · cases ns with
    | nil => simp at hp
    | cons n ns =>
      obtain ⟨l, l', e', ht⟩ := tail (1 + ab n)
      refine ⟨l, l', e', (seq_nx (set_ok (asL_ok (lst_ok rfl (a1 (by decide)))))).trans ((seq_nx (for_ok (S1 := St []) (xs := I (n :: ns)) rfl hf1)).trans ((seq_nx (set_ok rfl)).trans ((seq_nx ?_).trans ht)))⟩
      refine (if_t (b_ok (c := true) (bin_ok (call_ok (one_ok (var_ok rfl)) hlen) rfl ?_))).trans ?_
      · rw [x_gt, decide_eq_true hp]
      · exact set_ok (bin_ok rfl (call_ok (one_ok (bin_ok (var_ok rfl) rfl (at_nat (I (n :: ns)) 0 _ rfl))) x_abs) x_add)
  · obtain ⟨l, l', e', ht⟩ := tail 1
    refine ⟨l, l', e', (seq_nx (set_ok (asL_ok (lst_ok rfl (a1 (by decide)))))).trans ((seq_nx (for_ok (S1 := St []) (xs := I ns) rfl hf1)).trans ((seq_nx (set_ok rfl)).trans ((seq_nx (if_skip ?_)).trans ht)))⟩
    refine b_ok (c := false) (bin_ok (call_ok (one_ok (var_ok rfl)) hlen) rfl ?_)
    rw [x_gt, decide_eq_false hp]
theorem or_ff {s t : MT} (hs : s e S = .ok false S) (ht : t e S = .ok false S) : mOr s t e S = .ok false S := by rw [x_mOr, hs, Res.bind_ok]; exact ht
theorem ne_ff {x y : ME} {u v : D} (hx : x e S = .ok u S) (hy : y e S = .ok v S) (hd : dNe u v S = some (.bl false)) : mB (mBin dNe x y) e S = .ok false S := b_ok (bin_ok hx hy hd)
theorem neI {x y : Int} (h : x = y) : dNe (.int x) (.int y) S = some (.bl false) := by rw [x_neI, decide_eq_true h]; rfl
theorem neB {x y : Bool} (h : x = y) : dNe (.bl x) (.bl y) S = some (.bl false) := by rw [x_neB, decide_eq_true h]; rfl
theorem neL {x y : List Int} (h : x = y) : dNe (.lst (I x)) (.lst (I y)) S = some (.bl false) := by rw [x_neL, decide_eq_true h]; rfl
theorem neP {x y : List (List Int)} (h : x = y) : dNe (pic x) (pic y) S = some (.bl false) := by rw [x_neP, decide_eq_true h]; rfl
theorem neS {x y : PySem.Str} (h : x = y) : dNe (.str x) (.str y) S = some (.bl false) := by rw [x_neStr, decide_eq_true h]; rfl
theorem gt_ff {x y : ME} {u v : Int} (hx : x e S = .ok (.int u) S) (hy : y e S = .ok (.int v) S) (hd : u ≤ v) : mB (mBin dGt x y) e S = .ok false S := b_ok (bin_ok hx hy (by rw [x_gt, decide_eq_false (by omega)]))
/-- a function that only returns -/
theorem ret_fn {n : Nat} {m : ME} {ds : List D} {d : D} (hS : clS S.length S = true) (h : m (ds.map some ++ List.replicate (n - ds.length) none) S = .ok d S) (hd : cl S.length d = true) : retV (runF n (sRet m)) ds S = .ok d S :=
  retV_id (run_rt (ret_ok h)) hS hd
theorem take_nat (n : Nat) (hn : 0 < n) (l : List Int) : ∃ (k : Nat) (l' : List Int), k < n ∧ m__law_take [.loc 0, .int (n : Int)] (St l) = .ok (.int (k : Int)) (St l') := by
  obtain ⟨k, l', k0, k1, q⟩ := take_ex (n : Int) (by omega) l
  obtain ⟨m, rfl⟩ := Int.eq_ofNat_of_zero_le k0
  exact ⟨m, l', by omega, q⟩
end
end M


set_option Elab.async false
set_option linter.all false
set_option maxRecDepth 100000
set_option maxHeartbeats 4000000
namespace M.Mk
open PySem PySem.Spec PyProof.Rows L2 M
noncomputable def b_is_number : MS := (sRet (mAndV (mCall dIsInst (mCons (mVar 0) (mCons (mC (.ty "int")) mNil))) (mAndV (mNotV (mCall dIsInst (mCons (mVar 0) (mCons (mC (.ty "bool")) mNil)))) (mChain dLe dLe (mVar 1) (mVar 0) (mVar 2)))))
noncomputable def m_is_number : List D → Store → Res D := retV (runF 3 b_is_number)
noncomputable def e_are_bits_1 : ME := (mBin dIn (mVar 1) (mC (.str "01")))
noncomputable def b_are_bits : MS := (sRet (mAndV (mCall dIsInst (mCons (mVar 0) (mCons (mC (.ty "str")) mNil))) (mAll false (mSrc (mVar 0)) (gN 1) e_are_bits_1 [1])))
noncomputable def m_are_bits : List D → Store → Res D := retV (runF 2 b_are_bits)
noncomputable def e_written_1 : ME := (mIte (mB (mBin dEq (mBin dAnd (mBin dShr (mVar 0) (mVar 2)) (mC (.int 1))) (mC (.int 1)))) (mC (.str "1")) (mC (.str "0")))
noncomputable def b_written : MS := (sRet (mMeth "str" (gStr hJoin) (mC (.str "")) (mCons (asV (mLc (mSrcA srcR3 (mCons (mBin dSub (mVar 1) (mC (.int 1))) (mCons (mUn dNeg (mC (.int 1))) (mCons (mUn dNeg (mC (.int 1))) mNil)))) (gN 2) mYes e_written_1 [2])) mNil)))
noncomputable def m_written : List D → Store → Res D := retV (runF 3 b_written)
noncomputable def l_read_number_1 : MS := (sSet (gN 1) (mBin dAdd (mBin dMul (mC (.int 2)) (mVar 1)) (mIte (mB (mBin dEq (mVar 2) (mC (.str "1")))) (mC (.int 1)) (mC (.int 0)))))
noncomputable def b_read_number : MS := (sSeq (sSet (gN 1) (mC (.int 0))) (sSeq (sFor (mSrc (mVar 0)) (gN 2) l_read_number_1) (sRet (mVar 1))))
noncomputable def m_read_number : List D → Store → Res D := retV (runF 3 b_read_number)
noncomputable def b_check_1 : MS := (sSet (gN 1) (mBin dXor (mVar 1) (mC (.int 7))))
noncomputable def l_check_2 : MS := (sSeq (sSet (gN 3) (mBin dAnd (mBin dShr (mVar 1) (mBin dSub (mC (.int 8)) (mC (.int 1)))) (mC (.int 1)))) (sSeq (sSet (gN 1) (mBin dMod (mBin dShl (mVar 1) (mC (.int 1))) (mBin dShl (mC (.int 1)) (mC (.int 8))))) (sIf (mB (mBin dNe (mVar 3) (mIte (mB (mBin dEq (mVar 2) (mC (.str "1")))) (mC (.int 1)) (mC (.int 0))))) b_check_1 sSkip)))
noncomputable def b_check : MS := (sSeq (sSet (gN 1) (mC (.int 0))) (sSeq (sFor (mSrc (mVar 0)) (gN 2) l_check_2) (sRet (mCallF 2 m_written (mCons (mVar 1) (mCons (mC (.int 8)) mNil))))))
noncomputable def m_check : List D → Store → Res D := retV (runF 4 b_check)
noncomputable def b_data_length : MS := (sRet (mBin dMul (mBin dFdiv (mBin dSub (mBin dAdd (mBin dAdd (mBin dAdd (mC (.int 8)) (mVar 0)) (mC (.int 8))) (mC (.int 7))) (mC (.int 1))) (mC (.int 7))) (mC (.int 7))))
noncomputable def m_data_length : List D → Store → Res D := retV (runF 1 b_data_length)
noncomputable def b_body_length : MS := (sRet (mBin dMul (mBin dFdiv (mCallF 1 m_data_length (mCons (mVar 0) mNil)) (mC (.int 7))) (mBin dAdd (mC (.int 7)) (mC (.int 1)))))
noncomputable def m_body_length : List D → Store → Res D := retV (runF 1 b_body_length)
noncomputable def e_body_1 : ME := (mBin dAdd (mSlice (mVar 3) (mPart (mVar 4)) (mPart (mBin dAdd (mVar 4) (mC (.int 7))))) (mC (.str "1")))
noncomputable def b_body : MS := (sSeq (sSet (gN 2) (mBin dAdd (mCallF 2 m_written (mCons (mVar 0) (mCons (mC (.int 8)) mNil))) (mVar 1))) (sSeq (sSet (gN 3) (mBin dAdd (mVar 2) (mCallF 1 m_check (mCons (mVar 2) mNil)))) (sSeq (sSet (gN 3) (mBin dAdd (mVar 3) (mBin dMul (mC (.str "0")) (mBin dSub (mCallF 1 m_data_length (mCons (mCall dLen (mCons (mVar 1) mNil)) mNil)) (mCall dLen (mCons (mVar 3) mNil)))))) (sRet (mMeth "str" (gStr hJoin) (mC (.str "")) (mCons (asV (mLc (mSrcA srcR3 (mCons (mC (.int 0)) (mCons (mCall dLen (mCons (mVar 3) mNil)) (mCons (mC (.int 7)) mNil)))) (gN 4) mYes e_body_1 [4])) mNil))))))
noncomputable def m_body : List D → Store → Res D := retV (runF 5 b_body)
noncomputable def e_write_1 : ME := (mBin dAdd (mC (.str "000000001")) (mCallF 2 m_body (mCons (mVar 1) (mCons (mVar 2) mNil))))
noncomputable def b_write : MS := (sRet (mMeth "str" (gStr hJoin) (mC (.str "")) (mCons (asV (mLc (mSrc (mVar 0)) (gTup 2 (gCons (gN 1) (gCons (gN 2) gNil))) mYes e_write_1 [1, 2])) mNil)))
noncomputable def m_write : List D → Store → Res D := retV (runF 3 b_write)
noncomputable def e_unit_in_1 : ME := (mSlice (mVar 0) (mPart (mVar 5)) (mPart (mBin dAdd (mBin dAdd (mVar 5) (mC (.int 7))) (mC (.int 1)))))
noncomputable def e_unit_in_2 : ME := (mBin dEq (mBin dIx (mVar 6) (mC (.int 7))) (mC (.str "1")))
noncomputable def e_unit_in_3 : ME := (mSlice (mVar 6) mNo (mPart (mC (.int 7))))
noncomputable def b_unit_in : MS := (sSeq (sSet (gN 3) (mBin dAdd (mVar 1) (mCallF 1 m_body_length (mCons (mVar 2) mNil)))) (sSeq (sIf (mOr (mB (mBin dGt (mVar 3) (mCall dLen (mCons (mVar 0) mNil)))) (mAnd (mB (mBin dLt (mVar 3) (mCall dLen (mCons (mVar 0) mNil)))) (mNot (mTru (mMeth "str" (gStr hStarts) (mVar 0) (mCons (mC (.str "000000001")) (mCons (mVar 3) mNil))))))) (sRet (mC .non)) sSkip) (sSeq (sSet (gN 4) (asV (mLc (mSrcA srcR3 (mCons (mVar 1) (mCons (mVar 3) (mCons (mBin dAdd (mC (.int 7)) (mC (.int 1))) mNil)))) (gN 5) mYes e_unit_in_1 [5]))) (sSeq (sIf (mNot (mTru (mAll false (mSrc (mVar 4)) (gN 6) e_unit_in_2 [6]))) (sRet (mC .non)) sSkip) (sSeq (sSet (gN 7) (mMeth "str" (gStr hJoin) (mC (.str "")) (mCons (asV (mLc (mSrc (mVar 4)) (gN 6) mYes e_unit_in_3 [6])) mNil))) (sSeq (sPar 8 9 (mCons (mSlice (mVar 7) mNo (mPart (mBin dAdd (mC (.int 8)) (mVar 2)))) (mCons (mSlice (mVar 7) (mPart (mBin dAdd (mC (.int 8)) (mVar 2))) mNo) mNil))) (sSeq (sIf (mB (mBin dNe (mVar 9) (mBin dAdd (mCallF 1 m_check (mCons (mVar 8) mNil)) (mBin dMul (mC (.str "0")) (mBin dSub (mCall dLen (mCons (mVar 9) mNil)) (mC (.int 8))))))) (sRet (mC .non)) sSkip) (sRet (mTup (mCons (mCallF 1 m_read_number (mCons (mSlice (mVar 8) mNo (mPart (mC (.int 8)))) mNil)) (mCons (mSlice (mVar 8) (mPart (mC (.int 8))) mNo) mNil)))))))))))
noncomputable def m_unit_in : List D → Store → Res D := retV (runF 10 b_unit_in)
noncomputable def b_read_1 : MS := (sSeq (sExpr (mMeth "list" gAppend (mVar 2) (mCons (mVar 4) mNil))) (sAug 3 (fun i j => i + j) (mBin dSub (mBin dAdd (mCall dLen (mCons (mC (.str "000000001")) mNil)) (mCallF 1 m_body_length (mCons (mVar 1) mNil))) (mC (.int 1)))))
noncomputable def l_read_2 : MS := (sSeq (sSet (gN 4) (mCallF 3 m_unit_in (mCons (mVar 0) (mCons (mBin dAdd (mVar 3) (mCall dLen (mCons (mC (.str "000000001")) mNil))) (mCons (mVar 1) mNil))))) (sSeq (sIf (mB (mBin dIsNot (mVar 4) (mC .non))) b_read_1 sSkip) (sSet (gN 3) (mMeth "str" (gStr hFind) (mVar 0) (mCons (mC (.str "000000001")) (mCons (mBin dAdd (mVar 3) (mC (.int 1))) mNil))))))
noncomputable def t_read_3 : MT := (mB (mBin dGe (mVar 3) (mC (.int 0))))
noncomputable def b_read : MS := (sSeq (sIf (mNot (mTru (mCallF 1 m_are_bits (mCons (mVar 0) mNil)))) sNever sSkip) (sSeq (sIf (mNot (mTru (mCallF 3 m_is_number (mCons (mVar 1) (mCons (mC (.int 1)) (mCons (mC (.int 400)) mNil)))))) sNever sSkip) (sSeq (sPar 2 3 (mCons (asL (mLst mNil)) (mCons (mMeth "str" (gStr hFind) (mVar 0) (mCons (mC (.str "000000001")) mNil)) mNil))) (sSeq (sWhile (2^40) t_read_3 l_read_2) (sRet (mCall dTuple (mCons (mVar 2) mNil)))))))
noncomputable def m_read : List D → Store → Res D := retV (runF 5 b_read)
end M.Mk


set_option Elab.async false
set_option linter.all false
set_option maxRecDepth 100000
set_option maxHeartbeats 4000000
namespace M
open PySem PySem.Spec PyProof.Rows L2 RZ
/-! ### insertion sort -/
section
variable {α : Type} (lt : α → α → Bool)
def insB (x : α) : List α → List α
  | [] => [x]
  | y :: ys => if lt y x = true then y :: insB x ys else x :: y :: ys
def isort : List α → List α
  | [] => []
  | x :: xs => insB lt x (isort xs)
variable {lt}
theorem insB_perm (x : α) : ∀ l : List α, (insB lt x l).Perm (x :: l)
  | [] => List.Perm.refl _
  | y :: ys => by
    unfold insB
    split
    · exact ((insB_perm x ys).cons y).trans (List.Perm.swap x y ys)
    · exact List.Perm.refl _
theorem isort_perm : ∀ l : List α, (isort lt l).Perm l
  | [] => List.Perm.refl _
  | x :: xs => (insB_perm x _).trans ((isort_perm xs).cons x)
theorem insB_srtd (O : SrtO.Swo lt) (x : α) : ∀ l : List α, SrtO.Srtd lt l → SrtO.Srtd lt (insB lt x l)
  | [], _ => List.pairwise_singleton _ _
  | y :: ys, h => by
    have h1 := List.pairwise_cons.mp h
    unfold insB
    split
    · rename_i hy
      refine List.pairwise_cons.mpr ⟨fun z hz => ?_, insB_srtd O x ys h1.2⟩
      rcases List.mem_cons.mp ((insB_perm x ys).mem_iff.mp hz) with rfl | hz
      · exact O.asym _ _ hy
      · exact h1.1 z hz
    · rename_i hy
      have hy : lt y x = false := by simpa using hy
      refine List.pairwise_cons.mpr ⟨fun z hz => ?_, h⟩
      rcases List.mem_cons.mp hz with rfl | hz
      · exact hy
      · exact O.tr x y z hy (h1.1 z hz)
theorem isort_srtd (O : SrtO.Swo lt) : ∀ l : List α, SrtO.Srtd lt (isort lt l)
  | [] => List.Pairwise.nil
  | x :: xs => insB_srtd O x _ (isort_srtd O xs)
theorem srt_uniq (O : SrtO.Swo lt) (ha : ∀ x y, lt x y = false → lt y x = false → x = y) : ∀ {l m : List α}, SrtO.Srtd lt l → SrtO.Srtd lt m → l.Perm m → l = m
  | [], m, _, _, h => (List.Perm.eq_nil h.symm).symm
  | x :: l, [], _, _, h => absurd h.length_eq (by simp)
  | x :: l, y :: m, hl, hm, h => by
    have h1 : lt x y = false := by
      rcases List.mem_cons.mp (h.mem_iff.mp (List.mem_cons_self (a := x) (l := l))) with e | hx
      · rw [e]; exact O.refl y
      · exact SrtO.srtd_head hm x hx
    have h2 : lt y x = false := by
      rcases List.mem_cons.mp (h.mem_iff.mpr (List.mem_cons_self (a := y) (l := m))) with e | hy
      · rw [e]; exact O.refl x
      · exact SrtO.srtd_head hl y hy
    have e : x = y := ha _ _ h1 h2
    subst e
    rw [srt_uniq O ha (List.pairwise_cons.mp hl).2 (List.pairwise_cons.mp hm).2 h.cons_inv]
end
abbrev lexB := SrtO.lexB
theorem lex_swo : SrtO.Swo lexB := by
  refine ⟨fun x y h => ?_, fun x y z h1 h2 => ?_⟩
  · have a := SrtO.lexB_iff.mp h
    refine SrtO.lexB_no.mpr ?_
    omega
  · have a := SrtO.lexB_no.mp h1
    have b := SrtO.lexB_no.mp h2
    refine SrtO.lexB_no.mpr ?_
    omega
theorem lex_anti (x y : Int × Int) (h1 : lexB x y = false) (h2 : lexB y x = false) : x = y := by
  have a := SrtO.lexB_no.mp h1
  have b := SrtO.lexB_no.mp h2
  exact Prod.ext (by omega) (by omega)
def ltI (x y : Int) : Bool := decide (x < y)
theorem ltI_swo : SrtO.Swo ltI := by
  refine ⟨fun x y h => ?_, fun x y z h1 h2 => ?_⟩
  · simp only [ltI, decide_eq_true_eq, decide_eq_false_iff_not] at *; omega
  · simp only [ltI, decide_eq_false_iff_not] at *; omega
theorem ltI_anti (x y : Int) (h1 : ltI x y = false) (h2 : ltI y x = false) : x = y := by
  simp only [ltI, decide_eq_false_iff_not] at *; omega
/-! ### sorted -/
def pD (p : Int × Int) : D := .tup [.int p.1, .int p.2]
def pairsOf : List D → Option (List (Int × Int))
  | [] => some []
  | .tup [.int i, .int j] :: ds => (pairsOf ds).map ((i, j) :: ·)
  | _ => none
theorem pairsOf_eq : ∀ {ds : List D} {ps : List (Int × Int)}, pairsOf ds = some ps → ds = ps.map pD := by
  intro ds
  induction ds with
  | nil => intro ps h; simp only [pairsOf, Option.some.injEq] at h; subst h; rfl
  | cons d ds ih =>
    intro ps h
    unfold pairsOf at h
    split at h
    · rename_i heq; cases heq
    · rename_i heq
      cases heq
      cases hp : pairsOf ds with
      | none => rw [hp] at h; cases h
      | some qs =>
        rw [hp] at h
        simp only [Option.map_some, Option.some.injEq] at h
        subst h
        rw [ih hp]; rfl
    · cases h
theorem pairsOf_pD : ∀ ps : List (Int × Int), pairsOf (ps.map pD) = some ps
  | [] => rfl
  | p :: ps => by
    show (pairsOf (ps.map pD)).map _ = _
    rw [pairsOf_pD ps]; rfl
variable [Tabs]
def nSorted : List D → Store → Option (List D)
  | [d], S => (lstOf S d).bind fun xs => match pairsOf xs with
    | some ps => some ((isort lexB ps).map pD)
    | none => (intsOf xs).map fun ns => (isort ltI ns).map .int
  | _, _ => none
section
variable {X : Cx}
theorem rep_pair {K : PySem.W.Frag} {ρ : Rh} {H : Hp} {p : Int × Int} {v : V} (h : RepD K ρ H (pD p) v) : ∃ t, v = .ref t ∧ SqT K H t [.int p.1, .int p.2] := by
  cases h with
  | tup hs hd =>
    cases hd with
    | cons a hd => cases hd with
      | cons b hd => cases hd; cases a; cases b; exact ⟨_, rfl, hs⟩
theorem reps_mem {K : PySem.W.Frag} {ρ : Rh} {H : Hp} : ∀ {ps : List (Int × Int)} {vs : List V}, RepDs K ρ H (ps.map pD) vs → ∀ v ∈ vs, ∃ p, p ∈ ps ∧ RepD K ρ H (pD p) v
  | [], _, h, v, hv => by cases h; cases hv
  | p :: ps, _, h, v, hv => by
    cases h with
    | cons a h =>
      rcases List.mem_cons.mp hv with rfl | hv
      · exact ⟨p, by simp, a⟩
      · obtain ⟨q, hq, r⟩ := reps_mem h v hv
        exact ⟨q, List.mem_cons_of_mem _ hq, r⟩
theorem isPair_uniq {h : Heap} {v : Value} {x y x' y' : Int} (a : Srt.IsPair h v x y) (b : Srt.IsPair h v x' y') : x = x' ∧ y = y' := by
  obtain ⟨a1, o, t, u, n, e, ho, hc, hd⟩ := a
  obtain ⟨a2, o', t', u', n', e', ho', hc', hd'⟩ := b
  rw [e] at e'
  cases e'
  rw [ho] at ho'
  cases ho'
  rw [hd] at hd'
  injection hd' with q _
  have q := congrArg Array.toList q
  simp at q
  exact ⟨q.1.1, q.2.1⟩
open Classical in
theorem cn_sorted : CallN X (.builtin "sorted") nSorted := fun pins s σ ρ H S ds vs us Q I R r rv ⟨zs, e, q⟩ => by
  match ds, r, e with
  | [], _, e => cases e
  | _ :: _ :: _, _, e => cases e
  | [d], r, e =>
    simp only [nSorted] at e
    obtain ⟨v, rfl, r1⟩ := reps1 r
    cases hl : lstOf S d with
    | none => rw [hl] at e; cases e
    | some xs =>
      rw [hl] at e
      simp only [Option.bind_some] at e
      obtain ⟨a, ws, rfl, hq, rx⟩ := lstOf_rep R r1 hl
      cases hp : pairsOf xs with
      | some ps =>
        rw [hp] at e
        dsimp only at e
        cases e
        have hx := pairsOf_eq hp
        subst hx
        obtain ⟨its, rvs, hL, hz⟩ := I.list hq
        obtain ⟨u, rfl, ru⟩ := vals1 rv
        obtain rfl : u = Value.ref a := ru
        have href : ∀ x ∈ ws, ∃ t, x = V.ref t := fun x m => by
          obtain ⟨p, _, rp⟩ := reps_mem rx x m
          obtain ⟨t, rfl, _⟩ := rep_pair rp
          exact ⟨t, rfl⟩
        obtain ⟨e1, e2⟩ := refs_back rvs href
        have hpair : ∀ v ∈ its, ∃ p, p ∈ ps ∧ RepD X.K ρ H (pD p) (backV v) ∧ Srt.IsPair s.heap v p.1 p.2 := fun v hv => by
          obtain ⟨t, rfl⟩ := e2 v hv
          have hm : V.ref t ∈ ws := by rw [e1]; exact List.mem_map.mpr ⟨_, hv, rfl⟩
          obtain ⟨p, hp, rp⟩ := reps_mem rx _ hm
          obtain ⟨t', et, hT⟩ := rep_pair rp
          cases et
          obtain ⟨its2, r2, pt, _⟩ := I.tuple hT
          obtain ⟨u1, u2, rfl, ri, rj⟩ := vals2 r2
          obtain ⟨t1, rfl⟩ := ri
          obtain ⟨t2, rfl⟩ := rj
          obtain ⟨o, ho, hc, n, hd⟩ := (show s.heap.IsTuple t _ from pt)
          exact ⟨p, hp, rp, t, o, t1, t2, n, rfl, ho, hc, hd⟩
        let k : Value → Int × Int := fun v => if h : ∃ p : Int × Int, Srt.IsPair s.heap v p.1 p.2 then Classical.choose h else (0, 0)
        have hk : ∀ v p, Srt.IsPair s.heap v p.1 p.2 → k v = p := fun v p hv => by
          have h : ∃ p : Int × Int, Srt.IsPair s.heap v p.1 p.2 := ⟨p, hv⟩
          have e3 : k v = Classical.choose h := dif_pos h
          rw [e3]
          have := isPair_uniq (Classical.choose_spec h) hv
          exact Prod.ext this.1 this.2
        have hks : its.map k = ps := by
          have : ∀ {its : List Value} {ws : List V} {ps : List (Int × Int)}, Vals ws its → RepDs X.K ρ H (ps.map pD) ws → its.map k = ps := by
            intro its ws ps h1
            induction h1 generalizing ps with
            | nil => intro h2; cases ps with
              | nil => rfl
              | cons => cases h2
            | cons a b ih => intro h2; cases ps with
              | nil => cases h2
              | cons p ps =>
                cases h2 with
                | cons c d =>
                  rw [List.map_cons, ih d]
                  congr 1
                  obtain ⟨t, rfl, hT⟩ := rep_pair c
                  rename_i u _ _
                  obtain rfl : u = Value.ref t := a
                  obtain ⟨its2, r2, pt, _⟩ := I.tuple hT
                  obtain ⟨u1, u2, rfl, ri, rj⟩ := vals2 r2
                  obtain ⟨t1, rfl⟩ := ri
                  obtain ⟨t2, rfl⟩ := rj
                  obtain ⟨o, ho, hc, n, hd⟩ := (show s.heap.IsTuple t _ from pt)
                  exact hk _ p ⟨t, o, t1, t2, n, rfl, ho, hc, hd⟩
          exact this rvs rx
        refine SrtO.sorted_pairsO (k := k) hL.isList (by rw [← rvs.length]; exact hz) (fun v hv => ?_) fun h' dd out h1 h2 kp hd hn => ?_
        · obtain ⟨p, _, _, hP⟩ := hpair v hv
          rw [hk v p hP]; exact hP
        · have h3 : ∀ u ∈ out, ∃ a, u = Value.ref a := fun u hu => e2 u (h2.perm.mem_iff.mp hu)
          obtain ⟨n, hn⟩ := hn
          have hsort : out.map k = isort lexB ps := by
            refine srt_uniq lex_swo lex_anti (SrtO.srtd_map (lt := lexB) h1) (isort_srtd lex_swo ps) ?_
            rw [← hks]
            exact (h2.perm.map k).trans (isort_perm _).symm
          have hrep : RepDs X.K ρ H ((isort lexB ps).map pD) (out.map backV) := by
            rw [← hsort]
            have : ∀ l : List Value, (∀ v ∈ l, v ∈ its) → RepDs X.K ρ H ((l.map k).map pD) (l.map backV) := by
              intro l
              induction l with
              | nil => intro _; exact .nil
              | cons v l ih =>
                intro hl
                obtain ⟨p, _, rp, hP⟩ := hpair v (hl v (by simp))
                refine .cons ?_ (ih fun w hw => hl w (List.mem_cons_of_mem _ hw))
                rw [hk v p hP]; exact rp
            exact this out fun v hv => h2.perm.mem_iff.mp hv
          have hlen : (out.map backV).length ≤ sizeLine := by rw [List.length_map, h2.perm.length_eq, ← rvs.length]; exact hz
          exact ⟨.ref dd, upd H dd (.lst (out.map backV)), I.laid (t' := s.toks) kp hd ⟨hlen, out, n, vals_back h3, hn⟩, rfl, q _ hrep _ (I.hok.fresh hd)⟩
      | none =>
        rw [hp] at e
        dsimp only at e
        cases hi : intsOf xs with
        | none => rw [hi] at e; cases e
        | some ns =>
          rw [hi] at e
          cases e
          have hx := intsOf_eq hi
          subst hx
          have hw := rx.ints
          subst hw
          refine cr_sortedI pins s σ H _ us Q I rv ⟨a, ns, rfl, hq, fun ns' p h1 h2 hp => ?_⟩
          have hs : ns' = isort ltI ns := by
            refine srt_uniq ltI_swo ltI_anti ?_ (isort_srtd ltI_swo ns) (h1.trans (isort_perm _).symm)
            exact h2.imp fun h => by simp only [ltI, decide_eq_false_iff_not]; omega
          subst hs
          exact q _ (.of_ints _) p hp
/-! ### a star in a display -/
variable {W : WX} {e : Expr} {es : List Expr} {m : MA} {me : ME} {p : Pos}
def mStar (me : ME) (m : MA) : MA := fun e S => (me e S).bind fun d S1 => match seqOf S1 d with
  | some xs => (m e S1).bind fun ys S2 => .ok (xs ++ ys) S2
  | none => .bad
theorem am_star (he : EM X W e me) (hr : AM X W es m) (hs : starEach (.Starred e p :: es) X.env = (true, eval e X.env) :: starEach es X.env := by rfl) : AM X W (.Starred e p :: es) (mStar me m) :=
  pa_imp (StX.pa_star he hr hs) fun σ H Q ⟨ρ, e, S, he, R, q⟩ => ⟨ρ, e, S, he, R, (Post.bind q).mono fun d S1 ρ1 H1 f1 R1 q v rv => by
    cases hx : seqOf S1 d with
    | none => rw [hx] at q; exact q.elim
    | some xs =>
      rw [hx] at q
      dsimp only at q
      obtain ⟨a, vs, rfl, hq, rx⟩ := seqOf_rep R1 rv hx
      refine ⟨a, vs, rfl, hq.symm, ρ1, e, S1, he.fr R.free f1, R1, (Post.bind q).mono fun ys S2 ρ2 H2 f2 R2 q ws rw' => ?_⟩
      exact q ρ2 H2 (Fr.refl _ _) R2 _ ((RepDs.fr R1.free f2 _ _ rx).append rw')⟩
/-- a, b, c = x, y, z -/
def sPar3 (i j l : Nat) (m : MA) : MS := fun e S => (m e S).st e fun ds S1 => match ds with
  | [d1, d2, d3] => some (.nx, ((e.set i (some d1)).set j (some d2)).set l (some d3), S1)
  | _ => none
theorem sm_par3 {i j l : Nat} {x y z : Str} {a b c : Expr} {m : MA} {px py pz pt pos : Pos} {kt k2 pt2} (hc : X.calm = true) (hN : X.N.Nodup) (hi : X.N[i]? = some x) (hj : X.N[j]? = some y) (hl : X.N[l]? = some z) (hij : i ≠ j) (hil : i ≠ l) (hjl : j ≠ l)
    (hx : X.env.scope.names.lookup x = some .local) (hy : X.env.scope.names.lookup y = some .local) (hz : X.env.scope.names.lookup z = some .local) (ha : AM X W [a, b, c] m)
    (hw : swappedStores [.Tuple [.Name x px, .Name y py, .Name z pz] kt pt] (.Tuple [a, b, c] k2 pt2) X.env = pure (some [x, y, z]))
    (hs : swapsWithSole [.Tuple [.Name x px, .Name y py, .Name z pz] kt pt] (.Tuple [a, b, c] k2 pt2) pos.line X.env = pure false := by rfl) :
    SM X W (.Assign [.Tuple [.Name x px, .Name y py, .Name z pz] kt pt] (.Tuple [a, b, c] k2 pt2) pos) (sPar3 i j l m) :=
  ps_imp (ps_par3 hc hN hi hj hl hij hil hjl hx hy hz ha hw hs) fun Dn σ H ⟨ρ, e, S, he, R, q⟩ => ⟨ρ, e, S, he, R, (PostS.st R he q).mono fun ds S1 ρ1 H1 f1 R1 q vs r => by
    match ds, r, q with
    | [d1, d2, d3], r, q =>
      obtain ⟨v1, v2, v3, rfl, r1, r2, r3⟩ := reps3 r
      exact ⟨v1, v2, v3, rfl, q ρ1 H1 _ (Fr.refl _ _) R1 (((((he.fr R.free f1).set i r1).set j r2)).set l r3)⟩
    | [], _, q => exact q.elim
    | [_], _, q => exact q.elim
    | [_, _], _, q => exact q.elim
    | _ :: _ :: _ :: _ :: _, _, q => exact q.elim⟩
end
end M


set_option Elab.async false
set_option linter.all false
set_option maxRecDepth 100000
set_option maxHeartbeats 4000000
/-! enumerate over tuples and lists -/
namespace M
open PySem PySem.Spec PyProof.Rows L2 RZ
theorem meets_enumerate_new1 {v : Value} {o : Obj} {H : Heap → Prop} (B : Begins v o H) :
    Meets (Builtin.«enumerate.__new__» ⟨[.type "enumerate", v], []⟩) (fun _ R s => H s.heap ∧
      R (.ok (.ret (.ref (s.heap.push o).objs.size))) { s with heap := (s.heap.push o).push { cls := .type "enumerate", data := .fields #[.none, .bool false, .ref s.heap.objs.size, rawInt 0, .none, .none] } }) :=
  .of_wp fun prog w A R s h => by
    obtain ⟨hp, g, d, tk, os⟩ := s; obtain ⟨h1, h⟩ := h
    have hsub := sub_enumerate
    have q1 : ∀ {A' : Around} {E : Value → Shared → Prop} {Q : Value → Shared → Prop}, Q (.ref hp.objs.size) ⟨hp.push o, g, d, tk, os⟩ → wpAny (model prog w) A' (pyIter v) Q E ⟨hp, g, d, tk, os⟩ :=
      fun q => B.iter prog w _ _ ⟨hp, g, d, tk, os⟩ _ h1 q
    wp_walk using q1
    refine wpAny_stack_any fun st => wpAny_pure ?_
    split
    · rename_i c _ _ _ _ _
      cases (c == Value.type "enumerate")
      · wp_walk using q1
        exact ⟨_, rfl, h⟩
      · wp_walk using q1
        exact ⟨_, rfl, h⟩
    · wp_walk using q1
      exact ⟨_, rfl, h⟩
section
variable {prog : Program} {w : World} {A : Around} {E : Value → Shared → Prop} {s : Shared}
theorem enum_begins1 {v : Value} {o : Obj} {H : Heap → Prop} {Q : Value → Shared → Prop} (B : Begins v o H) (h1 : H s.heap)
    (h : ∀ h', IsEnum h' (s.heap.objs.size + 1) s.heap.objs.size 0 .none → h'.get? s.heap.objs.size = some o → h'.objs.size = s.heap.objs.size + 2 →
      (∀ b o, s.heap.get? b = some o → h'.get? b = some o) → Q (.ref (s.heap.objs.size + 1)) { s with heap := h' }) :
    wpAny (model prog w) A (call (.type "enumerate") [v]) Q E s := by
  refine callType_new F.called_enumerate (by decide) (F.typeCall_enumerate_1 _) (F.newCall_enumerate_1 _) (fun obj => F.args_object_init_2 obj _) F.entry_enumerate_new
    (meets_enumerate_new1 B) ⟨h1, ?_⟩
  have hz : (s.heap.push o).objs.size = s.heap.objs.size + 1 := Heap.size_push ..
  show _ ∧ _
  rw [hz]
  have he : IsEnum ((s.heap.push o).push { cls := .type "enumerate", data := .fields #[.none, .bool false, .ref s.heap.objs.size, rawInt 0, .none, .none] }) (s.heap.objs.size + 1) s.heap.objs.size 0 .none := by
    have := Heap.get?_push_size (s.heap.push o) (o := { cls := .type "enumerate", data := .fields #[.none, .bool false, .ref s.heap.objs.size, rawInt 0, .none, .none] }) rfl
    rw [hz] at this; exact this
  refine ⟨⟨_, he, rfl⟩, h _ he (Heap.get?_push_of_some _ (Heap.get?_push_size _ B.free)) (by rw [Heap.size_push, hz]) fun b o x => Heap.get?_push_of_some _ (Heap.get?_push_of_some _ x)⟩
theorem pyNext_enum_endT {e it l : Addr} {i : Nat} {k : Int} {items : Array Value} {old : Value} {Q : Option Value → Shared → Prop} (hh : A.handled = none)
    (he : IsEnum s.heap e it k old) (hit : s.heap.IsTupleIter it l i) (hl : s.heap.IsTuple l items) (hx : items[i]? = none)
    (hQ : ∀ h', Heap.ExtBut it s.heap h' → Q none { s with heap := h' }) : wpAny (model prog w) A (pyNext (.ref e)) Q E s := by
  have hT : s.TypeIs (.ref e) "enumerate" := ⟨_, he, rfl⟩
  unfold pyNext
  refine wpAny_bind (wpAny_attempt (wpAny_callSpecial?_slot (name := Str.ofString "__next__") hT F.slot_enumerate_next
    (wpAny_call_entry F.slot_enumerate_next hT F.entry_enumerate_next ?_ (F.args_enumerate_next_1 _))))
  show wpAny _ _ (field (.ref e) 2 >>= _) _ _ _
  refine wpAny_bind (wpAny_field he rfl (x := .ref it) rfl ?_)
  refine wpAny_bind (wpAny_nextOf_tuple_end hh hit hl hx fun h' x he' hx' => ?_)
  obtain ⟨o, ho, hc⟩ := hx'
  refine wpAny_bind (wpAny_isInstance (T := "StopIteration") (b := true) ⟨o, ho, hc⟩ isSubtype_stop ?_)
  exact wpAny_pure (hQ _ he')
end
/-- the tuple at a, each item in a new pair -/
def IteT (K : PySem.W.Frag) (a : Addr) : It :=
  ⟨fun i H => ∃ (xs : List V) (x : V), SqT K H a xs ∧ xs[i]? = some x, fun i H v H' => ∃ T x, v = .ref T ∧ H T = none ∧ H' = upd H T (.tup [.int (i : Nat), x]) ∧ ∀ xs, SqT K H a xs → xs[i]? = some x, fun i H => ∃ xs : List V, SqT K H a xs ∧ xs.length ≤ i⟩
theorem tuple_ne_enum {h : Heap} {e it a : Addr} {i : Int} {old : Value} {its : Array Value} (he : IsEnum h e it i old) (p : h.IsTuple a its) : e ≠ a := by
  rintro rfl
  obtain ⟨o, ho, hc, _⟩ := p
  have := he.symm.trans ho
  cases this
  exact absurd (show Value.type "enumerate" = .type "tuple" from hc) (by decide)
theorem tuple_ne_iter {h : Heap} {it a t : Addr} {i : Nat} {its : Array Value} (hi : h.IsTupleIter it t i) (p : h.IsTuple a its) : a ≠ it := by
  rintro rfl
  obtain ⟨o, ho, hc, _⟩ := p
  obtain ⟨o', ho', hc', _⟩ := hi
  have := ho.symm.trans ho'
  cases this
  rw [hc] at hc'
  exact absurd hc' (by decide)
theorem turn_enumT {P : Program} {w : World} {K : PySem.W.Frag} {elts : List Expr} {kk : Nat} {tpos : Pos} (a e it : Addr) :
    Turn P w K (.Tuple elts kk tpos) (IteT K a) [e, it] e (fun i h => (∃ old, IsEnum h e it ((i : Nat) : Int) old) ∧ h.IsTupleIter it a i ∧ e ≠ it) where
  mem := by simp
  obj := fun i h st b hb => by
    obtain ⟨⟨old, he⟩, ⟨o, ho, hc, hd⟩, _⟩ := st
    have e' : b = e ∨ b = it := by simpa using hb
    rcases e' with z | z
    · rw [z]; exact ⟨_, he, fun v q => nomatch q⟩
    · rw [z]; exact ⟨o, ho, fun v q => by rw [hd] at q; cases q⟩
  keep := fun i h h' st k => let ⟨⟨old, he⟩, hi, hne⟩ := st; ⟨⟨old, k e (by simp) _ he⟩, hi.at fun o q => k it (by simp) o q, hne⟩
  item := by
    intro X hP hw hK hc i pins s σ H E I hf st hg
    subst hP hw hK
    obtain ⟨⟨old, he⟩, hit, hne⟩ := st
    obtain ⟨xs, x, hq, hx⟩ := hg
    obtain ⟨its, rv, p, hz⟩ := I.tuple hq
    obtain ⟨u, hu, ru⟩ := rv.get hx
    have hel : e < s.heap.objs.size := Heap.lt_size he
    have hil : it < s.heap.objs.size := by obtain ⟨_, q, _⟩ := hit; exact Heap.lt_size q
    have hea := tuple_ne_enum he p
    have hai := tuple_ne_iter hit p
    have hlt : i < its.toArray.size := by
      rw [List.size_toArray]
      exact (List.getElem?_eq_some_iff.mp hu).1
    refine wpAny_pyNext_enum_itemD (Draws.tuple (A := X.A.in1) (I.ok.hd hc) it a hai its.toArray) he ⟨hit, p⟩ hlt hne (by simp [hne, hea]) fun y h' tk hy ho st' hT hsz hk => ?_
    have hyu : y = u := by
      have := hy
      rw [List.getElem?_toArray, hu] at this
      exact (Option.some.inj this).symm
    subst hyu
    obtain ⟨hit', _⟩ := st'
    refine ⟨_, rfl, wpAny_letOwnedTupleGo_enum (s := { s with heap := h', toks := tk + 1 }) ho fun h'' he' sb => ?_⟩
    have hT2 : h''.get? s.heap.objs.size = some { cls := .type "tuple", data := .seq #[.int i tk, y] } := (sb.2 _ (Nat.ne_of_gt hel)).trans hT
    have new : ObjOk X.prog X.w (upd H s.heap.objs.size (.tup [.int (i : Nat), x])) h'' s.heap.objs.size (.tup [.int (i : Nat), x]) :=
      ⟨by show 2 ≤ sizeLine; decide, [.int i tk, y], .cons ⟨_, rfl⟩ (.cons ru .nil), ⟨_, hT2, rfl, _, rfl⟩⟩
    have I1 : Inv X pins σ (upd H s.heap.objs.size (.tup [.int (i : Nat), x])) { s with heap := h'', toks := tk + 1 } :=
      I.turnedNew (ch := [e, it]) (fun b ob hb q => (sb.2 b (fun z => hb (by simp [z]))).trans (hk b ob (fun z => hb (by simp [z])) (fun z => hb (by simp [z])) q)) hf (Nat.le_refl _) new
    refine ⟨.ref s.heap.objs.size, _, I1, rfl, ⟨_, x, rfl, I.hok.fresh (Nat.le_refl _), rfl, fun ys hy => by rw [I.tuple_inj hy hq]; exact hx⟩, ⟨⟨y, ?_⟩, hit'.at fun o q => (sb.2 it (Ne.symm hne)).trans q, hne⟩, fun b hb => ?_⟩
    · have e1 : ((i + 1 : Nat) : Int) = (i : Int) + 1 := by omega
      rw [e1]; exact he'
    · have hb' : b < s.heap.objs.size := by
        have e' : b = e ∨ b = it := by simpa using hb
        rcases e' with z | z
        · rw [z]; exact hel
        · rw [z]; exact hil
      rw [upd_ne (Nat.ne_of_lt hb')]
      exact (hf b hb).1
  done := by
    intro X hP hw hK hc i pins s σ H E I hf st hg
    subst hP hw hK
    obtain ⟨⟨old, he⟩, hit, hne⟩ := st
    obtain ⟨xs, hq, hx⟩ := hg
    obtain ⟨its, rv, p, hz⟩ := I.tuple hq
    obtain ⟨f0, f1, f2, f3, f4, f5⟩ := hf it (by simp)
    have hl := rv.length
    exact pyNext_enum_endT (I.ok.hd hc) he hit p (by simp; omega) fun h' eb => ⟨rfl, I.turned (t' := s.toks) (fun b o hb q => eb b o hb q) f0 f1 f3 f4 f5⟩
  self := fun A i s Q E st h => let ⟨⟨_, he⟩, _⟩ := st; wpAny_pyIter_enum he h
def iEnumA (K : PySem.W.Frag) (ta : TA) : TI := fun σ H R => ta σ H fun vs H1 => ∃ a xs, vs = [.ref a] ∧ ((SqL K H1 a xs ∧ R (Ite K a) H1) ∨ (SqT K H1 a xs ∧ R (IteT K a) H1))
theorem pi_enumA {X : Cx} {e : Expr} {ta : TA} {p pos tpos : Pos} {elts : List Expr} {kk : Nat} (hg : Gl X "enumerate") (hm : X.mg "enumerate" = none) (ha : PA X [e] ta) (hs : starEach [e] X.env = [(false, eval e X.env)] := by rfl) :
    PI X (.Tuple elts kk tpos) (.Call (.Name "enumerate" p) [e] [] pos) (iEnumA X.K ta) := by
  refine ⟨fun pins s σ H R I h => ?_⟩
  refine Call_ (ld_blt I hg hm boot_enumerate (PyProof.Rows.callWith_type1 (thn (ha.run pos pins s σ H _ I h) fun us s1 ⟨vs, H1, I1, r1, q1⟩ => ?_) hs rfl))
  obtain ⟨a, xs, ex, q⟩ := q1
  subst ex
  cases r1 with
  | cons r rr =>
    cases rr
    cases r
    have fp : ∀ b ∈ [s1.heap.objs.size + 1, s1.heap.objs.size], FpOk X pins H1 b := fun b hb => by
      have e' : b = s1.heap.objs.size + 1 ∨ b = s1.heap.objs.size := by simpa using hb
      have hle : s1.heap.objs.size ≤ b := by
        rcases e' with z | z
        · rw [z]; exact Nat.le_add_right _ _
        · rw [z]; exact Nat.le_refl _
      exact I1.fpOk hle (I1.hok.fresh hle)
    rcases q with ⟨hq, q⟩ | ⟨hq, q⟩
    · obtain ⟨its, rv, p', hz⟩ := I1.list hq
      refine call_enumerate_list p'.isList fun h' he hit hsz hk => wpAny_pyIter_enum he ?_
      have I2 : Inv X pins σ H1 { s1 with heap := h' } := I1.kept (t' := s1.toks) hk
      exact ⟨s1.heap.objs.size + 1, [s1.heap.objs.size + 1, s1.heap.objs.size], _, _, H1, rfl, I2, turn_enum a (s1.heap.objs.size + 1) s1.heap.objs.size, ⟨⟨.none, he⟩, hit, Nat.succ_ne_self _⟩, fp, q⟩
    · obtain ⟨its, rv, p', hz⟩ := I1.tuple hq
      refine enum_begins1 (begins_tuple a its.toArray) p' fun h' he hit hsz hk => wpAny_pyIter_enum he ?_
      have I2 : Inv X pins σ H1 { s1 with heap := h' } := I1.kept (t' := s1.toks) hk
      exact ⟨s1.heap.objs.size + 1, [s1.heap.objs.size + 1, s1.heap.objs.size], _, _, H1, rfl, I2, turn_enumT a (s1.heap.objs.size + 1) s1.heap.objs.size, ⟨⟨.none, he⟩, ⟨_, hit, rfl, rfl⟩, Nat.succ_ne_self _⟩, fp, q⟩
/-! the mirror -/
def enumD : Nat → List D → List D
  | _, [] => []
  | k, x :: xs => .tup [.int (k : Int), x] :: enumD (k + 1) xs
theorem enumD_length : ∀ (xs : List D) (k : Nat), (enumD k xs).length = xs.length
  | [], _ => rfl
  | _ :: xs, k => by simp only [enumD, List.length_cons, enumD_length xs]
theorem enumD_get : ∀ {xs : List D} {k i : Nat} {d : D}, (enumD k xs)[i]? = some d → ∃ x, xs[i]? = some x ∧ d = .tup [.int ((k + i : Nat) : Int), x]
  | [], _, _, _, h => by simp [enumD] at h
  | x :: xs, k, 0, d, h => by simp [enumD] at h; exact ⟨x, rfl, h.symm⟩
  | x :: xs, k, i + 1, d, h => by
    simp only [enumD, List.getElem?_cons_succ] at h
    obtain ⟨a, h1, h2⟩ := enumD_get h
    refine ⟨a, by simpa using h1, ?_⟩
    rw [h2, show k + 1 + i = k + (i + 1) by omega]
def srcEnum : List D → Store → Option Src
  | [d], S => match d with
    | .tup xs => some ⟨enumD 0 xs, []⟩
    | d => match lstOf S d with
      | some xs => some ⟨enumD 0 xs, watch d xs⟩
      | none => none
  | _, _ => none
variable [Tabs]
theorem jok_enumL {K : PySem.W.Frag} {ρ : Rh} {H : Hp} {S : Store} {a : Addr} {xs : List D} {w1 : List (Nat × List D)} (s1 : Stands K xs w1 a ρ H) : JOk K ⟨enumD 0 xs, w1⟩ (Ite K a) ρ H where
  go := fun ρ' H' S' i d f R' ok hd => by
    obtain ⟨vs, q1, r1⟩ := s1.at_ ρ' H' S' f R' fun p hp => ok p hp
    obtain ⟨x, e1, rfl⟩ := enumD_get hd
    obtain ⟨v, hv, rv⟩ := r1.get e1
    refine ⟨⟨vs, v, q1, hv⟩, fun u H'' yy => ?_⟩
    obtain ⟨T, v', rfl, hT, rfl, y1⟩ := yy
    have e3 := y1 vs q1
    rw [hv] at e3; cases e3
    rw [Nat.zero_add]
    exact ⟨Fr.laid hT, R'.laid hT, .tup (SqT.of upd_same) (RepDs.fr R'.free (Fr.laid hT) _ _ (.cons (.int _) (.cons rv .nil)))⟩
  stop := fun ρ' H' S' f R' ok => by
    obtain ⟨vs, q1, r1⟩ := s1.at_ ρ' H' S' f R' fun p hp => ok p hp
    refine ⟨vs, q1, ?_⟩
    have h1 := r1.length
    show vs.length ≤ (enumD 0 xs).length
    rw [enumD_length]; omega
theorem jok_enumT {K : PySem.W.Frag} {ρ : Rh} {H : Hp} {S : Store} {a : Addr} {xs : List D} {vs : List V} (R : Rel K ρ H S) (q1 : SqT K H a vs) (r1 : RepDs K ρ H xs vs) : JOk K ⟨enumD 0 xs, []⟩ (IteT K a) ρ H where
  go := fun ρ' H' S' i d f R' ok hd => by
    obtain ⟨x, e1, rfl⟩ := enumD_get hd
    obtain ⟨v, hv, rv⟩ := (RepDs.frh R.free f _ _ r1).get e1
    refine ⟨⟨vs, v, sqt_frh R.free f q1, hv⟩, fun u H'' yy => ?_⟩
    obtain ⟨T, v', rfl, hT, rfl, y1⟩ := yy
    have e3 := y1 vs (sqt_frh R.free f q1)
    rw [hv] at e3; cases e3
    rw [Nat.zero_add]
    exact ⟨Fr.laid hT, R'.laid hT, .tup (SqT.of upd_same) (RepDs.fr R'.free (Fr.laid hT) _ _ (.cons (.int _) (.cons rv .nil)))⟩
  stop := fun ρ' H' S' f R' ok => by
    refine ⟨vs, sqt_frh R.free f q1, ?_⟩
    have h1 := r1.length
    show vs.length ≤ (enumD 0 xs).length
    rw [enumD_length]; omega
section
variable {X : Cx} {W : WX} {e : Expr} {m : MA} {p pos : Pos}
theorem im_enum {elts : List Expr} {kk : Nat} {tpos : Pos} (hg : Gl X "enumerate") (hm : X.mg "enumerate" = none) (ha : AM X W [e] m) (hs : starEach [e] X.env = [(false, eval e X.env)] := by rfl) :
    IM X W (.Tuple elts kk tpos) (.Call (.Name "enumerate" p) [e] [] pos) (mSrcA srcEnum m) :=
  pi_imp (pi_enumA hg hm ha hs) fun σ H R' h => tA_src (fun ρ H ds vs S src R r hk q => by
    match ds, r, hk with
    | [], _, hk => cases hk
    | _ :: _ :: _, _, hk => cases hk
    | [d1], r, hk =>
      obtain ⟨v, rfl, r1⟩ := reps1 r
      by_cases ht : ∃ xs, d1 = .tup xs
      · obtain ⟨xs, rfl⟩ := ht
        cases hk
        cases r1 with
        | tup h1 x1 => exact ⟨_, _, rfl, .inr ⟨h1, q _ (jok_enumT R h1 x1)⟩⟩
      · have hk : (match lstOf S d1 with
          | some xs => some (Src.mk (enumD 0 xs) (watch d1 xs))
          | none => none) = some src := by
          rw [← hk]
          cases d1 <;> first | rfl | exact absurd ⟨_, rfl⟩ ht
        cases h1 : lstOf S d1 with
        | none => rw [h1] at hk; cases hk
        | some xs =>
          rw [h1] at hk
          cases hk
          obtain ⟨a, rfl, st1⟩ := stands_of R r1 h1
          obtain ⟨vs1, q1, _⟩ := st1.at_ ρ H S .refl R (watch_ok h1)
          exact ⟨a, _, rfl, .inl ⟨q1, q _ (jok_enumL (S := S) st1)⟩⟩) h
end
/-! remove -/
def gRemove : MtF
  | .loc n, [d], S => match S[n]? with
    | some (.lst xs) => match toPys0 xs, toPy S d with
      | some qs, some p => if (SeqAt.shaped p = true ∧ PyData.plainAll qs = true ∧ p.plain = true) ∧ xs.length ≤ sizeLine then match SeqAt.dataPlace qs p with
        | some j => some (.non, S.set n (.lst (xs.eraseIdx j)))
        | none => none
        else none
      | _, _ => none
    | _ => none
  | _, _, _ => none
section
variable {X : Cx}
theorem md_remove (hu : X.A.units + 65 < cLine) : MtD X "list.remove" gRemove := fun pins s σ ρ H S d x ds vs u us Q I R r1 r2 ru rs q => by
  cases d with
  | loc n =>
    match ds, r2, q with
    | [], _, q => exact q.elim
    | _ :: _ :: _, _, q => exact q.elim
    | [d], r2, q =>
      simp only [gRemove] at q
      split at q
      · rename_i xs hs
        split at q
        · rename_i qs p h1 h2
          by_cases hz : (SeqAt.shaped p = true ∧ PyData.plainAll qs = true ∧ p.plain = true) ∧ xs.length ≤ sizeLine
          · rw [if_pos hz] at q
            split at q
            · rename_i j hj
              have hp : toPy S (.loc n) = some (.list qs) := by
                show (match S[n]? with | some (.lst xs) => (toPys0 xs).map PyData.list | _ => none) = _
                rw [hs]
                simp only [h1, Option.map_some]
              have d2 := toPy_rep R r1 hp
              obtain ⟨a, ws, rfl, ha, hH, rx⟩ := loc_at R r1 hs
              obtain ⟨v, rfl, rv⟩ := reps1 r2
              have d1 := toPy_rep R rv h2
              cases rs with
              | cons ra rs =>
                cases rs
                obtain ⟨as, e1⟩ := Dp.reads I p v _ d1 ra
                obtain ⟨bs, e2⟩ := Dp.reads I (.list qs) (.ref a) u d2 ru
                cases ru
                obtain ⟨z, its, m, r, hl, e⟩ := I.lstM hH
                cases e2 with
                | list g1 g2 g3 g4 =>
                  have g1' := g1.symm.trans e
                  cases g1'
                  cases g3
                  refine SeqAt.remove_list_data (j := j) ⟨_, e, rfl, _, rfl⟩ g4 e1 hz.1.2.1 hz.1.2.2 (in_room hz.1.1 hu) hj (by rw [List.size_toArray, ← hl, ← rx.length]; exact hz.2) ?_
                  refine ⟨.non, _, I.lset (its' := its.eraseIdx j) hH e ?_ (r.eraseIdx j) ?_, rfl, q.put R ha ?_ .non⟩
                  · show its.toArray.eraseIdxIfInBounds j = (its.eraseIdx j).toArray
                    rw [List.eraseIdxIfInBounds_toArray]
                  · have := len_erase ws j
                    omega
                  · rw [List.eraseIdx_eq_take_drop_succ, List.eraseIdx_eq_take_drop_succ]
                    exact (rx.take _).append (rx.drop _)
            · exact q.elim
          · rw [if_neg hz] at q; exact q.elim
        · exact q.elim
      · exact q.elim
  | _ => cases ds <;> exact q.elim
end
end M


set_option Elab.async false
set_option linter.all false
set_option maxRecDepth 100000
set_option maxHeartbeats 4000000
namespace K81
open PySem PySem.Spec PyProof.Rows L2 M M.Mk
variable [Tabs]
def top (i : Nat) : Stmt := PySem.Challenge.pw_lostastold_k81_whole_checks_and_bodies_b.main.body.getD i (.Pass ⟨0, 0, 0, 0⟩)
abbrev s__law_draws : Stmt := top 28
abbrev s__law_take : Stmt := top 29
abbrev s_written : Stmt := top 3
abbrev s_check : Stmt := top 9
abbrev s__law_alike : Stmt := top 30
abbrev s__law_check : Stmt := top 31
abbrev s__law_sum : Stmt := top 33
abbrev s_are_bits : Stmt := top 2
abbrev s_is_bits : Stmt := top 8
abbrev s__law_turned : Stmt := top 34
abbrev s__law_units : Stmt := top 32
abbrev s_data_length : Stmt := top 20
abbrev s_body : Stmt := top 22
abbrev s_write : Stmt := top 23
abbrev s_is_number : Stmt := top 1
abbrev s_body_length : Stmt := top 21
abbrev s_read_number : Stmt := top 4
abbrev s_unit_in : Stmt := top 24
abbrev s_read : Stmt := top 25
abbrev s_units_lost : Stmt := top 26
abbrev s_law : Stmt := top 35
theorem sc__law_draws : FnScope ["script", "draws", "cell", "number", "first", "k", "seed"] ["script"] (defScope s__law_draws) := ⟨rfl, rfl, rfl, by decide +kernel, rfl, by decide +kernel, by decide +kernel⟩
theorem sc__law_take : FnScope ["draws", "bound"] ["draws", "bound"] (defScope s__law_take) := ⟨rfl, rfl, rfl, by decide +kernel, rfl, by decide +kernel, by decide +kernel⟩
theorem sc_written : FnScope ["number", "many", "place"] ["number", "many"] (defScope s_written) := ⟨rfl, rfl, rfl, by decide +kernel, rfl, by decide +kernel, by decide +kernel⟩
theorem sc_check : FnScope ["bits", "rest", "sign", "high"] ["bits"] (defScope s_check) := ⟨rfl, rfl, rfl, by decide +kernel, rfl, by decide +kernel, by decide +kernel⟩
theorem sc__law_alike : FnScope ["found", "due", "k"] ["found", "due"] (defScope s__law_alike) := ⟨rfl, rfl, rfl, by decide +kernel, rfl, by decide +kernel, by decide +kernel⟩
theorem sc__law_check : FnScope ["bits", "row", "sign", "k", "j", "one"] ["bits"] (defScope s__law_check) := ⟨rfl, rfl, rfl, by decide +kernel, rfl, by decide +kernel, by decide +kernel⟩
theorem sc__law_sum : FnScope ["one", "other", "k"] ["one", "other"] (defScope s__law_sum) := ⟨rfl, rfl, rfl, by decide +kernel, rfl, by decide +kernel, by decide +kernel⟩
theorem sc_are_bits : FnScope ["value", "sign"] ["value"] (defScope s_are_bits) := ⟨rfl, rfl, rfl, by decide +kernel, rfl, by decide +kernel, by decide +kernel⟩
theorem sc_is_bits : FnScope ["value"] ["value"] (defScope s_is_bits) := ⟨rfl, rfl, rfl, by decide +kernel, rfl, by decide +kernel, by decide +kernel⟩
theorem sc__law_turned : FnScope ["bits", "place"] ["bits", "place"] (defScope s__law_turned) := ⟨rfl, rfl, rfl, by decide +kernel, rfl, by decide +kernel, by decide +kernel⟩
theorem sc__law_units : FnScope ["draws", "count", "payload_bits", "found", "k", "kind", "payload", "j"] ["draws", "count", "payload_bits"] (defScope s__law_units) := ⟨rfl, rfl, rfl, by decide +kernel, rfl, by decide +kernel, by decide +kernel⟩
theorem sc_data_length : FnScope ["payload_bits"] ["payload_bits"] (defScope s_data_length) := ⟨rfl, rfl, rfl, by decide +kernel, rfl, by decide +kernel, by decide +kernel⟩
theorem sc_body : FnScope ["number", "payload", "told", "data", "at"] ["number", "payload"] (defScope s_body) := ⟨rfl, rfl, rfl, by decide +kernel, rfl, by decide +kernel, by decide +kernel⟩
theorem sc_write : FnScope ["units", "number", "payload"] ["units"] (defScope s_write) := ⟨rfl, rfl, rfl, by decide +kernel, rfl, by decide +kernel, by decide +kernel⟩
theorem sc_is_number : FnScope ["value", "least", "most"] ["value", "least", "most"] (defScope s_is_number) := ⟨rfl, rfl, rfl, by decide +kernel, rfl, by decide +kernel, by decide +kernel⟩
theorem sc_body_length : FnScope ["payload_bits"] ["payload_bits"] (defScope s_body_length) := ⟨rfl, rfl, rfl, by decide +kernel, rfl, by decide +kernel, by decide +kernel⟩
theorem sc_read_number : FnScope ["bits", "found", "sign"] ["bits"] (defScope s_read_number) := ⟨rfl, rfl, rfl, by decide +kernel, rfl, by decide +kernel, by decide +kernel⟩
theorem sc_unit_in : FnScope ["bits", "place", "payload_bits", "end", "groups", "at", "one", "data", "told", "behind"] ["bits", "place", "payload_bits"] (defScope s_unit_in) := ⟨rfl, rfl, rfl, by decide +kernel, rfl, by decide +kernel, by decide +kernel⟩
theorem sc_read : FnScope ["bits", "payload_bits", "found", "place", "unit"] ["bits", "payload_bits"] (defScope s_read) := ⟨rfl, rfl, rfl, by decide +kernel, rfl, by decide +kernel, by decide +kernel⟩
theorem sc_units_lost : FnScope ["units", "bits", "left", "found", "place", "unit"] ["units", "bits"] (defScope s_units_lost) := ⟨rfl, rfl, rfl, by decide +kernel, rfl, by decide +kernel, by decide +kernel⟩
theorem sc_law : FnScope ["script", "draws", "turn", "long_one", "one", "other", "k", "step", "told", "value", "place", "second", "count", "units", "more", "stream", "unit", "bent", "found", "number"] ["script"] (defScope s_law) := ⟨rfl, rfl, rfl, by decide +kernel, rfl, by decide +kernel, by decide +kernel⟩
theorem room65 {k : Nat} {A : Around} (r : Room k A) : A.units + 65 < cLine := by have := r.un; omega
/-- what the head tells -/
structure Facts (K : PySem.W.Frag) (mg : Str → Option Value) (base : Heap) where
  fd__law_draws : FuncData
  F__law_draws : FunD K "_law_draws" "_law_draws" (defArgs s__law_draws) (defBody s__law_draws) (defScope s__law_draws) [] [] (He.ga K "_law_draws") fd__law_draws
  g__law_draws : mg "_law_draws" = some (.ref (He.ga K "_law_draws"))
  b__law_draws : Binds K fd__law_draws ["script"] []
  fd__law_take : FuncData
  F__law_take : FunD K "_law_take" "_law_take" (defArgs s__law_take) (defBody s__law_take) (defScope s__law_take) [] [] (He.ga K "_law_take") fd__law_take
  g__law_take : mg "_law_take" = some (.ref (He.ga K "_law_take"))
  b__law_take : Binds K fd__law_take ["draws", "bound"] []
  fd_written : FuncData
  F_written : FunD K "written" "written" (defArgs s_written) (defBody s_written) (defScope s_written) [] [] (He.ga K "written") fd_written
  g_written : mg "written" = some (.ref (He.ga K "written"))
  b_written : Binds K fd_written ["number", "many"] []
  fd_check : FuncData
  F_check : FunD K "check" "check" (defArgs s_check) (defBody s_check) (defScope s_check) [] [] (He.ga K "check") fd_check
  g_check : mg "check" = some (.ref (He.ga K "check"))
  b_check : Binds K fd_check ["bits"] []
  fd__law_alike : FuncData
  F__law_alike : FunD K "_law_alike" "_law_alike" (defArgs s__law_alike) (defBody s__law_alike) (defScope s__law_alike) [] [] (He.ga K "_law_alike") fd__law_alike
  g__law_alike : mg "_law_alike" = some (.ref (He.ga K "_law_alike"))
  b__law_alike : Binds K fd__law_alike ["found", "due"] []
  fd__law_check : FuncData
  F__law_check : FunD K "_law_check" "_law_check" (defArgs s__law_check) (defBody s__law_check) (defScope s__law_check) [] [] (He.ga K "_law_check") fd__law_check
  g__law_check : mg "_law_check" = some (.ref (He.ga K "_law_check"))
  b__law_check : Binds K fd__law_check ["bits"] []
  fd__law_sum : FuncData
  F__law_sum : FunD K "_law_sum" "_law_sum" (defArgs s__law_sum) (defBody s__law_sum) (defScope s__law_sum) [] [] (He.ga K "_law_sum") fd__law_sum
  g__law_sum : mg "_law_sum" = some (.ref (He.ga K "_law_sum"))
  b__law_sum : Binds K fd__law_sum ["one", "other"] []
  fd_are_bits : FuncData
  F_are_bits : FunD K "are_bits" "are_bits" (defArgs s_are_bits) (defBody s_are_bits) (defScope s_are_bits) [] [] (He.ga K "are_bits") fd_are_bits
  g_are_bits : mg "are_bits" = some (.ref (He.ga K "are_bits"))
  b_are_bits : Binds K fd_are_bits ["value"] []
  c_are_bits : Addr
  P_are_bits : Addr
  hc_are_bits : fd_are_bits.code = .ref c_are_bits
  TB_are_bits : GxR.TabB base mg c_are_bits P_are_bits
  T_are_bits : P_are_bits ∈ Tabs.t
  fd_is_bits : FuncData
  F_is_bits : FunD K "is_bits" "is_bits" (defArgs s_is_bits) (defBody s_is_bits) (defScope s_is_bits) [] [] (He.ga K "is_bits") fd_is_bits
  g_is_bits : mg "is_bits" = some (.ref (He.ga K "is_bits"))
  b_is_bits : Binds K fd_is_bits ["value"] []
  fd__law_turned : FuncData
  F__law_turned : FunD K "_law_turned" "_law_turned" (defArgs s__law_turned) (defBody s__law_turned) (defScope s__law_turned) [] [] (He.ga K "_law_turned") fd__law_turned
  g__law_turned : mg "_law_turned" = some (.ref (He.ga K "_law_turned"))
  b__law_turned : Binds K fd__law_turned ["bits", "place"] []
  fd__law_units : FuncData
  F__law_units : FunD K "_law_units" "_law_units" (defArgs s__law_units) (defBody s__law_units) (defScope s__law_units) [] [] (He.ga K "_law_units") fd__law_units
  g__law_units : mg "_law_units" = some (.ref (He.ga K "_law_units"))
  b__law_units : Binds K fd__law_units ["draws", "count", "payload_bits"] []
  fd_data_length : FuncData
  F_data_length : FunD K "data_length" "data_length" (defArgs s_data_length) (defBody s_data_length) (defScope s_data_length) [] [] (He.ga K "data_length") fd_data_length
  g_data_length : mg "data_length" = some (.ref (He.ga K "data_length"))
  b_data_length : Binds K fd_data_length ["payload_bits"] []
  fd_body : FuncData
  F_body : FunD K "body" "body" (defArgs s_body) (defBody s_body) (defScope s_body) [] [] (He.ga K "body") fd_body
  g_body : mg "body" = some (.ref (He.ga K "body"))
  b_body : Binds K fd_body ["number", "payload"] []
  fd_write : FuncData
  F_write : FunD K "write" "write" (defArgs s_write) (defBody s_write) (defScope s_write) [] [] (He.ga K "write") fd_write
  g_write : mg "write" = some (.ref (He.ga K "write"))
  b_write : Binds K fd_write ["units"] []
  fd_is_number : FuncData
  F_is_number : FunD K "is_number" "is_number" (defArgs s_is_number) (defBody s_is_number) (defScope s_is_number) [] [] (He.ga K "is_number") fd_is_number
  g_is_number : mg "is_number" = some (.ref (He.ga K "is_number"))
  b_is_number : Binds K fd_is_number ["value", "least", "most"] []
  fd_body_length : FuncData
  F_body_length : FunD K "body_length" "body_length" (defArgs s_body_length) (defBody s_body_length) (defScope s_body_length) [] [] (He.ga K "body_length") fd_body_length
  g_body_length : mg "body_length" = some (.ref (He.ga K "body_length"))
  b_body_length : Binds K fd_body_length ["payload_bits"] []
  fd_read_number : FuncData
  F_read_number : FunD K "read_number" "read_number" (defArgs s_read_number) (defBody s_read_number) (defScope s_read_number) [] [] (He.ga K "read_number") fd_read_number
  g_read_number : mg "read_number" = some (.ref (He.ga K "read_number"))
  b_read_number : Binds K fd_read_number ["bits"] []
  fd_unit_in : FuncData
  F_unit_in : FunD K "unit_in" "unit_in" (defArgs s_unit_in) (defBody s_unit_in) (defScope s_unit_in) [] [] (He.ga K "unit_in") fd_unit_in
  g_unit_in : mg "unit_in" = some (.ref (He.ga K "unit_in"))
  b_unit_in : Binds K fd_unit_in ["bits", "place", "payload_bits"] []
  c_unit_in : Addr
  P_unit_in : Addr
  hc_unit_in : fd_unit_in.code = .ref c_unit_in
  TB_unit_in : GxR.TabB base mg c_unit_in P_unit_in
  T_unit_in : P_unit_in ∈ Tabs.t
  fd_read : FuncData
  F_read : FunD K "read" "read" (defArgs s_read) (defBody s_read) (defScope s_read) [] [] (He.ga K "read") fd_read
  g_read : mg "read" = some (.ref (He.ga K "read"))
  b_read : Binds K fd_read ["bits", "payload_bits"] []
  fd_units_lost : FuncData
  F_units_lost : FunD K "units_lost" "units_lost" (defArgs s_units_lost) (defBody s_units_lost) (defScope s_units_lost) [] [] (He.ga K "units_lost") fd_units_lost
  g_units_lost : mg "units_lost" = some (.ref (He.ga K "units_lost"))
  b_units_lost : Binds K fd_units_lost ["units", "bits"] []
  fd_law : FuncData
  F_law : FunD K "law" "law" (defArgs s_law) (defBody s_law) (defScope s_law) [] [] (He.ga K "law") fd_law
  g_law : mg "law" = some (.ref (He.ga K "law"))
  b_law : Binds K fd_law ["script"] []
  u_CHECK : Value
  g_CHECK : mg "CHECK" = some u_CHECK
  r_CHECK : RelV (.int 8) u_CHECK
  u_DEGREE : Value
  g_DEGREE : mg "DEGREE" = some u_DEGREE
  r_DEGREE : RelV (.int 8) u_DEGREE
  u_GROUP : Value
  g_GROUP : mg "GROUP" = some u_GROUP
  r_GROUP : RelV (.int 7) u_GROUP
  u_LOWER : Value
  g_LOWER : mg "LOWER" = some u_LOWER
  r_LOWER : RelV (.int 7) u_LOWER
  u_MARK : Value
  g_MARK : mg "MARK" = some u_MARK
  r_MARK : RelV (.str "000000001") u_MARK
  u_MOST_PAYLOAD : Value
  g_MOST_PAYLOAD : mg "MOST_PAYLOAD" = some u_MOST_PAYLOAD
  r_MOST_PAYLOAD : RelV (.int 400) u_MOST_PAYLOAD
  u_NUMBER : Value
  g_NUMBER : mg "NUMBER" = some u_NUMBER
  r_NUMBER : RelV (.int 8) u_NUMBER
  n_abs : mg "abs" = none
  n_all : mg "all" = none
  n_bool : mg "bool" = none
  n_enumerate : mg "enumerate" = none
  n_int : mg "int" = none
  n_isinstance : mg "isinstance" = none
  n_len : mg "len" = none
  n_list : mg "list" = none
  n_max : mg "max" = none
  n_range : mg "range" = none
  n_reversed : mg "reversed" = none
  n_str : mg "str" = none
  n_tuple : mg "tuple" = none
section
variable {P : Program} {w : World} {K : PySem.W.Frag} {mg : Str → Option Value} {base : Heap}
/-! _law_draws -/
set_option maxHeartbeats 0 in
theorem bm__law_draws (T : Facts K mg base) {A : Around} {outer : List PySem.Env} {s : Shared} {H : Hp} {E : XK} (hr : Room 1 (A.deeper (envOfC "_law_draws" (defScope s__law_draws) s.heap.objs.size (He.ga K "_law_draws") T.fd__law_draws.code))) :
  BM (cxOf (L2.CX P w) P w K mg base ["script", "draws", "cell", "number", "first", "k", "seed"] "_law_draws" (defScope s__law_draws) (He.ga K "_law_draws") T.fd__law_draws.code A outer s H E) (fun c d _ H => E c d H) (defBody s__law_draws) b__law_draws :=
  (bm_cons (sm_set sc__law_draws.nd rfl (by first | exact .inl rfl | exact .inr rfl) (em_loc (nm_lst am_nil)))
  (bm_cons (sm_for owns_cx rfl (im_any (em_var (pv 0))) (gm_name sc__law_draws.nd rfl (by first | exact .inl rfl | exact .inr rfl))
 (bm_cons (sm_set sc__law_draws.nd rfl (by first | exact .inl rfl | exact .inr rfl) (em_callB cd_abs (by rfl) T.n_abs (by rfl) (am_cons (em_var (pv 2)) am_nil)))
  (bm_cons (sm_if (tm_cmp opd_lt (em_var (pv 3)) (em_bin opd_pow em_int em_int) (nomark _)) (bm_cons (sm_set sc__law_draws.nd rfl (by first | exact .inl rfl | exact .inr rfl) (em_bin opd_mod (em_callTy cd_int (by rfl) T.n_int (by rfl) (am_cons (em_bin opd_add (em_bin opd_mul (em_var (pv 3)) em_int) em_int) am_nil)) em_int))
  (bm_cons (sm_expr (em_bm PySem.F.plainAttrs_list PySem.F.slot_list_append PySem.F.type_list_append md_append (em_var (pv 1)) (am_cons (em_bin opd_mod (em_callTy cd_int (by rfl) T.n_int (by rfl) (am_cons (em_bin opd_add (em_bin opd_mul (em_var (pv 4)) em_int) (em_var (pv 3))) am_nil)) em_int) am_nil)))
  (bm_cons (sm_expr (em_bm PySem.F.plainAttrs_list PySem.F.slot_list_append PySem.F.type_list_append md_append (em_var (pv 1)) (am_cons (em_bin opd_mod (em_callTy cd_int (by rfl) T.n_int (by rfl) (am_cons (em_bin opd_add (em_var (pv 4)) (em_bin opd_fdiv (em_var (pv 3)) em_int)) am_nil)) em_int) am_nil)))
  (bm_one (sm_set sc__law_draws.nd rfl (by first | exact .inl rfl | exact .inr rfl) em_int))))) bm_nil)
  (bm_one (sm_for owns_cx rfl (im_range1 (by rfl) T.n_range (am_cons em_int am_nil)) (gm_name sc__law_draws.nd rfl (by first | exact .inl rfl | exact .inr rfl))
 (bm_one (sm_if (tm_cmp opd_gt (em_var (pv 3)) em_int (nomark _)) (bm_cons (sm_expr (em_bm PySem.F.plainAttrs_list PySem.F.slot_list_append PySem.F.type_list_append md_append (em_var (pv 1)) (am_cons (em_bin opd_mod (em_callTy cd_int (by rfl) T.n_int (by rfl) (am_cons (em_var (pv 3)) am_nil)) em_int) am_nil)))
  (bm_one (sm_set sc__law_draws.nd rfl (by first | exact .inl rfl | exact .inr rfl) (em_bin opd_fdiv (em_var (pv 3)) em_int)))) bm_nil)))))))
  (bm_cons (sm_set sc__law_draws.nd rfl (by first | exact .inl rfl | exact .inr rfl) em_int)
  (bm_cons (sm_if (tm_cmp opd_gt (em_callB cd_len (by rfl) T.n_len (by rfl) (am_cons (em_var (pv 0)) am_nil)) em_int (nomark _)) (bm_one (sm_set sc__law_draws.nd rfl (by first | exact .inl rfl | exact .inr rfl) (em_bin opd_add em_int (em_callB cd_abs (by rfl) T.n_abs (by rfl) (am_cons (em_ix (em_var (pv 0)) em_int fun _ _ => rfl) am_nil))))) bm_nil)
  (bm_cons (sm_for owns_cx rfl (im_range1 (by rfl) T.n_range (am_cons em_int am_nil)) (gm_name sc__law_draws.nd rfl (by first | exact .inl rfl | exact .inr rfl))
 (bm_cons (sm_set sc__law_draws.nd rfl (by first | exact .inl rfl | exact .inr rfl) (em_bin opd_mod (em_callTy cd_int (by rfl) T.n_int (by rfl) (am_cons (em_bin opd_add (em_bin opd_mul (em_var (pv 6)) em_int) em_int) am_nil)) em_int))
  (bm_one (sm_expr (em_bm PySem.F.plainAttrs_list PySem.F.slot_list_append PySem.F.type_list_append md_append (em_var (pv 1)) (am_cons (em_bin opd_fdiv (em_var (pv 6)) em_int) am_nil))))))
  (bm_one (sm_ret (em_loc (nm_listRev (by rfl) T.n_list (by rfl) T.n_reversed rfl (em_var (pv 1)))))))))))
theorem fn__law_draws (T : Facts K mg base) : FnM P w K mg base 2 (He.ga K "_law_draws") T.fd__law_draws ["script"] m__law_draws := fn_retK (fn_mD T.F__law_draws sc__law_draws fun A outer s H E hr => bm__law_draws T hr)
/-! _law_take -/
set_option maxHeartbeats 0 in
theorem bm__law_take (T : Facts K mg base) {A : Around} {outer : List PySem.Env} {s : Shared} {H : Hp} {E : XK} (hr : Room 1 (A.deeper (envOfC "_law_take" (defScope s__law_take) s.heap.objs.size (He.ga K "_law_take") T.fd__law_take.code))) :
  BM (cxOf (L2.CX P w) P w K mg base ["draws", "bound"] "_law_take" (defScope s__law_take) (He.ga K "_law_take") T.fd__law_take.code A outer s H E) (fun c d _ H => E c d H) (defBody s__law_take) b__law_take :=
  (bm_cons (sm_if (tm_cmp (opd_eq (hr).units) (em_callB cd_len (by rfl) T.n_len (by rfl) (am_cons (em_var (pv 0)) am_nil)) em_int (nomark _)) (bm_one (sm_ret em_int)) bm_nil)
  (bm_one (sm_ret (em_bin opd_mod (em_callTy cd_int (by rfl) T.n_int (by rfl) (am_cons (em_bm0 PySem.F.plainAttrs_list PySem.F.slot_list_pop PySem.F.type_list_pop md_pop (em_var (pv 0))) am_nil)) (em_var (pv 1))))))
theorem fn__law_take (T : Facts K mg base) : FnM P w K mg base 2 (He.ga K "_law_take") T.fd__law_take ["draws", "bound"] m__law_take := fn_retV (fn_mD T.F__law_take sc__law_take fun A outer s H E hr => bm__law_take T hr)
/-! written -/
set_option maxHeartbeats 0 in
theorem bm_written (T : Facts K mg base) {A : Around} {outer : List PySem.Env} {s : Shared} {H : Hp} {E : XK} (hr : Room 1 (A.deeper (envOfC "written" (defScope s_written) s.heap.objs.size (He.ga K "written") T.fd_written.code))) :
  BM (cxOf (L2.CX P w) P w K mg base ["number", "many", "place"] "written" (defScope s_written) (He.ga K "written") T.fd_written.code A outer s H E) (fun c d _ H => E c d H) (defBody s_written) b_written :=
  (bm_one (sm_ret (em_bm PySem.F.plainAttrs_str PySem.F.slot_str_join PySem.F.type_str_join md_join em_str (am_cons (em_val (nm_lc [("place", 2)] rfl sc_written.nd (im_range3 (by rfl) T.n_range (am_cons (em_bin opd_sub (em_var (pv 1)) em_int) (am_cons (em_neg em_int) (am_cons (em_neg em_int) am_nil)))) (blkOk_by (by kernel_rfl)) (by decide) (fun _ _ _ _ _ => (gm_name sc_written.nd rfl (by first | exact .inl rfl | exact .inr rfl))) (fun _ _ _ _ _ => ptsm_nil) (fun _ _ _ _ _ => (em_ite (tm_cmp (opd_eq (hr).units) (em_bin opd_and (em_bin opd_shr (em_var (pv 0)) (em_var (pv 2))) em_int) em_int (nomark _)) em_str em_str)))) am_nil))))
theorem fn_written (T : Facts K mg base) : FnM P w K mg base 2 (He.ga K "written") T.fd_written ["number", "many"] m_written := fn_retV (fn_mD T.F_written sc_written fun A outer s H E hr => bm_written T hr)
/-! check -/
set_option maxHeartbeats 0 in
theorem bm_check (T : Facts K mg base) {A : Around} {outer : List PySem.Env} {s : Shared} {H : Hp} {E : XK} (hr : Room 2 (A.deeper (envOfC "check" (defScope s_check) s.heap.objs.size (He.ga K "check") T.fd_check.code))) :
  BM (cxOf (L2.CX P w) P w K mg base ["bits", "rest", "sign", "high"] "check" (defScope s_check) (He.ga K "check") T.fd_check.code A outer s H E) (fun c d _ H => E c d H) (defBody s_check) b_check :=
  (bm_cons (sm_set sc_check.nd rfl (by first | exact .inl rfl | exact .inr rfl) em_int)
  (bm_cons (sm_for owns_cx rfl (im_any (em_var (pv 0))) (gm_name sc_check.nd rfl (by first | exact .inl rfl | exact .inr rfl))
 (bm_cons (sm_set sc_check.nd rfl (by first | exact .inl rfl | exact .inr rfl) (em_bin opd_and (em_bin opd_shr (em_var (pv 1)) (em_bin opd_sub (em_glob (by rfl) T.g_DEGREE T.r_DEGREE fun _ _ => .int _) em_int)) em_int))
  (bm_cons (sm_set sc_check.nd rfl (by first | exact .inl rfl | exact .inr rfl) (em_bin opd_mod (em_bin opd_shl (em_var (pv 1)) em_int) (em_bin opd_shl em_int (em_glob (by rfl) T.g_DEGREE T.r_DEGREE fun _ _ => .int _))))
  (bm_one (sm_if (tm_cmp (opd_ne (hr).units) (em_var (pv 3)) (em_ite (tm_cmp (opd_eq (hr).units) (em_var (pv 2)) em_str (nomark _)) em_int em_int) (nomark _)) (bm_one (sm_set sc_check.nd rfl (by first | exact .inl rfl | exact .inr rfl) (em_bin opd_xor (em_var (pv 1)) (em_glob (by rfl) T.g_LOWER T.r_LOWER fun _ _ => .int _)))) bm_nil)))))
  (bm_one (sm_ret (em_call (fn_written T) ((hr).mono (by decide)) (by rfl) T.g_written T.F_written.kp T.b_written takes_cx (am_cons (em_var (pv 1)) (am_cons (em_glob (by rfl) T.g_DEGREE T.r_DEGREE fun _ _ => .int _) am_nil)))))))
theorem fn_check (T : Facts K mg base) : FnM P w K mg base 3 (He.ga K "check") T.fd_check ["bits"] m_check := fn_retV (fn_mD T.F_check sc_check fun A outer s H E hr => bm_check T hr)
/-! _law_alike -/
set_option maxHeartbeats 0 in
theorem bm__law_alike (T : Facts K mg base) {g : List D → Store → Res D} {k : Nat} (G : FnM P w K mg base k (He.ga K "_law_alike") T.fd__law_alike ["found", "due"] g) {A : Around} {outer : List PySem.Env} {s : Shared} {H : Hp} {E : XK} (hk : 1 ≤ k) (hr : Room k (A.deeper (envOfC "_law_alike" (defScope s__law_alike) s.heap.objs.size (He.ga K "_law_alike") T.fd__law_alike.code))) :
  BM (cxOf (L2.CX P w) P w K mg base ["found", "due", "k"] "_law_alike" (defScope s__law_alike) (He.ga K "_law_alike") T.fd__law_alike.code A outer s H E) (fun c d _ H => E c d H) (defBody s__law_alike) (b__law_alike g) :=
  (bm_cons (sm_if (tm_w (wm_or (tm_tru (em_callB cd_isinst (by rfl) T.n_isinstance (by rfl) (am_cons (em_var (pv 1)) (am_cons (em_ty (by rfl) T.n_list (by rfl)) am_nil))) fun _ => rfl) (wm_or1 (tm_tru (em_callB cd_isinst (by rfl) T.n_isinstance (by rfl) (am_cons (em_var (pv 1)) (am_cons (em_ty (by rfl) T.n_tuple (by rfl)) am_nil))) fun _ => rfl)))) (bm_cons (sm_if (tm_w (wm_or (tm_cmp (opd_ne (hr).units) (em_callB cd_isinst (by rfl) T.n_isinstance (by rfl) (am_cons (em_var (pv 0)) (am_cons (em_ty (by rfl) T.n_list (by rfl)) am_nil))) (em_callB cd_isinst (by rfl) T.n_isinstance (by rfl) (am_cons (em_var (pv 1)) (am_cons (em_ty (by rfl) T.n_list (by rfl)) am_nil))) (nomark _)) (wm_or1 (tm_cmp (opd_ne (hr).units) (em_callB cd_isinst (by rfl) T.n_isinstance (by rfl) (am_cons (em_var (pv 0)) (am_cons (em_ty (by rfl) T.n_tuple (by rfl)) am_nil))) (em_callB cd_isinst (by rfl) T.n_isinstance (by rfl) (am_cons (em_var (pv 1)) (am_cons (em_ty (by rfl) T.n_tuple (by rfl)) am_nil))) (nomark _))))) (bm_one (sm_ret em_bl)) bm_nil)
  (bm_one (sm_ret (em_and (em_cmp (opd_eq (hr).units) (em_callB cd_len (by rfl) T.n_len (by rfl) (am_cons (em_var (pv 0)) am_nil)) (em_callB cd_len (by rfl) T.n_len (by rfl) (am_cons (em_var (pv 1)) am_nil)) (nomark _)) (em_one (em_cmp (opd_eq (hr).units) (em_val (nm_lc [("k", 2)] rfl sc__law_alike.nd (im_range1 (by rfl) T.n_range (am_cons (em_callB cd_len (by rfl) T.n_len (by rfl) (am_cons (em_var (pv 1)) am_nil)) am_nil)) (blkOk_by (by kernel_rfl)) (by decide) (fun _ _ _ _ _ => (gm_name sc__law_alike.nd rfl (by first | exact .inl rfl | exact .inr rfl))) (fun _ _ _ _ _ => (ptsm_one (tm_not (tm_tru (em_call G ((hr).mono (by first | exact Nat.le_refl _ | exact Nat.le_trans (by decide) hk)) (by rfl) T.g__law_alike T.F__law_alike.kp T.b__law_alike tk0 (am_cons (em_ix (em_var (pv 0)) (em_var (pv 2)) fun _ _ => rfl) (am_cons (em_ix (em_var (pv 1)) (em_var (pv 2)) fun _ _ => rfl) am_nil))) fun _ => rfl)))) (fun _ _ _ _ _ => (em_var (pv 2))))) (em_val (nm_lst am_nil)) (nomark _))))))) bm_nil)
  (bm_cons (sm_if (tm_cmp opd_is (em_var (pv 1)) em_non (nomark _)) (bm_one (sm_ret (em_cmp opd_is (em_var (pv 0)) em_non (nomark _)))) bm_nil)
  (bm_cons (sm_if (tm_w (wm_or (tm_tru (em_callB cd_isinst (by rfl) T.n_isinstance (by rfl) (am_cons (em_var (pv 1)) (am_cons (em_ty (by rfl) T.n_bool (by rfl)) am_nil))) fun _ => rfl) (wm_or1 (tm_tru (em_callB cd_isinst (by rfl) T.n_isinstance (by rfl) (am_cons (em_var (pv 0)) (am_cons (em_ty (by rfl) T.n_bool (by rfl)) am_nil))) fun _ => rfl)))) (bm_one (sm_ret (em_and (em_callB cd_isinst (by rfl) T.n_isinstance (by rfl) (am_cons (em_var (pv 0)) (am_cons (em_ty (by rfl) T.n_bool (by rfl)) am_nil))) (em_and (em_callB cd_isinst (by rfl) T.n_isinstance (by rfl) (am_cons (em_var (pv 1)) (am_cons (em_ty (by rfl) T.n_bool (by rfl)) am_nil))) (em_one (em_cmp (opd_eq (hr).units) (em_var (pv 0)) (em_var (pv 1)) (nomark _))))))) bm_nil)
  (bm_cons (sm_if (tm_tru (em_callB cd_isinst (by rfl) T.n_isinstance (by rfl) (am_cons (em_var (pv 1)) (am_cons (em_ty (by rfl) T.n_int (by rfl)) am_nil))) fun _ => rfl) (bm_one (sm_ret (em_and (em_callB cd_isinst (by rfl) T.n_isinstance (by rfl) (am_cons (em_var (pv 0)) (am_cons (em_ty (by rfl) T.n_int (by rfl)) am_nil))) (em_one (em_cmp (opd_eq (hr).units) (em_var (pv 0)) (em_var (pv 1)) (nomark _)))))) bm_nil)
  (bm_one (sm_ret (em_and (em_callB cd_isinst (by rfl) T.n_isinstance (by rfl) (am_cons (em_var (pv 0)) (am_cons (em_ty (by rfl) T.n_str (by rfl)) am_nil))) (em_one (em_cmp (opd_eq (hr).units) (em_var (pv 0)) (em_var (pv 1)) (nomark _))))))))))
theorem fr__law_alike (T : Facts K mg base) : ∀ n, FnM P w K mg base (1 + n) (He.ga K "_law_alike") T.fd__law_alike ["found", "due"] (r__law_alike n)
  | 0 => fn_bad (n := 2) _
  | n + 1 => fn_retV (fn_mD (k := 1 + n) T.F__law_alike sc__law_alike fun A outer s H E hr => bm__law_alike T (fr__law_alike T n) (Nat.le_add_right _ _) hr)
theorem fn__law_alike (T : Facts K mg base) : FnM P w K mg base 10 (He.ga K "_law_alike") T.fd__law_alike ["found", "due"] m__law_alike := FnOk.mono (fr__law_alike T 8) (by decide)
/-! _law_check -/
noncomputable def e__law_check_1 : ME := (mCall dInt (mCons (mVar 2) mNil))
noncomputable def l__law_check_2 : MS := (sPut (mVar 1) (mBin dAdd (mVar 3) (mVar 4)) (mBin dSub (mC (.int 1)) (mBin dIx (mVar 1) (mBin dAdd (mVar 3) (mVar 4)))))
noncomputable def b__law_check_3 : MS := (sFor (mSrc (asV (mLst (mCons (mC (.int 0)) (mCons (mC (.int 6)) (mCons (mC (.int 7)) (mCons (mC (.int 8)) mNil))))))) (gN 4) l__law_check_2)
noncomputable def l__law_check_4 : MS := (sIf (mB (mBin dEq (mBin dIx (mVar 1) (mVar 3)) (mC (.int 1)))) b__law_check_3 sSkip)
noncomputable def e__law_check_5 : ME := (mBin dIx (mC (.str "01")) (mVar 5))
noncomputable def b__law_check : MS := (sSeq (sSet (gN 1) (asL (mCat (asV (mLc (mSrc (mVar 0)) (gN 2) mYes e__law_check_1 [2])) (mBin dMul (asV (mLst (mCons (mC (.int 0)) mNil))) (mC (.int 8)))))) (sSeq (sFor (mSrcA srcR1 (mCons (mCall dLen (mCons (mVar 0) mNil)) mNil)) (gN 3) l__law_check_4) (sRet (mMeth "str" (gStr hJoin) (mC (.str "")) (mCons (asV (mLc (mSrc (mSlice (mVar 1) (mPart (mUn dNeg (mC (.int 8)))) mNo)) (gN 5) mYes e__law_check_5 [5])) mNil)))))
noncomputable def m__law_check : List D → Store → Res D := retV (runF 6 b__law_check)
set_option maxHeartbeats 0 in
theorem bm__law_check (T : Facts K mg base) {A : Around} {outer : List PySem.Env} {s : Shared} {H : Hp} {E : XK} (hr : Room 1 (A.deeper (envOfC "_law_check" (defScope s__law_check) s.heap.objs.size (He.ga K "_law_check") T.fd__law_check.code))) :
  BM (cxOf (L2.CX P w) P w K mg base ["bits", "row", "sign", "k", "j", "one"] "_law_check" (defScope s__law_check) (He.ga K "_law_check") T.fd__law_check.code A outer s H E) (fun c d _ H => E c d H) (defBody s__law_check) b__law_check :=
  (bm_cons (sm_set sc__law_check.nd rfl (by first | exact .inl rfl | exact .inr rfl) (em_loc (nm_cat (em_val (nm_lc [("sign", 2)] rfl sc__law_check.nd (im_any (em_var (pv 0))) (blkOk_by (by kernel_rfl)) (by decide) (fun _ _ _ _ _ => (gm_name sc__law_check.nd rfl (by first | exact .inl rfl | exact .inr rfl))) (fun _ _ _ _ _ => ptsm_nil) (fun _ _ _ _ _ => (em_callTy cd_int (by rfl) T.n_int (by rfl) (am_cons (em_var (pv 2)) am_nil))))) (em_bin opd_mul (em_val (nm_lst (am_cons em_int am_nil))) em_int))))
  (bm_cons (sm_for owns_cx rfl (im_range1 (by rfl) T.n_range (am_cons (em_callB cd_len (by rfl) T.n_len (by rfl) (am_cons (em_var (pv 0)) am_nil)) am_nil)) (gm_name sc__law_check.nd rfl (by first | exact .inl rfl | exact .inr rfl))
 (bm_one (sm_if (tm_cmp (opd_eq (hr).units) (em_ix (em_var (pv 1)) (em_var (pv 3)) fun _ _ => rfl) em_int (nomark _)) (bm_one (sm_for owns_cx rfl (im_any (em_val (nm_lst (am_cons em_int (am_cons em_int (am_cons em_int (am_cons em_int am_nil))))))) (gm_name sc__law_check.nd rfl (by first | exact .inl rfl | exact .inr rfl))
 (bm_one (sm_put (em_var (pv 1)) (em_bin opd_add (em_var (pv 3)) (em_var (pv 4))) (em_bin opd_sub em_int (em_ix (em_var (pv 1)) (em_bin opd_add (em_var (pv 3)) (em_var (pv 4))) fun _ _ => rfl)))))) bm_nil)))
  (bm_one (sm_ret (em_bm PySem.F.plainAttrs_str PySem.F.slot_str_join PySem.F.type_str_join md_join em_str (am_cons (em_val (nm_lc [("one", 5)] rfl sc__law_check.nd (im_any (em_slice (em_var (pv 1)) (om_some (em_neg em_int)) om_no)) (blkOk_by (by kernel_rfl)) (by decide) (fun _ _ _ _ _ => (gm_name sc__law_check.nd rfl (by first | exact .inl rfl | exact .inr rfl))) (fun _ _ _ _ _ => ptsm_nil) (fun _ _ _ _ _ => (em_ix em_str (em_var (pv 5)) fun _ _ => rfl)))) am_nil))))))
theorem fn__law_check (T : Facts K mg base) : FnM P w K mg base 2 (He.ga K "_law_check") T.fd__law_check ["bits"] m__law_check := fn_retV (fn_mD T.F__law_check sc__law_check fun A outer s H E hr => bm__law_check T hr)
/-! _law_sum -/
noncomputable def e__law_sum_1 : ME := (mBin dIx (mC (.str "01")) (mCall dInt (mCons (mBin dNe (mBin dIx (mVar 0) (mVar 2)) (mBin dIx (mVar 1) (mVar 2))) mNil)))
noncomputable def b__law_sum : MS := (sRet (mMeth "str" (gStr hJoin) (mC (.str "")) (mCons (asV (mLc (mSrcA srcR1 (mCons (mCall dLen (mCons (mVar 0) mNil)) mNil)) (gN 2) mYes e__law_sum_1 [2])) mNil)))
noncomputable def m__law_sum : List D → Store → Res D := retV (runF 3 b__law_sum)
set_option maxHeartbeats 0 in
theorem bm__law_sum (T : Facts K mg base) {A : Around} {outer : List PySem.Env} {s : Shared} {H : Hp} {E : XK} (hr : Room 1 (A.deeper (envOfC "_law_sum" (defScope s__law_sum) s.heap.objs.size (He.ga K "_law_sum") T.fd__law_sum.code))) :
  BM (cxOf (L2.CX P w) P w K mg base ["one", "other", "k"] "_law_sum" (defScope s__law_sum) (He.ga K "_law_sum") T.fd__law_sum.code A outer s H E) (fun c d _ H => E c d H) (defBody s__law_sum) b__law_sum :=
  (bm_one (sm_ret (em_bm PySem.F.plainAttrs_str PySem.F.slot_str_join PySem.F.type_str_join md_join em_str (am_cons (em_val (nm_lc [("k", 2)] rfl sc__law_sum.nd (im_range1 (by rfl) T.n_range (am_cons (em_callB cd_len (by rfl) T.n_len (by rfl) (am_cons (em_var (pv 0)) am_nil)) am_nil)) (blkOk_by (by kernel_rfl)) (by decide) (fun _ _ _ _ _ => (gm_name sc__law_sum.nd rfl (by first | exact .inl rfl | exact .inr rfl))) (fun _ _ _ _ _ => ptsm_nil) (fun _ _ _ _ _ => (em_ix em_str (em_callTy cd_int (by rfl) T.n_int (by rfl) (am_cons (em_cmp (opd_ne (hr).units) (em_ix (em_var (pv 0)) (em_var (pv 2)) fun _ _ => rfl) (em_ix (em_var (pv 1)) (em_var (pv 2)) fun _ _ => rfl) (nomark _)) am_nil)) fun _ _ => rfl)))) am_nil))))
theorem fn__law_sum (T : Facts K mg base) : FnM P w K mg base 2 (He.ga K "_law_sum") T.fd__law_sum ["one", "other"] m__law_sum := fn_retV (fn_mD T.F__law_sum sc__law_sum fun A outer s H E hr => bm__law_sum T hr)
/-! are_bits -/
set_option maxHeartbeats 0 in
theorem bm_are_bits (T : Facts K mg base) {A : Around} {outer : List PySem.Env} {s : Shared} {H : Hp} {E : XK} (hr : Room 4 (A.deeper (envOfC "are_bits" (defScope s_are_bits) s.heap.objs.size (He.ga K "are_bits") T.fd_are_bits.code))) :
  BM (cxOf (L2.CX P w) P w K mg base ["value", "sign"] "are_bits" (defScope s_are_bits) (He.ga K "are_bits") T.fd_are_bits.code A outer s H E) (fun c d _ H => E c d H) (defBody s_are_bits) b_are_bits :=
  (bm_one (sm_ret (em_and (em_callB cd_isinst (by rfl) T.n_isinstance (by rfl) (am_cons (em_var (pv 0)) (am_cons (em_ty (by rfl) T.n_str (by rfl)) am_nil))) (em_one (em_all [("sign", 1)] (hr) (by rfl) T.n_all (genIn_def T.TB_are_bits T.T_are_bits T.hc_are_bits) (im_any (em_var (pv 0))) (blkOk_by (by kernel_rfl)) (by decide) sc_are_bits.nd rfl rfl (by decide +kernel) (by rfl) (fun _ _ _ _ _ _ _ => (gm_name sc_are_bits.nd rfl (by first | exact .inl rfl | exact .inr rfl))) (fun _ _ _ _ _ _ _ hin1 => (em_cmp (opd_in (room65 (((hr).in1).in1.deeper _))) (em_var (pv 1)) em_str (by rfl))))))))
theorem fn_are_bits (T : Facts K mg base) : FnM P w K mg base 5 (He.ga K "are_bits") T.fd_are_bits ["value"] m_are_bits := fn_retV (fn_mD T.F_are_bits sc_are_bits fun A outer s H E hr => bm_are_bits T hr)
/-! is_bits -/
noncomputable def b_is_bits : MS := (sRet (mCallF 1 m_are_bits (mCons (mVar 0) mNil)))
noncomputable def m_is_bits : List D → Store → Res D := retV (runF 1 b_is_bits)
set_option maxHeartbeats 0 in
theorem bm_is_bits (T : Facts K mg base) {A : Around} {outer : List PySem.Env} {s : Shared} {H : Hp} {E : XK} (hr : Room 5 (A.deeper (envOfC "is_bits" (defScope s_is_bits) s.heap.objs.size (He.ga K "is_bits") T.fd_is_bits.code))) :
  BM (cxOf (L2.CX P w) P w K mg base ["value"] "is_bits" (defScope s_is_bits) (He.ga K "is_bits") T.fd_is_bits.code A outer s H E) (fun c d _ H => E c d H) (defBody s_is_bits) b_is_bits :=
  (bm_one (sm_ret (em_call (fn_are_bits T) ((hr).mono (by decide)) (by rfl) T.g_are_bits T.F_are_bits.kp T.b_are_bits takes_cx (am_cons (em_var (pv 0)) am_nil))))
theorem fn_is_bits (T : Facts K mg base) : FnM P w K mg base 6 (He.ga K "is_bits") T.fd_is_bits ["value"] m_is_bits := fn_retV (fn_mD T.F_is_bits sc_is_bits fun A outer s H E hr => bm_is_bits T hr)
/-! _law_turned -/
noncomputable def b__law_turned : MS := (sRet (mBin dAdd (mBin dAdd (mSlice (mVar 0) mNo (mPart (mVar 1))) (mBin dIx (mC (.str "10")) (mCall dInt (mCons (mBin dIx (mVar 0) (mVar 1)) mNil)))) (mSlice (mVar 0) (mPart (mBin dAdd (mVar 1) (mC (.int 1)))) mNo)))
noncomputable def m__law_turned : List D → Store → Res D := retV (runF 2 b__law_turned)
set_option maxHeartbeats 0 in
theorem bm__law_turned (T : Facts K mg base) {A : Around} {outer : List PySem.Env} {s : Shared} {H : Hp} {E : XK} (hr : Room 1 (A.deeper (envOfC "_law_turned" (defScope s__law_turned) s.heap.objs.size (He.ga K "_law_turned") T.fd__law_turned.code))) :
  BM (cxOf (L2.CX P w) P w K mg base ["bits", "place"] "_law_turned" (defScope s__law_turned) (He.ga K "_law_turned") T.fd__law_turned.code A outer s H E) (fun c d _ H => E c d H) (defBody s__law_turned) b__law_turned :=
  (bm_one (sm_ret (em_bin opd_add (em_bin opd_add (em_slice (em_var (pv 0)) om_no (om_some (em_var (pv 1)))) (em_ix em_str (em_callTy cd_int (by rfl) T.n_int (by rfl) (am_cons (em_ix (em_var (pv 0)) (em_var (pv 1)) fun _ _ => rfl) am_nil)) fun _ _ => rfl)) (em_slice (em_var (pv 0)) (om_some (em_bin opd_add (em_var (pv 1)) em_int)) om_no))))
theorem fn__law_turned (T : Facts K mg base) : FnM P w K mg base 2 (He.ga K "_law_turned") T.fd__law_turned ["bits", "place"] m__law_turned := fn_retV (fn_mD T.F__law_turned sc__law_turned fun A outer s H E hr => bm__law_turned T hr)
/-! _law_units -/
noncomputable def e__law_units_1 : ME := (mBin dIx (asV (mLst (mCons (mC (.str "0")) (mCons (mC (.str "1")) (mCons (mBin dIx (mC (.str "01")) (mCallF 2 m__law_take (mCons (mVar 0) (mCons (mC (.int 2)) mNil)))) (mCons (mBin dIx (mC (.str "01")) (mCallF 2 m__law_take (mCons (mVar 0) (mCons (mC (.int 2)) mNil)))) (mCons (mBin dIx (mC (.str "01")) (mCall dInt (mCons (mBin dEq (mCallF 2 m__law_take (mCons (mVar 0) (mCons (mC (.int 5)) mNil))) (mC (.int 0))) mNil))) mNil))))))) (mVar 5))
noncomputable def l__law_units_2 : MS := (sSeq (sSet (gN 5) (mCallF 2 m__law_take (mCons (mVar 0) (mCons (mC (.int 5)) mNil)))) (sSeq (sSet (gN 6) (mMeth "str" (gStr hJoin) (mC (.str "")) (mCons (asV (mLc (mSrcA srcR1 (mCons (mVar 2) mNil)) (gN 7) mYes e__law_units_1 [7])) mNil))) (sExpr (mMeth "list" gAppend (mVar 3) (mCons (mTup (mCons (mBin dIx (asV (mLst (mCons (mVar 4) (mCons (mVar 4) (mCons (mC (.int 0)) (mCons (mCallF 2 m__law_take (mCons (mVar 0) (mCons (mC (.int 256)) mNil))) mNil)))))) (mCallF 2 m__law_take (mCons (mVar 0) (mCons (mC (.int 4)) mNil)))) (mCons (mVar 6) mNil))) mNil)))))
noncomputable def b__law_units : MS := (sSeq (sSet (gN 3) (asL (mLst mNil))) (sSeq (sFor (mSrcA srcR1 (mCons (mVar 1) mNil)) (gN 4) l__law_units_2) (sRet (mCall dTuple (mCons (mVar 3) mNil)))))
noncomputable def m__law_units : List D → Store → Res D := retV (runF 8 b__law_units)
set_option maxHeartbeats 0 in
theorem bm__law_units (T : Facts K mg base) {A : Around} {outer : List PySem.Env} {s : Shared} {H : Hp} {E : XK} (hr : Room 2 (A.deeper (envOfC "_law_units" (defScope s__law_units) s.heap.objs.size (He.ga K "_law_units") T.fd__law_units.code))) :
  BM (cxOf (L2.CX P w) P w K mg base ["draws", "count", "payload_bits", "found", "k", "kind", "payload", "j"] "_law_units" (defScope s__law_units) (He.ga K "_law_units") T.fd__law_units.code A outer s H E) (fun c d _ H => E c d H) (defBody s__law_units) b__law_units :=
  (bm_cons (sm_set sc__law_units.nd rfl (by first | exact .inl rfl | exact .inr rfl) (em_loc (nm_lst am_nil)))
  (bm_cons (sm_for owns_cx rfl (im_range1 (by rfl) T.n_range (am_cons (em_var (pv 1)) am_nil)) (gm_name sc__law_units.nd rfl (by first | exact .inl rfl | exact .inr rfl))
 (bm_cons (sm_set sc__law_units.nd rfl (by first | exact .inl rfl | exact .inr rfl) (em_call (fn__law_take T) ((hr).mono (by decide)) (by rfl) T.g__law_take T.F__law_take.kp T.b__law_take takes_cx (am_cons (em_var (pv 0)) (am_cons em_int am_nil))))
  (bm_cons (sm_set sc__law_units.nd rfl (by first | exact .inl rfl | exact .inr rfl) (em_bm PySem.F.plainAttrs_str PySem.F.slot_str_join PySem.F.type_str_join md_join em_str (am_cons (em_val (nm_lc [("j", 7)] rfl sc__law_units.nd (im_range1 (by rfl) T.n_range (am_cons (em_var (pv 2)) am_nil)) (blkOk_by (by kernel_rfl)) (by decide) (fun _ _ _ _ _ => (gm_name sc__law_units.nd rfl (by first | exact .inl rfl | exact .inr rfl))) (fun _ _ _ _ _ => ptsm_nil) (fun _ _ _ _ _ => (em_ix (em_val (nm_lst (am_cons em_str (am_cons em_str (am_cons (em_ix em_str (em_call (fn__law_take T) ((hr).mono (by decide)) (by rfl) T.g__law_take T.F__law_take.kp T.b__law_take tk0 (am_cons (em_var (pv 0)) (am_cons em_int am_nil))) fun _ _ => rfl) (am_cons (em_ix em_str (em_call (fn__law_take T) ((hr).mono (by decide)) (by rfl) T.g__law_take T.F__law_take.kp T.b__law_take tk0 (am_cons (em_var (pv 0)) (am_cons em_int am_nil))) fun _ _ => rfl) (am_cons (em_ix em_str (em_callTy cd_int (by rfl) T.n_int (by rfl) (am_cons (em_cmp (opd_eq (hr).units) (em_call (fn__law_take T) ((hr).mono (by decide)) (by rfl) T.g__law_take T.F__law_take.kp T.b__law_take tk0 (am_cons (em_var (pv 0)) (am_cons em_int am_nil))) em_int (nomark _)) am_nil)) fun _ _ => rfl) am_nil))))))) (em_var (pv 5)) fun _ _ => rfl)))) am_nil)))
  (bm_one (sm_expr (em_bm PySem.F.plainAttrs_list PySem.F.slot_list_append PySem.F.type_list_append md_append (em_var (pv 3)) (am_cons (em_tup (am_cons (em_ix (em_val (nm_lst (am_cons (em_var (pv 4)) (am_cons (em_var (pv 4)) (am_cons em_int (am_cons (em_call (fn__law_take T) ((hr).mono (by decide)) (by rfl) T.g__law_take T.F__law_take.kp T.b__law_take takes_cx (am_cons (em_var (pv 0)) (am_cons em_int am_nil))) am_nil)))))) (em_call (fn__law_take T) ((hr).mono (by decide)) (by rfl) T.g__law_take T.F__law_take.kp T.b__law_take takes_cx (am_cons (em_var (pv 0)) (am_cons em_int am_nil))) fun _ _ => rfl) (am_cons (em_var (pv 6)) am_nil))) am_nil)))))))
  (bm_one (sm_ret (em_callTy cd_tuple (by rfl) T.n_tuple (by rfl) (am_cons (em_var (pv 3)) am_nil))))))
theorem fn__law_units (T : Facts K mg base) : FnM P w K mg base 3 (He.ga K "_law_units") T.fd__law_units ["draws", "count", "payload_bits"] m__law_units := fn_retV (fn_mD T.F__law_units sc__law_units fun A outer s H E hr => bm__law_units T hr)
/-! data_length -/
set_option maxHeartbeats 0 in
theorem bm_data_length (T : Facts K mg base) {A : Around} {outer : List PySem.Env} {s : Shared} {H : Hp} {E : XK} (hr : Room 1 (A.deeper (envOfC "data_length" (defScope s_data_length) s.heap.objs.size (He.ga K "data_length") T.fd_data_length.code))) :
  BM (cxOf (L2.CX P w) P w K mg base ["payload_bits"] "data_length" (defScope s_data_length) (He.ga K "data_length") T.fd_data_length.code A outer s H E) (fun c d _ H => E c d H) (defBody s_data_length) b_data_length :=
  (bm_one (sm_ret (em_bin opd_mul (em_bin opd_fdiv (em_bin opd_sub (em_bin opd_add (em_bin opd_add (em_bin opd_add (em_glob (by rfl) T.g_NUMBER T.r_NUMBER fun _ _ => .int _) (em_var (pv 0))) (em_glob (by rfl) T.g_CHECK T.r_CHECK fun _ _ => .int _)) (em_glob (by rfl) T.g_GROUP T.r_GROUP fun _ _ => .int _)) em_int) (em_glob (by rfl) T.g_GROUP T.r_GROUP fun _ _ => .int _)) (em_glob (by rfl) T.g_GROUP T.r_GROUP fun _ _ => .int _))))
theorem fn_data_length (T : Facts K mg base) : FnM P w K mg base 2 (He.ga K "data_length") T.fd_data_length ["payload_bits"] m_data_length := fn_retV (fn_mD T.F_data_length sc_data_length fun A outer s H E hr => bm_data_length T hr)
/-! body -/
set_option maxHeartbeats 0 in
theorem bm_body (T : Facts K mg base) {A : Around} {outer : List PySem.Env} {s : Shared} {H : Hp} {E : XK} (hr : Room 3 (A.deeper (envOfC "body" (defScope s_body) s.heap.objs.size (He.ga K "body") T.fd_body.code))) :
  BM (cxOf (L2.CX P w) P w K mg base ["number", "payload", "told", "data", "at"] "body" (defScope s_body) (He.ga K "body") T.fd_body.code A outer s H E) (fun c d _ H => E c d H) (defBody s_body) b_body :=
  (bm_cons (sm_set sc_body.nd rfl (by first | exact .inl rfl | exact .inr rfl) (em_bin opd_add (em_call (fn_written T) ((hr).mono (by decide)) (by rfl) T.g_written T.F_written.kp T.b_written takes_cx (am_cons (em_var (pv 0)) (am_cons (em_glob (by rfl) T.g_NUMBER T.r_NUMBER fun _ _ => .int _) am_nil))) (em_var (pv 1))))
  (bm_cons (sm_set sc_body.nd rfl (by first | exact .inl rfl | exact .inr rfl) (em_bin opd_add (em_var (pv 2)) (em_call (fn_check T) ((hr).mono (by decide)) (by rfl) T.g_check T.F_check.kp T.b_check takes_cx (am_cons (em_var (pv 2)) am_nil))))
  (bm_cons (sm_set sc_body.nd rfl (by first | exact .inl rfl | exact .inr rfl) (em_bin opd_add (em_var (pv 3)) (em_bin opd_mul em_str (em_bin opd_sub (em_call (fn_data_length T) ((hr).mono (by decide)) (by rfl) T.g_data_length T.F_data_length.kp T.b_data_length takes_cx (am_cons (em_callB cd_len (by rfl) T.n_len (by rfl) (am_cons (em_var (pv 1)) am_nil)) am_nil)) (em_callB cd_len (by rfl) T.n_len (by rfl) (am_cons (em_var (pv 3)) am_nil))))))
  (bm_one (sm_ret (em_bm PySem.F.plainAttrs_str PySem.F.slot_str_join PySem.F.type_str_join md_join em_str (am_cons (em_val (nm_lc [("at", 4)] rfl sc_body.nd (im_range3 (by rfl) T.n_range (am_cons em_int (am_cons (em_callB cd_len (by rfl) T.n_len (by rfl) (am_cons (em_var (pv 3)) am_nil)) (am_cons (em_glob (by rfl) T.g_GROUP T.r_GROUP fun _ _ => .int _) am_nil)))) (blkOk_by (by kernel_rfl)) (by decide) (fun _ _ _ _ _ => (gm_name sc_body.nd rfl (by first | exact .inl rfl | exact .inr rfl))) (fun _ _ _ _ _ => ptsm_nil) (fun _ _ _ _ _ => (em_bin opd_add (em_slice (em_var (pv 3)) (om_some (em_var (pv 4))) (om_some (em_bin opd_add (em_var (pv 4)) (em_glob (by rfl) T.g_GROUP T.r_GROUP fun _ _ => .int _)))) em_str)))) am_nil)))))))
theorem fn_body (T : Facts K mg base) : FnM P w K mg base 4 (He.ga K "body") T.fd_body ["number", "payload"] m_body := fn_retV (fn_mD T.F_body sc_body fun A outer s H E hr => bm_body T hr)
/-! write -/
set_option maxHeartbeats 0 in
theorem bm_write (T : Facts K mg base) {A : Around} {outer : List PySem.Env} {s : Shared} {H : Hp} {E : XK} (hr : Room 4 (A.deeper (envOfC "write" (defScope s_write) s.heap.objs.size (He.ga K "write") T.fd_write.code))) :
  BM (cxOf (L2.CX P w) P w K mg base ["units", "number", "payload"] "write" (defScope s_write) (He.ga K "write") T.fd_write.code A outer s H E) (fun c d _ H => E c d H) (defBody s_write) b_write :=
  (bm_one (sm_ret (em_bm PySem.F.plainAttrs_str PySem.F.slot_str_join PySem.F.type_str_join md_join em_str (am_cons (em_val (nm_lc [("number", 1), ("payload", 2)] rfl sc_write.nd (im_any (em_var (pv 0))) (blkOk_by (by kernel_rfl)) (by decide) (fun _ _ _ _ _ => (gm_tup rfl (gms_cons (gm_name sc_write.nd rfl (by first | exact .inl rfl | exact .inr rfl)) (gms_cons (gm_name sc_write.nd rfl (by first | exact .inl rfl | exact .inr rfl)) gms_nil)))) (fun _ _ _ _ _ => ptsm_nil) (fun _ _ _ _ _ => (em_bin opd_add (em_glob (by rfl) T.g_MARK T.r_MARK fun _ _ => .str _) (em_call (fn_body T) ((hr).mono (by decide)) (by rfl) T.g_body T.F_body.kp T.b_body tk0 (am_cons (em_var (pv 1)) (am_cons (em_var (pv 2)) am_nil))))))) am_nil))))
theorem fn_write (T : Facts K mg base) : FnM P w K mg base 5 (He.ga K "write") T.fd_write ["units"] m_write := fn_retV (fn_mD T.F_write sc_write fun A outer s H E hr => bm_write T hr)
/-! is_number -/
set_option maxHeartbeats 0 in
theorem bm_is_number (T : Facts K mg base) {A : Around} {outer : List PySem.Env} {s : Shared} {H : Hp} {E : XK} (hr : Room 1 (A.deeper (envOfC "is_number" (defScope s_is_number) s.heap.objs.size (He.ga K "is_number") T.fd_is_number.code))) :
  BM (cxOf (L2.CX P w) P w K mg base ["value", "least", "most"] "is_number" (defScope s_is_number) (He.ga K "is_number") T.fd_is_number.code A outer s H E) (fun c d _ H => E c d H) (defBody s_is_number) b_is_number :=
  (bm_one (sm_ret (em_and (em_callB cd_isinst (by rfl) T.n_isinstance (by rfl) (am_cons (em_var (pv 0)) (am_cons (em_ty (by rfl) T.n_int (by rfl)) am_nil))) (em_and (em_not (em_callB cd_isinst (by rfl) T.n_isinstance (by rfl) (am_cons (em_var (pv 0)) (am_cons (em_ty (by rfl) T.n_bool (by rfl)) am_nil)))) (em_one (em_chain opd_le opd_le (em_var (pv 1)) (em_var (pv 0)) (em_var (pv 2))))))))
theorem fn_is_number (T : Facts K mg base) : FnM P w K mg base 2 (He.ga K "is_number") T.fd_is_number ["value", "least", "most"] m_is_number := fn_retV (fn_mD T.F_is_number sc_is_number fun A outer s H E hr => bm_is_number T hr)
/-! body_length -/
set_option maxHeartbeats 0 in
theorem bm_body_length (T : Facts K mg base) {A : Around} {outer : List PySem.Env} {s : Shared} {H : Hp} {E : XK} (hr : Room 2 (A.deeper (envOfC "body_length" (defScope s_body_length) s.heap.objs.size (He.ga K "body_length") T.fd_body_length.code))) :
  BM (cxOf (L2.CX P w) P w K mg base ["payload_bits"] "body_length" (defScope s_body_length) (He.ga K "body_length") T.fd_body_length.code A outer s H E) (fun c d _ H => E c d H) (defBody s_body_length) b_body_length :=
  (bm_one (sm_ret (em_bin opd_mul (em_bin opd_fdiv (em_call (fn_data_length T) ((hr).mono (by decide)) (by rfl) T.g_data_length T.F_data_length.kp T.b_data_length takes_cx (am_cons (em_var (pv 0)) am_nil)) (em_glob (by rfl) T.g_GROUP T.r_GROUP fun _ _ => .int _)) (em_bin opd_add (em_glob (by rfl) T.g_GROUP T.r_GROUP fun _ _ => .int _) em_int))))
theorem fn_body_length (T : Facts K mg base) : FnM P w K mg base 3 (He.ga K "body_length") T.fd_body_length ["payload_bits"] m_body_length := fn_retV (fn_mD T.F_body_length sc_body_length fun A outer s H E hr => bm_body_length T hr)
/-! read_number -/
set_option maxHeartbeats 0 in
theorem bm_read_number (T : Facts K mg base) {A : Around} {outer : List PySem.Env} {s : Shared} {H : Hp} {E : XK} (hr : Room 1 (A.deeper (envOfC "read_number" (defScope s_read_number) s.heap.objs.size (He.ga K "read_number") T.fd_read_number.code))) :
  BM (cxOf (L2.CX P w) P w K mg base ["bits", "found", "sign"] "read_number" (defScope s_read_number) (He.ga K "read_number") T.fd_read_number.code A outer s H E) (fun c d _ H => E c d H) (defBody s_read_number) b_read_number :=
  (bm_cons (sm_set sc_read_number.nd rfl (by first | exact .inl rfl | exact .inr rfl) em_int)
  (bm_cons (sm_for owns_cx rfl (im_any (em_var (pv 0))) (gm_name sc_read_number.nd rfl (by first | exact .inl rfl | exact .inr rfl))
 (bm_one (sm_set sc_read_number.nd rfl (by first | exact .inl rfl | exact .inr rfl) (em_bin opd_add (em_bin opd_mul em_int (em_var (pv 1))) (em_ite (tm_cmp (opd_eq (hr).units) (em_var (pv 2)) em_str (nomark _)) em_int em_int)))))
  (bm_one (sm_ret (em_var (pv 1))))))
theorem fn_read_number (T : Facts K mg base) : FnM P w K mg base 2 (He.ga K "read_number") T.fd_read_number ["bits"] m_read_number := fn_retV (fn_mD T.F_read_number sc_read_number fun A outer s H E hr => bm_read_number T hr)
/-! unit_in -/
set_option maxHeartbeats 0 in
theorem bm_unit_in (T : Facts K mg base) {A : Around} {outer : List PySem.Env} {s : Shared} {H : Hp} {E : XK} (hr : Room 4 (A.deeper (envOfC "unit_in" (defScope s_unit_in) s.heap.objs.size (He.ga K "unit_in") T.fd_unit_in.code))) :
  BM (cxOf (L2.CX P w) P w K mg base ["bits", "place", "payload_bits", "end", "groups", "at", "one", "data", "told", "behind"] "unit_in" (defScope s_unit_in) (He.ga K "unit_in") T.fd_unit_in.code A outer s H E) (fun c d _ H => E c d H) (defBody s_unit_in) b_unit_in :=
  (bm_cons (sm_set sc_unit_in.nd rfl (by first | exact .inl rfl | exact .inr rfl) (em_bin opd_add (em_var (pv 1)) (em_call (fn_body_length T) ((hr).mono (by decide)) (by rfl) T.g_body_length T.F_body_length.kp T.b_body_length takes_cx (am_cons (em_var (pv 2)) am_nil))))
  (bm_cons (sm_if (tm_w (wm_or (tm_cmp opd_gt (em_var (pv 3)) (em_callB cd_len (by rfl) T.n_len (by rfl) (am_cons (em_var (pv 0)) am_nil)) (nomark _)) (wm_or1 (tm_w (wm_and (tm_cmp opd_lt (em_var (pv 3)) (em_callB cd_len (by rfl) T.n_len (by rfl) (am_cons (em_var (pv 0)) am_nil)) (nomark _)) (wm_and1 (tm_not (tm_tru (em_bm PySem.F.plainAttrs_str PySem.F.slot_str_startswith PySem.F.type_str_startswith md_starts (em_var (pv 0)) (am_cons (em_glob (by rfl) T.g_MARK T.r_MARK fun _ _ => .str _) (am_cons (em_var (pv 3)) am_nil))) fun _ => rfl)))))))) (bm_one (sm_ret em_non)) bm_nil)
  (bm_cons (by first | exact sm_set sc_unit_in.nd rfl (by first | exact .inl rfl | exact .inr rfl) (em_val (nm_lc [("at", 5)] rfl sc_unit_in.nd (im_range3 (by rfl) T.n_range (am_cons (em_var (pv 1)) (am_cons (em_var (pv 3)) (am_cons (em_bin opd_add (em_glob (by rfl) T.g_GROUP T.r_GROUP fun _ _ => .int _) em_int) am_nil)))) (blkOk_by (by kernel_rfl)) (by decide) (fun _ _ _ _ _ => (gm_name sc_unit_in.nd rfl (by first | exact .inl rfl | exact .inr rfl))) (fun _ _ _ _ _ => ptsm_nil) (fun _ _ _ _ _ => (em_slice (em_var (pv 0)) (om_some (em_var (pv 5))) (om_some (em_bin opd_add (em_bin opd_add (em_var (pv 5)) (em_glob (by rfl) T.g_GROUP T.r_GROUP fun _ _ => .int _)) em_int)))))) | exact sm_setLc asV (.inl rfl) [("at", 5)] rfl sc_unit_in.nd rfl rfl (sw_true rfl rfl rfl (by decide +kernel)) (im_range3 (by rfl) T.n_range (am_cons (em_var (pv 1)) (am_cons (em_var (pv 3)) (am_cons (em_bin opd_add (em_glob (by rfl) T.g_GROUP T.r_GROUP fun _ _ => .int _) em_int) am_nil)))) (blkOk_by (by kernel_rfl)) (by decide) (fun _ _ _ _ _ => (gm_name sc_unit_in.nd rfl (by first | exact .inl rfl | exact .inr rfl))) (fun _ _ _ _ _ => ptsm_nil) (fun _ _ _ _ _ => (em_slice (em_var (pv 0)) (om_some (em_var (pv 5))) (om_some (em_bin opd_add (em_bin opd_add (em_var (pv 5)) (em_glob (by rfl) T.g_GROUP T.r_GROUP fun _ _ => .int _)) em_int)))))
  (bm_cons (sm_if (tm_not (tm_tru (em_all [("one", 6)] (hr) (by rfl) T.n_all (genIn_def T.TB_unit_in T.T_unit_in T.hc_unit_in) (im_any (em_var (pv 4))) (blkOk_by (by kernel_rfl)) (by decide) sc_unit_in.nd rfl rfl (by decide +kernel) (by rfl) (fun _ _ _ _ _ _ _ => (gm_name sc_unit_in.nd rfl (by first | exact .inl rfl | exact .inr rfl))) (fun _ _ _ _ _ _ _ hin1 => (em_cmp (opd_eq ((((hr).in1).in1.deeper _)).units) (em_ix (em_var (pv 6)) (em_glob (by rfl) T.g_GROUP T.r_GROUP fun _ _ => .int _) fun _ _ => rfl) em_str (nomark _)))) fun _ => rfl)) (bm_one (sm_ret em_non)) bm_nil)
  (bm_cons (sm_set sc_unit_in.nd rfl (by first | exact .inl rfl | exact .inr rfl) (em_bm PySem.F.plainAttrs_str PySem.F.slot_str_join PySem.F.type_str_join md_join em_str (am_cons (em_val (nm_lc [("one", 6)] rfl sc_unit_in.nd (im_any (em_var (pv 4))) (blkOk_by (by kernel_rfl)) (by decide) (fun _ _ _ _ _ => (gm_name sc_unit_in.nd rfl (by first | exact .inl rfl | exact .inr rfl))) (fun _ _ _ _ _ => ptsm_nil) (fun _ _ _ _ _ => (em_slice (em_var (pv 6)) om_no (om_some (em_glob (by rfl) T.g_GROUP T.r_GROUP fun _ _ => .int _)))))) am_nil)))
  (bm_cons (sm_par rfl sc_unit_in.nd rfl rfl (by decide) rfl rfl (am_cons (em_slice (em_var (pv 7)) om_no (om_some (em_bin opd_add (em_glob (by rfl) T.g_NUMBER T.r_NUMBER fun _ _ => .int _) (em_var (pv 2))))) (am_cons (em_slice (em_var (pv 7)) (om_some (em_bin opd_add (em_glob (by rfl) T.g_NUMBER T.r_NUMBER fun _ _ => .int _) (em_var (pv 2)))) om_no) am_nil)) rfl)
  (bm_cons (sm_if (tm_cmp (opd_ne (hr).units) (em_var (pv 9)) (em_bin opd_add (em_call (fn_check T) ((hr).mono (by decide)) (by rfl) T.g_check T.F_check.kp T.b_check takes_cx (am_cons (em_var (pv 8)) am_nil)) (em_bin opd_mul em_str (em_bin opd_sub (em_callB cd_len (by rfl) T.n_len (by rfl) (am_cons (em_var (pv 9)) am_nil)) (em_glob (by rfl) T.g_CHECK T.r_CHECK fun _ _ => .int _)))) (nomark _)) (bm_one (sm_ret em_non)) bm_nil)
  (bm_one (sm_ret (em_tup (am_cons (em_call (fn_read_number T) ((hr).mono (by decide)) (by rfl) T.g_read_number T.F_read_number.kp T.b_read_number takes_cx (am_cons (em_slice (em_var (pv 8)) om_no (om_some (em_glob (by rfl) T.g_NUMBER T.r_NUMBER fun _ _ => .int _))) am_nil)) (am_cons (em_slice (em_var (pv 8)) (om_some (em_glob (by rfl) T.g_NUMBER T.r_NUMBER fun _ _ => .int _)) om_no) am_nil))))))))))))
theorem fn_unit_in (T : Facts K mg base) : FnM P w K mg base 5 (He.ga K "unit_in") T.fd_unit_in ["bits", "place", "payload_bits"] m_unit_in := fn_retV (fn_mD T.F_unit_in sc_unit_in fun A outer s H E hr => bm_unit_in T hr)
/-! read -/
set_option maxHeartbeats 0 in
theorem bm_read (T : Facts K mg base) {A : Around} {outer : List PySem.Env} {s : Shared} {H : Hp} {E : XK} (hr : Room 5 (A.deeper (envOfC "read" (defScope s_read) s.heap.objs.size (He.ga K "read") T.fd_read.code))) :
  BM (cxOf (L2.CX P w) P w K mg base ["bits", "payload_bits", "found", "place", "unit"] "read" (defScope s_read) (He.ga K "read") T.fd_read.code A outer s H E) (fun c d _ H => E c d H) (defBody s_read) b_read :=
  (bm_cons (sm_if (tm_not (tm_tru (em_call (fn_are_bits T) ((hr).mono (by decide)) (by rfl) T.g_are_bits T.F_are_bits.kp T.b_are_bits takes_cx (am_cons (em_var (pv 0)) am_nil)) fun _ => rfl)) (bm_one sm_never) bm_nil)
  (bm_cons (sm_if (tm_not (tm_tru (em_call (fn_is_number T) ((hr).mono (by decide)) (by rfl) T.g_is_number T.F_is_number.kp T.b_is_number takes_cx (am_cons (em_var (pv 1)) (am_cons em_int (am_cons (em_glob (by rfl) T.g_MOST_PAYLOAD T.r_MOST_PAYLOAD fun _ _ => .int _) am_nil)))) fun _ => rfl)) (bm_one sm_never) bm_nil)
  (bm_cons (sm_par rfl sc_read.nd rfl rfl (by decide) rfl rfl (am_cons (em_loc (nm_lst am_nil)) (am_cons (em_bm PySem.F.plainAttrs_str PySem.F.slot_str_find PySem.F.type_str_find md_find (em_var (pv 0)) (am_cons (em_glob (by rfl) T.g_MARK T.r_MARK fun _ _ => .str _) am_nil)) am_nil)) rfl)
  (bm_cons (sm_while (2^40) owns_cx (tm_cmp opd_ge (em_var (pv 3)) em_int (nomark _)) (bm_cons (sm_set sc_read.nd rfl (by first | exact .inl rfl | exact .inr rfl) (em_call (fn_unit_in T) ((hr).mono (by decide)) (by rfl) T.g_unit_in T.F_unit_in.kp T.b_unit_in takes_cx (am_cons (em_var (pv 0)) (am_cons (em_bin opd_add (em_var (pv 3)) (em_callB cd_len (by rfl) T.n_len (by rfl) (am_cons (em_glob (by rfl) T.g_MARK T.r_MARK fun _ _ => .str _) am_nil))) (am_cons (em_var (pv 1)) am_nil)))))
  (bm_cons (sm_if (tm_cmp opd_isNot (em_var (pv 4)) em_non (nomark _)) (bm_cons (sm_expr (em_bm PySem.F.plainAttrs_list PySem.F.slot_list_append PySem.F.type_list_append md_append (em_var (pv 2)) (am_cons (em_var (pv 4)) am_nil)))
  (bm_one (sm_aug ip_add sc_read.nd rfl (by first | exact .inl rfl | exact .inr rfl) (em_bin opd_sub (em_bin opd_add (em_callB cd_len (by rfl) T.n_len (by rfl) (am_cons (em_glob (by rfl) T.g_MARK T.r_MARK fun _ _ => .str _) am_nil)) (em_call (fn_body_length T) ((hr).mono (by decide)) (by rfl) T.g_body_length T.F_body_length.kp T.b_body_length takes_cx (am_cons (em_var (pv 1)) am_nil))) em_int)))) bm_nil)
  (bm_one (sm_set sc_read.nd rfl (by first | exact .inl rfl | exact .inr rfl) (em_bm PySem.F.plainAttrs_str PySem.F.slot_str_find PySem.F.type_str_find md_find (em_var (pv 0)) (am_cons (em_glob (by rfl) T.g_MARK T.r_MARK fun _ _ => .str _) (am_cons (em_bin opd_add (em_var (pv 3)) em_int) am_nil))))))))
  (bm_one (sm_ret (em_callTy cd_tuple (by rfl) T.n_tuple (by rfl) (am_cons (em_var (pv 2)) am_nil))))))))
theorem fn_read (T : Facts K mg base) : FnM P w K mg base 6 (He.ga K "read") T.fd_read ["bits", "payload_bits"] m_read := fn_retV (fn_mD T.F_read sc_read fun A outer s H E hr => bm_read T hr)
/-! units_lost -/
noncomputable def b_units_lost_1 : MS := (sExpr (mMeth "list" gRemove (mVar 2) (mCons (mVar 5) mNil)))
noncomputable def b_units_lost_2 : MS := (sExpr (mMeth "list" gAppend (mVar 3) (mCons (mVar 4) mNil)))
noncomputable def l_units_lost_3 : MS := (sIf (mB (mBin dIn (mVar 5) (mVar 2))) b_units_lost_1 b_units_lost_2)
noncomputable def b_units_lost : MS := (sSeq (sPar 2 3 (mCons (asL (mCallN nList (mCons (mCallF 2 m_read (mCons (mVar 1) (mCons (mCall dLen (mCons (mBin dIx (mBin dIx (mVar 0) (mC (.int 0))) (mC (.int 1))) mNil)) mNil))) mNil))) (mCons (asL (mLst mNil)) mNil))) (sSeq (sFor (mSrcA srcEnum (mCons (mVar 0) mNil)) (gTup 2 (gCons (gN 4) (gCons (gN 5) gNil))) l_units_lost_3) (sRet (mCall dTuple (mCons (mVar 3) mNil)))))
noncomputable def m_units_lost : List D → Store → Res D := retV (runF 6 b_units_lost)
set_option maxHeartbeats 0 in
theorem bm_units_lost (T : Facts K mg base) {A : Around} {outer : List PySem.Env} {s : Shared} {H : Hp} {E : XK} (hr : Room 6 (A.deeper (envOfC "units_lost" (defScope s_units_lost) s.heap.objs.size (He.ga K "units_lost") T.fd_units_lost.code))) :
  BM (cxOf (L2.CX P w) P w K mg base ["units", "bits", "left", "found", "place", "unit"] "units_lost" (defScope s_units_lost) (He.ga K "units_lost") T.fd_units_lost.code A outer s H E) (fun c d _ H => E c d H) (defBody s_units_lost) b_units_lost :=
  (bm_cons (sm_par rfl sc_units_lost.nd rfl rfl (by decide) rfl rfl (am_cons (em_loc (nm_callTy cn_list (by rfl) T.n_list (by rfl) (am_cons (em_call (fn_read T) ((hr).mono (by decide)) (by rfl) T.g_read T.F_read.kp T.b_read takes_cx (am_cons (em_var (pv 1)) (am_cons (em_callB cd_len (by rfl) T.n_len (by rfl) (am_cons (em_ix (em_ix (em_var (pv 0)) em_int fun _ _ => rfl) em_int fun _ _ => rfl) am_nil)) am_nil))) am_nil))) (am_cons (em_loc (nm_lst am_nil)) am_nil)) rfl)
  (bm_cons (sm_for owns_cx rfl (im_enum (by rfl) T.n_enumerate (am_cons (em_var (pv 0)) am_nil)) (gm_tup rfl (gms_cons (gm_name sc_units_lost.nd rfl (by first | exact .inl rfl | exact .inr rfl)) (gms_cons (gm_name sc_units_lost.nd rfl (by first | exact .inl rfl | exact .inr rfl)) gms_nil)))
 (bm_one (sm_if (tm_cmp (opd_in (room65 hr)) (em_var (pv 5)) (em_var (pv 2)) (by rfl)) (bm_one (sm_expr (em_bm PySem.F.plainAttrs_list PySem.F.slot_list_remove PySem.F.type_list_remove (md_remove (room65 hr)) (em_var (pv 2)) (am_cons (em_var (pv 5)) am_nil)))) (bm_one (sm_expr (em_bm PySem.F.plainAttrs_list PySem.F.slot_list_append PySem.F.type_list_append md_append (em_var (pv 3)) (am_cons (em_var (pv 4)) am_nil)))))))
  (bm_one (sm_ret (em_callTy cd_tuple (by rfl) T.n_tuple (by rfl) (am_cons (em_var (pv 3)) am_nil))))))
theorem fn_units_lost (T : Facts K mg base) : FnM P w K mg base 7 (He.ga K "units_lost") T.fd_units_lost ["units", "bits"] m_units_lost := fn_retV (fn_mD T.F_units_lost sc_units_lost fun A outer s H E hr => bm_units_lost T hr)
/-! law -/
noncomputable def e_law_1 : ME := (mBin dIx (mC (.str "01")) (mCallF 2 m__law_take (mCons (mVar 1) (mCons (mC (.int 2)) mNil))))
noncomputable def e_law_2 : ME := (mMeth "str" (gStr hJoin) (mC (.str "")) (mCons (asV (mLc (mSrcA srcR1 (mCons (mVar 3) mNil)) (gN 6) mYes e_law_1 [6])) mNil))
noncomputable def t_law_3 : MT := (mB (mBin dIsNot (mCallF 1 m_is_bits (mCons (mVar 9) mNil)) (mC (.bl false))))
noncomputable def t_law_4 : MT := (mOr (mB (mBin dNe (mCall dLen (mCons (mCallF 2 m_body (mCons (mBin dIx (mVar 16) (mC (.int 0))) (mCons (mBin dIx (mVar 16) (mC (.int 1))) mNil))) mNil)) (mCallF 1 m_body_length (mCons (mVar 12) mNil)))) (mB (mBin dIn (mC (.str "00000000")) (mCallF 2 m_body (mCons (mBin dIx (mVar 16) (mC (.int 0))) (mCons (mBin dIx (mVar 16) (mC (.int 1))) mNil))))))
noncomputable def t_law_5 : MT := (mB (mBin dNe (mSlice (mSlice (mVar 15) (mPart (mBin dMul (mVar 6) (mBin dAdd (mCall dLen (mCons (mC (.str "000000001")) mNil)) (mCallF 1 m_body_length (mCons (mVar 12) mNil))))) mNo) mNo (mPart (mCall dLen (mCons (mC (.str "000000001")) mNil)))) (mC (.str "000000001"))))
noncomputable def t_law_6 : MT := (mB (mBin dNotIn (mVar 16) (mVar 13)))
noncomputable def t_law_7 : MT := (mAnd (mB (mBin dNotIn (mVar 6) (asV (mLst (mCons (mBin dSub (mVar 19) (mC (.int 1))) (mCons (mVar 19) mNil)))))) (mB (mBin dNotIn (mBin dIx (mVar 13) (mVar 6)) (asV (mLst (mCons (mBin dIx (mVar 13) (mVar 19)) (mCons (mBin dIx (mVar 13) (mCall dMax (mCons (mC (.int 0)) (mCons (mBin dSub (mVar 19) (mC (.int 1))) mNil)))) mNil)))))))
noncomputable def l_law_8 : MS := (sSeq (sSet (gN 3) (mBin dAdd (mC (.int 1)) (mCallF 2 m__law_take (mCons (mVar 1) (mCons (mC (.int 60)) mNil))))) (sSeq (sSet (gLst 2 (gCons (gN 4) (gCons (gN 5) gNil))) (asV (mLc (mSrcA srcR1 (mCons (mC (.int 2)) mNil)) (gN 7) mYes e_law_2 [7]))) (sSeq (sSet (gN 8) (mCallF 1 m_check (mCons (mVar 4) mNil))) (sSeq (sIf (mOr (mNot (mTru (mCallF 2 m__law_alike (mCons (mVar 8) (mCons (mCallF 1 m__law_check (mCons (mVar 4) mNil)) mNil))))) (mOr (mB (mBin dNe (mCallF 1 m_check (mCons (mCallF 2 m__law_sum (mCons (mVar 4) (mCons (mVar 5) mNil))) mNil)) (mCallF 2 m__law_sum (mCons (mVar 8) (mCons (mCallF 1 m_check (mCons (mVar 5) mNil)) mNil))))) (mB (mBin dNe (mCallF 1 m_check (mCons (mBin dAdd (mBin dMul (mC (.str "0")) (mBin dAdd (mC (.int 1)) (mCallF 2 m__law_take (mCons (mVar 1) (mCons (mC (.int 9)) mNil))))) (mVar 4)) mNil)) (mVar 8))))) (sRet (mC (.bl false))) sSkip) (sSeq (sIf (mOr (mB (mBin dNe (mCallF 1 m_check (mCons (mBin dAdd (mVar 4) (mVar 8)) mNil)) (mC (.str "00000000")))) (mOr (mB (mBin dNe (mCallF 1 m_check (mCons (mBin dMul (mC (.str "0")) (mVar 3)) mNil)) (mC (.str "00000000")))) (mB (mBin dIsNot (mCallF 1 m_is_bits (mCons (mBin dAdd (mVar 4) (mVar 8)) mNil)) (mC (.bl true)))))) (sRet (mC (.bl false))) sSkip) (sSeq (sIf (mOr (mB (mBin dNe (asV (mLc (mSrc (asV (mLst (mCons (mC .non) (mCons (mC (.str "012")) (mCons (mC (.int 5)) (mCons (mTup (mCons (mC (.str "0")) mNil)) (mCons (asV (mLst (mCons (mC (.str "1")) mNil))) mNil)))))))) (gN 9) t_law_3 (mVar 9) [9])) (asV (mLst mNil)))) (mB (mBin dIsNot (mCallF 1 m_is_bits (mCons (mC (.str "")) mNil)) (mC (.bl true))))) (sRet (mC (.bl false))) sSkip) (sSeq (sSet (gN 10) (mCallF 2 m__law_take (mCons (mVar 1) (mCons (mVar 3) mNil)))) (sSeq (sIf (mB (mBin dEq (mCallF 1 m_check (mCons (mCallF 2 m__law_turned (mCons (mVar 4) (mCons (mVar 10) mNil))) mNil)) (mVar 8))) (sRet (mC (.bl false))) sSkip) (sSeq (sSet (gN 11) (mCallF 2 m__law_take (mCons (mVar 1) (mCons (mVar 3) mNil)))) (sSeq (sIf (mAnd (mB (mBin dNe (mVar 11) (mVar 10))) (mAnd (mB (mBin dLt (mCall dAbs (mCons (mBin dSub (mVar 11) (mVar 10)) mNil)) (mC (.int 127)))) (mB (mBin dEq (mCallF 1 m_check (mCons (mCallF 2 m__law_turned (mCons (mCallF 2 m__law_turned (mCons (mVar 4) (mCons (mVar 10) mNil))) (mCons (mVar 11) mNil))) mNil)) (mVar 8))))) (sRet (mC (.bl false))) sSkip) (sSeq (sSet (gN 12) (mBin dAdd (mC (.int 1)) (mCallF 2 m__law_take (mCons (mVar 1) (mCons (mC (.int 30)) mNil))))) (sSeq (sSet (gTup 2 (gCons (gN 13) (gCons (gN 14) gNil))) (mTup (mCons (mCallF 3 m__law_units (mCons (mVar 1) (mCons (mBin dAdd (mC (.int 1)) (mCallF 2 m__law_take (mCons (mVar 1) (mCons (mC (.int 4)) mNil)))) (mCons (mVar 12) mNil)))) (mCons (mCallF 3 m__law_units (mCons (mVar 1) (mCons (mCallF 2 m__law_take (mCons (mVar 1) (mCons (mC (.int 3)) mNil))) (mCons (mVar 12) mNil)))) mNil)))) (sSeq (sSet (gN 15) (mCallF 1 m_write (mCons (mVar 13) mNil))) (sSeq (sIf (mOr (mB (mBin dNe (mCallF 1 m_write (mCons (mBin dAdd (mVar 13) (mVar 14)) mNil)) (mBin dAdd (mVar 15) (mCallF 1 m_write (mCons (mVar 14) mNil))))) (mOr (mNot (mTru (mCallF 2 m__law_alike (mCons (mCallF 2 m_read (mCons (mBin dAdd (mVar 15) (mCallF 1 m_write (mCons (mVar 14) mNil))) (mCons (mVar 12) mNil))) (mCons (mBin dAdd (mVar 13) (mVar 14)) mNil))))) (mB (mBin dNe (mCall dLen (mCons (mVar 15) mNil)) (mBin dMul (mCall dLen (mCons (mVar 13) mNil)) (mBin dAdd (mCall dLen (mCons (mC (.str "000000001")) mNil)) (mCallF 1 m_body_length (mCons (mVar 12) mNil)))))))) (sRet (mC (.bl false))) sSkip) (sSeq (sIf (mB (mBin dNe (asV (mLc (mSrc (mVar 13)) (gN 16) t_law_4 (mVar 16) [16])) (asV (mLst mNil)))) (sRet (mC (.bl false))) sSkip) (sSeq (sIf (mOr (mB (mBin dNe (mMeth "str" (gStr hCount) (mVar 15) (mCons (mC (.str "000000001")) mNil)) (mCall dLen (mCons (mVar 13) mNil)))) (mB (mBin dNe (asV (mLc (mSrcA srcR1 (mCons (mCall dLen (mCons (mVar 13) mNil)) mNil)) (gN 6) t_law_5 (mVar 6) [6])) (asV (mLst mNil))))) (sRet (mC (.bl false))) sSkip) (sSeq (sSet (gN 10) (mCallF 2 m__law_take (mCons (mVar 1) (mCons (mCall dLen (mCons (mVar 15) mNil)) mNil)))) (sSeq (sSet (gN 17) (mCallF 2 m__law_turned (mCons (mVar 15) (mCons (mVar 10) mNil)))) (sSeq (sSet (gN 18) (mCallF 2 m_read (mCons (mVar 17) (mCons (mVar 12) mNil)))) (sSeq (sIf (mOr (mB (mBin dNe (asV (mLc (mSrc (mVar 18)) (gN 16) t_law_6 (mVar 16) [16])) (asV (mLst mNil)))) (mOr (mB (mBin dLt (mCall dLen (mCons (mVar 18) mNil)) (mBin dSub (mCall dLen (mCons (mVar 13) mNil)) (mC (.int 2))))) (mB (mBin dNe (mCall dLen (mCons (mCallF 2 m_units_lost (mCons (mVar 13) (mCons (mVar 17) mNil))) mNil)) (mBin dSub (mCall dLen (mCons (mVar 13) mNil)) (mCall dLen (mCons (mVar 18) mNil))))))) (sRet (mC (.bl false))) sSkip) (sSeq (sSet (gN 19) (mBin dFdiv (mVar 10) (mBin dAdd (mCall dLen (mCons (mC (.str "000000001")) mNil)) (mCallF 1 m_body_length (mCons (mVar 12) mNil))))) (sSeq (sIf (mB (mBin dNe (asV (mLc (mSrc (mCallF 2 m_units_lost (mCons (mVar 13) (mCons (mVar 17) mNil)))) (gN 6) t_law_7 (mVar 6) [6])) (asV (mLst mNil)))) (sRet (mC (.bl false))) sSkip) (sIf (mOr (mB (mBin dNe (mCallF 2 m_read (mCons (mSlice (mVar 15) (mPart (mC (.int 1))) mNo) (mCons (mVar 12) mNil))) (mSlice (mVar 13) (mPart (mC (.int 1))) mNo))) (mB (mBin dNotIn (mCallF 2 m_read (mCons (mBin dAdd (mVar 15) (mC (.str "0"))) (mCons (mVar 12) mNil))) (asV (mLst (mCons (mSlice (mVar 13) mNo (mPart (mUn dNeg (mC (.int 1))))) (mCons (mVar 13) mNil))))))) (sRet (mC (.bl false))) sSkip)))))))))))))))))))))))
noncomputable def b_law : MS := (sSeq (sSet (gN 1) (mCallF 1 m__law_draws (mCons (mVar 0) mNil))) (sSeq (sFor (mSrcA srcR1 (mCons (mC (.int 5)) mNil)) (gN 2) l_law_8) (sRet (mC (.bl true)))))
noncomputable def m_law : List D → Store → Res D := retV (runF 20 b_law)
set_option maxHeartbeats 0 in
theorem bm_law (T : Facts K mg base) {A : Around} {outer : List PySem.Env} {s : Shared} {H : Hp} {E : XK} (hr : Room 10 (A.deeper (envOfC "law" (defScope s_law) s.heap.objs.size (He.ga K "law") T.fd_law.code))) :
  BM (cxOf (L2.CX P w) P w K mg base ["script", "draws", "turn", "long_one", "one", "other", "k", "step", "told", "value", "place", "second", "count", "units", "more", "stream", "unit", "bent", "found", "number"] "law" (defScope s_law) (He.ga K "law") T.fd_law.code A outer s H E) (fun c d _ H => E c d H) (defBody s_law) b_law :=
  (bm_cons (sm_set sc_law.nd rfl (by first | exact .inl rfl | exact .inr rfl) (em_call (fn__law_draws T) ((hr).mono (by decide)) (by rfl) T.g__law_draws T.F__law_draws.kp T.b__law_draws takes_cx (am_cons (em_var (pv 0)) am_nil)))
  (bm_cons (sm_for owns_cx rfl (im_range1 (by rfl) T.n_range (am_cons em_int am_nil)) (gm_name sc_law.nd rfl (by first | exact .inl rfl | exact .inr rfl))
 (bm_cons (sm_set sc_law.nd rfl (by first | exact .inl rfl | exact .inr rfl) (em_bin opd_add em_int (em_call (fn__law_take T) ((hr).mono (by decide)) (by rfl) T.g__law_take T.F__law_take.kp T.b__law_take takes_cx (am_cons (em_var (pv 1)) (am_cons em_int am_nil)))))
  (bm_cons (sm_asg (em_val (nm_lc [("step", 7)] rfl sc_law.nd (im_range1 (by rfl) T.n_range (am_cons em_int am_nil)) (blkOk_by (by kernel_rfl)) (by decide) (fun _ _ _ _ _ => (gm_name sc_law.nd rfl (by first | exact .inl rfl | exact .inr rfl))) (fun _ _ _ _ _ => ptsm_nil) (fun _ _ _ _ _ => (em_bm PySem.F.plainAttrs_str PySem.F.slot_str_join PySem.F.type_str_join md_join em_str (am_cons (em_val (nm_lc [("k", 6)] rfl sc_law.nd (im_range1 (by rfl) T.n_range (am_cons (em_var (pv 3)) am_nil)) (blkOk_by (by kernel_rfl)) (by decide) (fun _ _ _ _ _ => (gm_name sc_law.nd rfl (by first | exact .inl rfl | exact .inr rfl))) (fun _ _ _ _ _ => ptsm_nil) (fun _ _ _ _ _ => (em_ix em_str (em_call (fn__law_take T) ((hr).mono (by decide)) (by rfl) T.g__law_take T.F__law_take.kp T.b__law_take tk0 (am_cons (em_var (pv 1)) (am_cons em_int am_nil))) fun _ _ => rfl)))) am_nil))))) (gm_lst rfl (gms_cons (gm_name sc_law.nd rfl (by first | exact .inl rfl | exact .inr rfl)) (gms_cons (gm_name sc_law.nd rfl (by first | exact .inl rfl | exact .inr rfl)) gms_nil))))
  (bm_cons (sm_set sc_law.nd rfl (by first | exact .inl rfl | exact .inr rfl) (em_call (fn_check T) ((hr).mono (by decide)) (by rfl) T.g_check T.F_check.kp T.b_check takes_cx (am_cons (em_var (pv 4)) am_nil)))
  (bm_cons (sm_if (tm_w (wm_or (tm_not (tm_tru (em_call (fn__law_alike T) ((hr).mono (by decide)) (by rfl) T.g__law_alike T.F__law_alike.kp T.b__law_alike takes_cx (am_cons (em_var (pv 8)) (am_cons (em_call (fn__law_check T) ((hr).mono (by decide)) (by rfl) T.g__law_check T.F__law_check.kp T.b__law_check takes_cx (am_cons (em_var (pv 4)) am_nil)) am_nil))) fun _ => rfl)) (wm_or (tm_cmp (opd_ne (hr).units) (em_call (fn_check T) ((hr).mono (by decide)) (by rfl) T.g_check T.F_check.kp T.b_check takes_cx (am_cons (em_call (fn__law_sum T) ((hr).mono (by decide)) (by rfl) T.g__law_sum T.F__law_sum.kp T.b__law_sum takes_cx (am_cons (em_var (pv 4)) (am_cons (em_var (pv 5)) am_nil))) am_nil)) (em_call (fn__law_sum T) ((hr).mono (by decide)) (by rfl) T.g__law_sum T.F__law_sum.kp T.b__law_sum takes_cx (am_cons (em_var (pv 8)) (am_cons (em_call (fn_check T) ((hr).mono (by decide)) (by rfl) T.g_check T.F_check.kp T.b_check takes_cx (am_cons (em_var (pv 5)) am_nil)) am_nil))) (nomark _)) (wm_or1 (tm_cmp (opd_ne (hr).units) (em_call (fn_check T) ((hr).mono (by decide)) (by rfl) T.g_check T.F_check.kp T.b_check takes_cx (am_cons (em_bin opd_add (em_bin opd_mul em_str (em_bin opd_add em_int (em_call (fn__law_take T) ((hr).mono (by decide)) (by rfl) T.g__law_take T.F__law_take.kp T.b__law_take takes_cx (am_cons (em_var (pv 1)) (am_cons em_int am_nil))))) (em_var (pv 4))) am_nil)) (em_var (pv 8)) (nomark _)))))) (bm_one (sm_ret em_bl)) bm_nil)
  (bm_cons (sm_if (tm_w (wm_or (tm_cmp (opd_ne (hr).units) (em_call (fn_check T) ((hr).mono (by decide)) (by rfl) T.g_check T.F_check.kp T.b_check takes_cx (am_cons (em_bin opd_add (em_var (pv 4)) (em_var (pv 8))) am_nil)) em_str (nomark _)) (wm_or (tm_cmp (opd_ne (hr).units) (em_call (fn_check T) ((hr).mono (by decide)) (by rfl) T.g_check T.F_check.kp T.b_check takes_cx (am_cons (em_bin opd_mul em_str (em_var (pv 3))) am_nil)) em_str (nomark _)) (wm_or1 (tm_cmp opd_isNot (em_call (fn_is_bits T) ((hr).mono (by decide)) (by rfl) T.g_is_bits T.F_is_bits.kp T.b_is_bits takes_cx (am_cons (em_bin opd_add (em_var (pv 4)) (em_var (pv 8))) am_nil)) em_bl (nomark _)))))) (bm_one (sm_ret em_bl)) bm_nil)
  (bm_cons (sm_if (tm_w (wm_or (tm_cmp (opd_ne (hr).units) (em_val (nm_lc [("value", 9)] rfl sc_law.nd (im_any (em_val (nm_lst (am_cons em_non (am_cons em_str (am_cons em_int (am_cons (em_tup (am_cons em_str am_nil)) (am_cons (em_val (nm_lst (am_cons em_str am_nil))) am_nil)))))))) (blkOk_by (by kernel_rfl)) (by decide) (fun _ _ _ _ _ => (gm_name sc_law.nd rfl (by first | exact .inl rfl | exact .inr rfl))) (fun _ _ _ _ _ => (ptsm_one (tm_cmp opd_isNot (em_call (fn_is_bits T) ((hr).mono (by decide)) (by rfl) T.g_is_bits T.F_is_bits.kp T.b_is_bits tk0 (am_cons (em_var (pv 9)) am_nil)) em_bl (nomark _)))) (fun _ _ _ _ _ => (em_var (pv 9))))) (em_val (nm_lst am_nil)) (nomark _)) (wm_or1 (tm_cmp opd_isNot (em_call (fn_is_bits T) ((hr).mono (by decide)) (by rfl) T.g_is_bits T.F_is_bits.kp T.b_is_bits takes_cx (am_cons em_str am_nil)) em_bl (nomark _))))) (bm_one (sm_ret em_bl)) bm_nil)
  (bm_cons (sm_set sc_law.nd rfl (by first | exact .inl rfl | exact .inr rfl) (em_call (fn__law_take T) ((hr).mono (by decide)) (by rfl) T.g__law_take T.F__law_take.kp T.b__law_take takes_cx (am_cons (em_var (pv 1)) (am_cons (em_var (pv 3)) am_nil))))
  (bm_cons (sm_if (tm_cmp (opd_eq (hr).units) (em_call (fn_check T) ((hr).mono (by decide)) (by rfl) T.g_check T.F_check.kp T.b_check takes_cx (am_cons (em_call (fn__law_turned T) ((hr).mono (by decide)) (by rfl) T.g__law_turned T.F__law_turned.kp T.b__law_turned takes_cx (am_cons (em_var (pv 4)) (am_cons (em_var (pv 10)) am_nil))) am_nil)) (em_var (pv 8)) (nomark _)) (bm_one (sm_ret em_bl)) bm_nil)
  (bm_cons (sm_set sc_law.nd rfl (by first | exact .inl rfl | exact .inr rfl) (em_call (fn__law_take T) ((hr).mono (by decide)) (by rfl) T.g__law_take T.F__law_take.kp T.b__law_take takes_cx (am_cons (em_var (pv 1)) (am_cons (em_var (pv 3)) am_nil))))
  (bm_cons (sm_if (tm_w (wm_and (tm_cmp (opd_ne (hr).units) (em_var (pv 11)) (em_var (pv 10)) (nomark _)) (wm_and (tm_cmp opd_lt (em_callB cd_abs (by rfl) T.n_abs (by rfl) (am_cons (em_bin opd_sub (em_var (pv 11)) (em_var (pv 10))) am_nil)) em_int (nomark _)) (wm_and1 (tm_cmp (opd_eq (hr).units) (em_call (fn_check T) ((hr).mono (by decide)) (by rfl) T.g_check T.F_check.kp T.b_check takes_cx (am_cons (em_call (fn__law_turned T) ((hr).mono (by decide)) (by rfl) T.g__law_turned T.F__law_turned.kp T.b__law_turned takes_cx (am_cons (em_call (fn__law_turned T) ((hr).mono (by decide)) (by rfl) T.g__law_turned T.F__law_turned.kp T.b__law_turned takes_cx (am_cons (em_var (pv 4)) (am_cons (em_var (pv 10)) am_nil))) (am_cons (em_var (pv 11)) am_nil))) am_nil)) (em_var (pv 8)) (nomark _)))))) (bm_one (sm_ret em_bl)) bm_nil)
  (bm_cons (sm_set sc_law.nd rfl (by first | exact .inl rfl | exact .inr rfl) (em_bin opd_add em_int (em_call (fn__law_take T) ((hr).mono (by decide)) (by rfl) T.g__law_take T.F__law_take.kp T.b__law_take takes_cx (am_cons (em_var (pv 1)) (am_cons em_int am_nil)))))
  (bm_cons (sm_asg (em_tup (am_cons (em_call (fn__law_units T) ((hr).mono (by decide)) (by rfl) T.g__law_units T.F__law_units.kp T.b__law_units takes_cx (am_cons (em_var (pv 1)) (am_cons (em_bin opd_add em_int (em_call (fn__law_take T) ((hr).mono (by decide)) (by rfl) T.g__law_take T.F__law_take.kp T.b__law_take takes_cx (am_cons (em_var (pv 1)) (am_cons em_int am_nil)))) (am_cons (em_var (pv 12)) am_nil)))) (am_cons (em_call (fn__law_units T) ((hr).mono (by decide)) (by rfl) T.g__law_units T.F__law_units.kp T.b__law_units takes_cx (am_cons (em_var (pv 1)) (am_cons (em_call (fn__law_take T) ((hr).mono (by decide)) (by rfl) T.g__law_take T.F__law_take.kp T.b__law_take takes_cx (am_cons (em_var (pv 1)) (am_cons em_int am_nil))) (am_cons (em_var (pv 12)) am_nil)))) am_nil))) (gm_tup rfl (gms_cons (gm_name sc_law.nd rfl (by first | exact .inl rfl | exact .inr rfl)) (gms_cons (gm_name sc_law.nd rfl (by first | exact .inl rfl | exact .inr rfl)) gms_nil))))
  (bm_cons (sm_set sc_law.nd rfl (by first | exact .inl rfl | exact .inr rfl) (em_call (fn_write T) ((hr).mono (by decide)) (by rfl) T.g_write T.F_write.kp T.b_write takes_cx (am_cons (em_var (pv 13)) am_nil)))
  (bm_cons (sm_if (tm_w (wm_or (tm_cmp (opd_ne (hr).units) (em_call (fn_write T) ((hr).mono (by decide)) (by rfl) T.g_write T.F_write.kp T.b_write takes_cx (am_cons (em_bin opd_add (em_var (pv 13)) (em_var (pv 14))) am_nil)) (em_bin opd_add (em_var (pv 15)) (em_call (fn_write T) ((hr).mono (by decide)) (by rfl) T.g_write T.F_write.kp T.b_write takes_cx (am_cons (em_var (pv 14)) am_nil))) (nomark _)) (wm_or (tm_not (tm_tru (em_call (fn__law_alike T) ((hr).mono (by decide)) (by rfl) T.g__law_alike T.F__law_alike.kp T.b__law_alike takes_cx (am_cons (em_call (fn_read T) ((hr).mono (by decide)) (by rfl) T.g_read T.F_read.kp T.b_read takes_cx (am_cons (em_bin opd_add (em_var (pv 15)) (em_call (fn_write T) ((hr).mono (by decide)) (by rfl) T.g_write T.F_write.kp T.b_write takes_cx (am_cons (em_var (pv 14)) am_nil))) (am_cons (em_var (pv 12)) am_nil))) (am_cons (em_bin opd_add (em_var (pv 13)) (em_var (pv 14))) am_nil))) fun _ => rfl)) (wm_or1 (tm_cmp (opd_ne (hr).units) (em_callB cd_len (by rfl) T.n_len (by rfl) (am_cons (em_var (pv 15)) am_nil)) (em_bin opd_mul (em_callB cd_len (by rfl) T.n_len (by rfl) (am_cons (em_var (pv 13)) am_nil)) (em_bin opd_add (em_callB cd_len (by rfl) T.n_len (by rfl) (am_cons (em_glob (by rfl) T.g_MARK T.r_MARK fun _ _ => .str _) am_nil)) (em_call (fn_body_length T) ((hr).mono (by decide)) (by rfl) T.g_body_length T.F_body_length.kp T.b_body_length takes_cx (am_cons (em_var (pv 12)) am_nil)))) (nomark _)))))) (bm_one (sm_ret em_bl)) bm_nil)
  (bm_cons (sm_if (tm_cmp (opd_ne (hr).units) (em_val (nm_lc [("unit", 16)] rfl sc_law.nd (im_any (em_var (pv 13))) (blkOk_by (by kernel_rfl)) (by decide) (fun _ _ _ _ _ => (gm_name sc_law.nd rfl (by first | exact .inl rfl | exact .inr rfl))) (fun _ _ _ _ _ => (ptsm_one (tm_w (wm_or (tm_cmp (opd_ne (hr).units) (em_callB cd_len (by rfl) T.n_len (by rfl) (am_cons (em_call (fn_body T) ((hr).mono (by decide)) (by rfl) T.g_body T.F_body.kp T.b_body tk0 (am_cons (em_ix (em_var (pv 16)) em_int fun _ _ => rfl) (am_cons (em_ix (em_var (pv 16)) em_int fun _ _ => rfl) am_nil))) am_nil)) (em_call (fn_body_length T) ((hr).mono (by decide)) (by rfl) T.g_body_length T.F_body_length.kp T.b_body_length tk0 (am_cons (em_var (pv 12)) am_nil)) (nomark _)) (wm_or1 (tm_cmp (opd_in (room65 hr)) em_str (em_call (fn_body T) ((hr).mono (by decide)) (by rfl) T.g_body T.F_body.kp T.b_body tk0 (am_cons (em_ix (em_var (pv 16)) em_int fun _ _ => rfl) (am_cons (em_ix (em_var (pv 16)) em_int fun _ _ => rfl) am_nil))) (by rfl))))))) (fun _ _ _ _ _ => (em_var (pv 16))))) (em_val (nm_lst am_nil)) (nomark _)) (bm_one (sm_ret em_bl)) bm_nil)
  (bm_cons (sm_if (tm_w (wm_or (tm_cmp (opd_ne (hr).units) (em_bm PySem.F.plainAttrs_str PySem.F.slot_str_count PySem.F.type_str_count md_count (em_var (pv 15)) (am_cons (em_glob (by rfl) T.g_MARK T.r_MARK fun _ _ => .str _) am_nil)) (em_callB cd_len (by rfl) T.n_len (by rfl) (am_cons (em_var (pv 13)) am_nil)) (nomark _)) (wm_or1 (tm_cmp (opd_ne (hr).units) (em_val (nm_lc [("k", 6)] rfl sc_law.nd (im_range1 (by rfl) T.n_range (am_cons (em_callB cd_len (by rfl) T.n_len (by rfl) (am_cons (em_var (pv 13)) am_nil)) am_nil)) (blkOk_by (by kernel_rfl)) (by decide) (fun _ _ _ _ _ => (gm_name sc_law.nd rfl (by first | exact .inl rfl | exact .inr rfl))) (fun _ _ _ _ _ => (ptsm_one (tm_cmp (opd_ne (hr).units) (em_slice (em_slice (em_var (pv 15)) (om_some (em_bin opd_mul (em_var (pv 6)) (em_bin opd_add (em_callB cd_len (by rfl) T.n_len (by rfl) (am_cons (em_glob (by rfl) T.g_MARK T.r_MARK fun _ _ => .str _) am_nil)) (em_call (fn_body_length T) ((hr).mono (by decide)) (by rfl) T.g_body_length T.F_body_length.kp T.b_body_length tk0 (am_cons (em_var (pv 12)) am_nil))))) om_no) om_no (om_some (em_callB cd_len (by rfl) T.n_len (by rfl) (am_cons (em_glob (by rfl) T.g_MARK T.r_MARK fun _ _ => .str _) am_nil)))) (em_glob (by rfl) T.g_MARK T.r_MARK fun _ _ => .str _) (nomark _)))) (fun _ _ _ _ _ => (em_var (pv 6))))) (em_val (nm_lst am_nil)) (nomark _))))) (bm_one (sm_ret em_bl)) bm_nil)
  (bm_cons (sm_set sc_law.nd rfl (by first | exact .inl rfl | exact .inr rfl) (em_call (fn__law_take T) ((hr).mono (by decide)) (by rfl) T.g__law_take T.F__law_take.kp T.b__law_take takes_cx (am_cons (em_var (pv 1)) (am_cons (em_callB cd_len (by rfl) T.n_len (by rfl) (am_cons (em_var (pv 15)) am_nil)) am_nil))))
  (bm_cons (sm_set sc_law.nd rfl (by first | exact .inl rfl | exact .inr rfl) (em_call (fn__law_turned T) ((hr).mono (by decide)) (by rfl) T.g__law_turned T.F__law_turned.kp T.b__law_turned takes_cx (am_cons (em_var (pv 15)) (am_cons (em_var (pv 10)) am_nil))))
  (bm_cons (sm_set sc_law.nd rfl (by first | exact .inl rfl | exact .inr rfl) (em_call (fn_read T) ((hr).mono (by decide)) (by rfl) T.g_read T.F_read.kp T.b_read takes_cx (am_cons (em_var (pv 17)) (am_cons (em_var (pv 12)) am_nil))))
  (bm_cons (sm_if (tm_w (wm_or (tm_cmp (opd_ne (hr).units) (em_val (nm_lc [("unit", 16)] rfl sc_law.nd (im_any (em_var (pv 18))) (blkOk_by (by kernel_rfl)) (by decide) (fun _ _ _ _ _ => (gm_name sc_law.nd rfl (by first | exact .inl rfl | exact .inr rfl))) (fun _ _ _ _ _ => (ptsm_one (tm_cmp (opd_notIn (room65 hr)) (em_var (pv 16)) (em_var (pv 13)) (by rfl)))) (fun _ _ _ _ _ => (em_var (pv 16))))) (em_val (nm_lst am_nil)) (nomark _)) (wm_or (tm_cmp opd_lt (em_callB cd_len (by rfl) T.n_len (by rfl) (am_cons (em_var (pv 18)) am_nil)) (em_bin opd_sub (em_callB cd_len (by rfl) T.n_len (by rfl) (am_cons (em_var (pv 13)) am_nil)) em_int) (nomark _)) (wm_or1 (tm_cmp (opd_ne (hr).units) (em_callB cd_len (by rfl) T.n_len (by rfl) (am_cons (em_call (fn_units_lost T) ((hr).mono (by decide)) (by rfl) T.g_units_lost T.F_units_lost.kp T.b_units_lost takes_cx (am_cons (em_var (pv 13)) (am_cons (em_var (pv 17)) am_nil))) am_nil)) (em_bin opd_sub (em_callB cd_len (by rfl) T.n_len (by rfl) (am_cons (em_var (pv 13)) am_nil)) (em_callB cd_len (by rfl) T.n_len (by rfl) (am_cons (em_var (pv 18)) am_nil))) (nomark _)))))) (bm_one (sm_ret em_bl)) bm_nil)
  (bm_cons (sm_set sc_law.nd rfl (by first | exact .inl rfl | exact .inr rfl) (em_bin opd_fdiv (em_var (pv 10)) (em_bin opd_add (em_callB cd_len (by rfl) T.n_len (by rfl) (am_cons (em_glob (by rfl) T.g_MARK T.r_MARK fun _ _ => .str _) am_nil)) (em_call (fn_body_length T) ((hr).mono (by decide)) (by rfl) T.g_body_length T.F_body_length.kp T.b_body_length takes_cx (am_cons (em_var (pv 12)) am_nil)))))
  (bm_cons (sm_if (tm_cmp (opd_ne (hr).units) (em_val (nm_lc [("k", 6)] rfl sc_law.nd (im_any (em_call (fn_units_lost T) ((hr).mono (by decide)) (by rfl) T.g_units_lost T.F_units_lost.kp T.b_units_lost takes_cx (am_cons (em_var (pv 13)) (am_cons (em_var (pv 17)) am_nil)))) (blkOk_by (by kernel_rfl)) (by decide) (fun _ _ _ _ _ => (gm_name sc_law.nd rfl (by first | exact .inl rfl | exact .inr rfl))) (fun _ _ _ _ _ => (ptsm_one (tm_w (wm_and (tm_cmp (opd_notIn (room65 hr)) (em_var (pv 6)) (em_val (nm_lst (am_cons (em_bin opd_sub (em_var (pv 19)) em_int) (am_cons (em_var (pv 19)) am_nil)))) (by rfl)) (wm_and1 (tm_cmp (opd_notIn (room65 hr)) (em_ix (em_var (pv 13)) (em_var (pv 6)) fun _ _ => rfl) (em_val (nm_lst (am_cons (em_ix (em_var (pv 13)) (em_var (pv 19)) fun _ _ => rfl) (am_cons (em_ix (em_var (pv 13)) (em_callB (cd_max rfl) (by rfl) T.n_max (by rfl) (am_cons em_int (am_cons (em_bin opd_sub (em_var (pv 19)) em_int) am_nil))) fun _ _ => rfl) am_nil)))) (by rfl))))))) (fun _ _ _ _ _ => (em_var (pv 6))))) (em_val (nm_lst am_nil)) (nomark _)) (bm_one (sm_ret em_bl)) bm_nil)
  (bm_one (sm_if (tm_w (wm_or (tm_cmp (opd_ne (hr).units) (em_call (fn_read T) ((hr).mono (by decide)) (by rfl) T.g_read T.F_read.kp T.b_read takes_cx (am_cons (em_slice (em_var (pv 15)) (om_some em_int) om_no) (am_cons (em_var (pv 12)) am_nil))) (em_slice (em_var (pv 13)) (om_some em_int) om_no) (nomark _)) (wm_or1 (tm_cmp (opd_notIn (room65 hr)) (em_call (fn_read T) ((hr).mono (by decide)) (by rfl) T.g_read T.F_read.kp T.b_read takes_cx (am_cons (em_bin opd_add (em_var (pv 15)) em_str) (am_cons (em_var (pv 12)) am_nil))) (em_val (nm_lst (am_cons (em_slice (em_var (pv 13)) om_no (om_some (em_neg em_int))) (am_cons (em_var (pv 13)) am_nil)))) (by rfl))))) (bm_one (sm_ret em_bl)) bm_nil)))))))))))))))))))))))))
  (bm_one (sm_ret em_bl))))
theorem fn_law (T : Facts K mg base) : FnM P w K mg base 11 (He.ga K "law") T.fd_law ["script"] m_law := fn_retV (fn_mD T.F_law sc_law fun A outer s H E hr => bm_law T hr)
end
end K81


set_option Elab.async false
set_option linter.all false
set_option maxRecDepth 100000
set_option maxHeartbeats 4000000
/-! Codes: how plain Lean data stand as values; equality, membership, likeness. -/
namespace M
open PySem PySem.Spec PyProof.Rows L2
section
variable [Tabs]
theorem cl_py : ∀ {n : Nat}, (∀ (d : D) (p : PyData), toPy0 d = some p → cl n d = true) ∧ ∀ (ds : List D) (ps : List PyData), toPys0 ds = some ps → cls n ds = true := by
  intro n
  refine ⟨?_, ?_⟩
  · intro d
    refine D.rec (motive_1 := fun d => ∀ p, toPy0 d = some p → cl n d = true) (motive_2 := fun ds => ∀ ps, toPys0 ds = some ps → cls n ds = true) ?_ ?_ ?_ ?_ ?_ ?_ ?_ ?_ ?_ ?_ ?_ ?_ d
    all_goals (intros; try rfl)
    · rename_i xs ih p h
      simp only [toPy0, Option.map_eq_some_iff] at h
      obtain ⟨ps, h, _⟩ := h
      simp only [cl]; exact ih ps h
    · rename_i xs ih p h
      simp only [toPy0, Option.map_eq_some_iff] at h
      obtain ⟨ps, h, _⟩ := h
      simp only [cl]; exact ih ps h
    · rename_i h; simp [toPy0] at h
    · rename_i h; simp [toPy0] at h
    · rename_i h1 h2 ps h
      simp only [toPys0] at h
      split at h
      · rename_i a b
        simp only [cls, h1 _ a, h2 _ b, Bool.and_self]
      · cases h
  · intro ds
    refine D.rec_1 (motive_1 := fun d => ∀ p, toPy0 d = some p → cl n d = true) (motive_2 := fun ds => ∀ ps, toPys0 ds = some ps → cls n ds = true) ?_ ?_ ?_ ?_ ?_ ?_ ?_ ?_ ?_ ?_ ?_ ?_ ds
    all_goals (intros; try rfl)
    · rename_i xs ih p h
      simp only [toPy0, Option.map_eq_some_iff] at h
      obtain ⟨ps, h, _⟩ := h
      simp only [cl]; exact ih ps h
    · rename_i xs ih p h
      simp only [toPy0, Option.map_eq_some_iff] at h
      obtain ⟨ps, h, _⟩ := h
      simp only [cl]; exact ih ps h
    · rename_i h; simp [toPy0] at h
    · rename_i h; simp [toPy0] at h
    · rename_i h1 h2 ps h
      simp only [toPys0] at h
      split at h
      · rename_i a b
        simp only [cls, h1 _ a, h2 _ b, Bool.and_self]
      · cases h
/-- how data of a type stand as values -/
structure Cd (α : Type) where
  d : α → D
  p : α → PyData
  k : Nat
  to : ∀ x, toPy0 (d x) = some (p x)
  can : ∀ x, (p x).canLay0 = true
  dep : ∀ x, (p x).depth ≤ k
  eqv : ∀ x y, PyData.eqv (p x) (p y) = true ↔ x = y
namespace Cd
variable {α β γ : Type}
theorem cl (c : Cd α) (n : Nat) (x : α) : M.cl n (c.d x) = true := cl_py.1 _ _ (c.to x)
theorem cls (c : Cd α) (n : Nat) (l : List α) : M.cls n (l.map c.d) = true := by
  induction l with
  | nil => rfl
  | cons x l ih => simp only [List.map_cons, M.cls, c.cl, ih, Bool.and_self]
theorem fz (c : Cd α) (n : Nat) (S : Store) (x : α) : M.fz n S (c.d x) = some (c.d x) := by
  have h1 := c.cl n x
  have h2 := c.to x
  cases hd : c.d x with
  | loc m => rw [hd] at h2; simp [toPy0] at h2
  | _ => rw [hd] at h1; simp only [M.fz, h1, if_true]
theorem shp (c : Cd α) (hk : c.k ≤ 64) (x : α) : SeqAt.shaped (c.p x) = true := by
  unfold SeqAt.shaped
  rw [Bool.and_eq_true]
  exact ⟨c.can x, decide_eq_true (Nat.le_trans (c.dep x) hk)⟩
theorem toPy (c : Cd α) (S : Store) (x : α) : M.toPy S (c.d x) = some (c.p x) := by
  have h2 := c.to x
  cases hd : c.d x with
  | loc m => rw [hd] at h2; simp [toPy0] at h2
  | _ => rw [hd] at h2; exact h2
theorem eqd (c : Cd α) [DecidableEq α] (x y : α) : PyData.eqv (c.p x) (c.p y) = decide (x = y) := by
  by_cases h : x = y
  · rw [decide_eq_true h, (c.eqv x y).mpr h]
  · rw [decide_eq_false h]
    cases q : PyData.eqv (c.p x) (c.p y) with
    | false => rfl
    | true => exact absurd ((c.eqv x y).mp q) h
theorem dEq (c : Cd α) [DecidableEq α] (hk : c.k ≤ 64) (x y : α) (S : Store) : M.dEq (c.d x) (c.d y) S = some (.bl (decide (x = y))) := by
  by_cases h : ∃ a b, c.d x = .str a ∧ c.d y = .str b
  · obtain ⟨a, b, ha, hb⟩ := h
    have h1 := c.to x
    have h2 := c.to y
    rw [ha] at h1
    rw [hb] at h2
    simp only [toPy0, Option.some.injEq] at h1 h2
    have h3 := c.eqd x y
    rw [← h1, ← h2] at h3
    simp only [PyData.eqv] at h3
    rw [ha, hb, ← h3]
    show some (D.bl (decide (a = b))) = _
    by_cases e : a = b <;> simp [e]
  · rw [dEq_gen h, c.toPy, c.toPy]
    dsimp only
    rw [if_pos ⟨c.shp hk x, c.shp hk y⟩, c.eqd]
theorem dNe (c : Cd α) [DecidableEq α] (hk : c.k ≤ 64) (x y : α) (S : Store) : M.dNe (c.d x) (c.d y) S = some (.bl (!decide (x = y))) := by
  unfold M.dNe
  rw [c.dEq hk]
  rfl
/-- one, told by another -/
def of (c : Cd α) (f : β → α) (hf : ∀ x y, f x = f y → x = y) : Cd β where
  d := fun x => c.d (f x)
  p := fun x => c.p (f x)
  k := c.k
  to := fun x => c.to _
  can := fun x => c.can _
  dep := fun x => c.dep _
  eqv := fun x y => ⟨fun h => hf _ _ ((c.eqv _ _).mp h), fun h => (c.eqv _ _).mpr (by rw [h])⟩
def int : Cd Int where
  d := .int
  p := .int
  k := 0
  to := fun _ => rfl
  can := fun _ => rfl
  dep := fun _ => Nat.le_refl _
  eqv := fun x y => by simp [PyData.eqv]
def bl : Cd Bool where
  d := .bl
  p := .bool
  k := 0
  to := fun _ => rfl
  can := fun _ => rfl
  dep := fun _ => Nat.le_refl _
  eqv := fun x y => by simp [PyData.eqv]
/-- texts of given signs -/
def txt (f : α → Nat) (hf : ∀ x y, f x = f y → x = y) (hb : ∀ x, f x < 0x110000) : Cd (List α) where
  d := fun l => .str (M.mk (l.map f))
  p := fun l => .str (M.mk (l.map f))
  k := 0
  to := fun _ => rfl
  can := fun l => by
    show (M.mk (l.map f)).cps.all (· < 0x110000) = true
    simp [M.mk, hb]
  dep := fun _ => Nat.le_refl _
  eqv := fun x y => by
    simp only [PyData.eqv, beq_iff_eq]
    constructor
    · intro h0
      have h : x.map f = y.map f := by have h := congrArg tl h0; simpa only [tl, M.mk] using h
      clear h0
      revert y
      induction x with
      | nil => intro y h; cases y with
        | nil => rfl
        | cons _ _ => simp at h
      | cons a l ih => intro y h; cases y with
        | nil => simp at h
        | cons b m =>
          simp only [List.map_cons, List.cons.injEq] at h
          rw [hf _ _ h.1, ih m h.2]
    · rintro rfl; rfl
theorem toS (c : Cd α) : ∀ l : List α, toPys0 (l.map c.d) = some (l.map c.p)
  | [] => by simp [toPys0]
  | x :: l => by simp [toPys0, c.to, toS c l]
theorem canS (c : Cd α) : ∀ l : List α, PyData.canLayAll0 (l.map c.p) = true
  | [] => by simp [PyData.canLayAll0]
  | x :: l => by simp [PyData.canLayAll0, c.can, canS c l]
theorem depS (c : Cd α) : ∀ l : List α, PyData.depthAll (l.map c.p) ≤ c.k
  | [] => by simp [PyData.depthAll]
  | x :: l => by
    have h1 := depS c l
    have h2 := c.dep x
    simp only [List.map_cons, PyData.depthAll]; omega
theorem eqS (c : Cd α) : ∀ l m : List α, PyData.eqvAll (l.map c.p) (m.map c.p) = true ↔ l = m
  | [], [] => by simp [PyData.eqvAll]
  | [], _ :: _ => by simp [PyData.eqvAll]
  | _ :: _, [] => by simp [PyData.eqvAll]
  | x :: l, y :: m => by simp only [List.map_cons, PyData.eqvAll, Bool.and_eq_true, c.eqv, eqS c l m, List.cons.injEq]
/-- tuples of such -/
def tup (c : Cd α) : Cd (List α) where
  d := fun l => .tup (l.map c.d)
  p := fun l => .tuple (l.map c.p)
  k := c.k + 1
  to := fun l => by simp only [toPy0, c.toS, Option.map_some]
  can := fun l => by simp only [PyData.canLay0, c.canS]
  dep := fun l => by have := c.depS l; simp only [PyData.depth]; omega
  eqv := fun x y => by simp only [PyData.eqv, c.eqS]
/-- lists of such -/
def lst (c : Cd α) : Cd (List α) where
  d := fun l => .lst (l.map c.d)
  p := fun l => .list (l.map c.p)
  k := c.k + 1
  to := fun l => by simp only [toPy0, c.toS, Option.map_some]
  can := fun l => by simp only [PyData.canLay0, c.canS]
  dep := fun l => by have := c.depS l; simp only [PyData.depth]; omega
  eqv := fun x y => by simp only [PyData.eqv, c.eqS]
/-- pairs -/
def pair (c : Cd α) (c' : Cd β) : Cd (α × β) where
  d := fun x => .tup [c.d x.1, c'.d x.2]
  p := fun x => .tuple [c.p x.1, c'.p x.2]
  k := max c.k c'.k + 1
  to := fun l => by simp only [toPy0, toPys0, c.to, c'.to, Option.map_some]
  can := fun l => by simp only [PyData.canLay0, PyData.canLayAll0, c.can, c'.can, Bool.and_self]
  dep := fun l => by have := c.dep l.1; have := c'.dep l.2; simp only [PyData.depth, PyData.depthAll]; omega
  eqv := fun x y => by simp only [PyData.eqv, PyData.eqvAll, c.eqv, c'.eqv, Bool.and_eq_true, Prod.ext_iff, and_true]
/-- three -/
def tri (c : Cd α) (c' : Cd β) (c'' : Cd γ) : Cd (α × β × γ) where
  d := fun x => .tup [c.d x.1, c'.d x.2.1, c''.d x.2.2]
  p := fun x => .tuple [c.p x.1, c'.p x.2.1, c''.p x.2.2]
  k := max c.k (max c'.k c''.k) + 1
  to := fun l => by simp only [toPy0, toPys0, c.to, c'.to, c''.to, Option.map_some]
  can := fun l => by simp only [PyData.canLay0, PyData.canLayAll0, c.can, c'.can, c''.can, Bool.and_self]
  dep := fun l => by have := c.dep l.1; have := c'.dep l.2.1; have := c''.dep l.2.2; simp only [PyData.depth, PyData.depthAll]; omega
  eqv := fun x y => by simp only [PyData.eqv, PyData.eqvAll, c.eqv, c'.eqv, c''.eqv, Bool.and_eq_true, Prod.ext_iff, and_true]
theorem any_mem (c : Cd α) [DecidableEq α] (x : α) : ∀ l : List α, (l.map c.p).any (fun z => PyData.eqv z (c.p x)) = decide (x ∈ l)
  | [] => by simp
  | y :: l => by
    simp only [List.map_cons, List.any_cons, any_mem c x l, c.eqd, List.mem_cons, Bool.decide_or]
    congr 1
    by_cases h : y = x
    · rw [decide_eq_true h, decide_eq_true h.symm]
    · rw [decide_eq_false h, decide_eq_false fun z => h z.symm]
theorem dIn_lst (c : Cd α) [DecidableEq α] (hk : c.k ≤ 63) (x : α) (l : List α) (S : Store) : M.dIn (c.d x) (.lst (l.map c.d)) S = some (.bl (decide (x ∈ l))) := by
  have h1 : M.toPy S (.lst (l.map c.d)) = some (.list (l.map c.p)) := (lst c).toPy S l
  have e := dIn_gen (x := c.d x) (y := .lst (l.map c.d)) (S := S) (by rintro ⟨a, b, _, h⟩; cases h)
  rw [e, c.toPy, h1]
  dsimp only
  rw [if_pos ⟨c.shp (by omega) x, (lst c).shp (show c.k + 1 ≤ 64 by omega) l⟩, c.any_mem]
theorem dIn_tup (c : Cd α) [DecidableEq α] (hk : c.k ≤ 63) (x : α) (l : List α) (S : Store) : M.dIn (c.d x) (.tup (l.map c.d)) S = some (.bl (decide (x ∈ l))) := by
  have h1 : M.toPy S (.tup (l.map c.d)) = some (.tuple (l.map c.p)) := (tup c).toPy S l
  have e := dIn_gen (x := c.d x) (y := .tup (l.map c.d)) (S := S) (by rintro ⟨a, b, _, h⟩; cases h)
  rw [e, c.toPy, h1]
  dsimp only
  have h2 := (lst c).shp (show c.k + 1 ≤ 64 by omega) l
  rw [if_pos ⟨c.shp (by omega) x, h2⟩, c.any_mem]
end Cd
/-! ### likeness of one with itself -/
mutual
/-- plain data, so deep at most -/
def pl : Nat → D → Bool
  | _, .non => true
  | _, .bl _ => true
  | _, .int _ => true
  | _, .str _ => true
  | n + 1, .tup xs => decide (xs.length ≤ 100000) && pls n xs
  | n + 1, .lst xs => decide (xs.length ≤ 100000) && pls n xs
  | _, _ => false
def pls : Nat → List D → Bool
  | _, [] => true
  | n, d :: ds => pl n d && pls n ds
end
theorem pls_at : ∀ {n : Nat} {ds : List D} {d : D}, pls n ds = true → d ∈ ds → pl n d = true
  | n, d' :: ds, d, h, m => by
    simp only [pls, Bool.and_eq_true] at h
    rcases List.mem_cons.mp m with rfl | m
    · exact h.1
    · exact pls_at h.2 m
theorem lcM_none {src : List D} {t : MG} {mt : MT} {me : ME} {e : Env} {S : Store} : ∀ (ds : List D), (∀ d ∈ ds, ∃ e1, t d e S = some e1 ∧ mt e1 S = .ok false S) → lcM ⟨src, []⟩ t mt me e ds S = .ok [] S
  | [], _ => by unfold lcM; rw [if_pos (Src.ok_nil _ _)]
  | d :: ds, h => by
    obtain ⟨e1, h1, h2⟩ := h d (by simp)
    unfold lcM
    rw [if_pos (Src.ok_nil _ _), h1]
    dsimp only
    rw [h2, noEx_ok, Res.bind_ok, if_neg (by decide)]
    exact lcM_none ds fun d hd => h d (List.mem_cons_of_mem _ hd)
theorem alike_refl {S : Store} (hS : clS S.length S = true) : ∀ (n : Nat) (d : D), pl n d = true → r__law_alike (n + 1) [d, d] S = .ok (.bl true) S := by
  intro n
  induction n with
  | zero =>
    intro d h
    show retV (runF 3 (b__law_alike (r__law_alike 0))) [d, d] S = _
    refine retV_id ?_ hS rfl
    cases d with
    | non => simp [runF, b__law_alike, b__law_alike_3, dIsInst, tyName, isT, dIs, isNon]
    | bl b => simp [runF, b__law_alike, b__law_alike_4, dIsInst, tyName, isT, dIs, isNon]
    | int i => simp [runF, b__law_alike, b__law_alike_5, dIsInst, tyName, isT, dIs, isNon]
    | str x => simp [runF, b__law_alike, dIsInst, tyName, isT, dIs, isNon]
    | _ => simp [pl] at h
  | succ n ih =>
    intro d h
    show retV (runF 3 (b__law_alike (r__law_alike (n + 1)))) [d, d] S = _
    refine retV_id ?_ hS rfl
    cases d with
    | non => simp [runF, b__law_alike, b__law_alike_3, dIsInst, tyName, isT, dIs, isNon]
    | bl b => simp [runF, b__law_alike, b__law_alike_4, dIsInst, tyName, isT, dIs, isNon]
    | int i => simp [runF, b__law_alike, b__law_alike_5, dIsInst, tyName, isT, dIs, isNon]
    | str x => simp [runF, b__law_alike, dIsInst, tyName, isT, dIs, isNon]
    | tup xs =>
      simp only [pl, Bool.and_eq_true, decide_eq_true_eq] at h
      have e1 : mLc (mSrcA srcR1 (mCons (mCall dLen (mCons (mVar 1) mNil)) mNil)) (gN 2) (t__law_alike_1 (r__law_alike (n + 1))) (mVar 2) [2] [some (.tup xs), some (.tup xs), none] S = .ok [] S := by
        have h1 : mSrcA srcR1 (mCons (mCall dLen (mCons (mVar 1) mNil)) mNil) [some (.tup xs), some (.tup xs), none] S = .ok ⟨rng 0 xs.length, []⟩ S := src_rng _ h.1 (call_ok (one_ok (var_ok rfl)) rfl)
        rw [x_mLc, h1, Res.bind_ok, if_pos (sz (by rw [rng_len]; exact h.1))]
        refine lcM_none _ fun d hd => ?_
        obtain ⟨i, hi, rfl⟩ := List.mem_map.mp hd
        have hi := List.mem_range.mp hi
        have hx : xs[i]? = some xs[i] := List.getElem?_eq_getElem hi
        have hz : ((0 : Int) + (i : Nat)) = (i : Int) := by omega
        rw [hz]
        refine ⟨_, rfl, ?_⟩
        have q := ih xs[i] (pls_at h.2 (List.getElem_mem hi))
        have v2 : ∀ S, (mVar 2) [some (.tup xs), some (.tup xs), some (.int (i : Int))] S = .ok (.int (i : Int)) S := fun S => rfl
        have q2 : mCallF 2 (r__law_alike (n + 1)) (mCons (mBin dIx (mVar 0) (mVar 2)) (mCons (mBin dIx (mVar 1) (mVar 2)) mNil)) [some (.tup xs), some (.tup xs), some (.int (i : Int))] S = .ok (.bl true) S :=
          callF_ok (cons_ok (bin_ok (var_ok rfl) (v2 _) (ix_tup xs i _ _ hx)) (one_ok (bin_ok (var_ok rfl) (v2 _) (ix_tup xs i _ _ hx)))) q
        show mNot (mTru _) _ _ = _
        rw [x_mNot, x_mTru]
        show ((mCallF 2 (r__law_alike (n + 1)) (mCons (mBin dIx (mVar 0) (mVar 2)) (mCons (mBin dIx (mVar 1) (mVar 2)) mNil)) [some (.tup xs), some (.tup xs), some (.int (i : Int))] S).bind _).bind _ = _
        rw [q2]; rfl
      have c1 : (mOr (mTru (mCall dIsInst (mCons (mVar 1) (mCons (mC (.ty "list")) mNil)))) (mTru (mCall dIsInst (mCons (mVar 1) (mCons (mC (.ty "tuple")) mNil))))) [some (.tup xs), some (.tup xs), none] S = .ok true S := by
        simp [dIsInst, tyName, isT]
      have c2 : (mOr (mB (mBin dNe (mCall dIsInst (mCons (mVar 0) (mCons (mC (.ty "list")) mNil))) (mCall dIsInst (mCons (mVar 1) (mCons (mC (.ty "list")) mNil))))) (mB (mBin dNe (mCall dIsInst (mCons (mVar 0) (mCons (mC (.ty "tuple")) mNil))) (mCall dIsInst (mCons (mVar 1) (mCons (mC (.ty "tuple")) mNil)))))) [some (.tup xs), some (.tup xs), none] S = .ok false S := by
        simp [dIsInst, tyName, isT]
      refine run_rt (e' := [some (.tup xs), some (.tup xs), none]) (seq_rt ((if_t c1).trans ((seq_nx (if_skip c2)).trans (ret_ok ?_))))
      rw [x_mAndV, bin_ok (call_ok (one_ok (var_ok rfl)) len_tup) (call_ok (one_ok (var_ok rfl)) len_tup) x_eqI, Res.bind_ok, decide_eq_true rfl]
      exact bin_ok (asV_ok e1) (asV_ok (lst_ok rfl (Nat.zero_le _))) (x_eqL [] [])
    | lst xs =>
      simp only [pl, Bool.and_eq_true, decide_eq_true_eq] at h
      have e1 : mLc (mSrcA srcR1 (mCons (mCall dLen (mCons (mVar 1) mNil)) mNil)) (gN 2) (t__law_alike_1 (r__law_alike (n + 1))) (mVar 2) [2] [some (.lst xs), some (.lst xs), none] S = .ok [] S := by
        have h1 : mSrcA srcR1 (mCons (mCall dLen (mCons (mVar 1) mNil)) mNil) [some (.lst xs), some (.lst xs), none] S = .ok ⟨rng 0 xs.length, []⟩ S := src_rng _ h.1 (call_ok (one_ok (var_ok rfl)) rfl)
        rw [x_mLc, h1, Res.bind_ok, if_pos (sz (by rw [rng_len]; exact h.1))]
        refine lcM_none _ fun d hd => ?_
        obtain ⟨i, hi, rfl⟩ := List.mem_map.mp hd
        have hi := List.mem_range.mp hi
        have hx : xs[i]? = some xs[i] := List.getElem?_eq_getElem hi
        have hz : ((0 : Int) + (i : Nat)) = (i : Int) := by omega
        rw [hz]
        refine ⟨_, rfl, ?_⟩
        have q := ih xs[i] (pls_at h.2 (List.getElem_mem hi))
        have v2 : ∀ S, (mVar 2) [some (.lst xs), some (.lst xs), some (.int (i : Int))] S = .ok (.int (i : Int)) S := fun S => rfl
        have q2 : mCallF 2 (r__law_alike (n + 1)) (mCons (mBin dIx (mVar 0) (mVar 2)) (mCons (mBin dIx (mVar 1) (mVar 2)) mNil)) [some (.lst xs), some (.lst xs), some (.int (i : Int))] S = .ok (.bl true) S :=
          callF_ok (cons_ok (bin_ok (var_ok rfl) (v2 _) (ix_lst xs i _ _ hx)) (one_ok (bin_ok (var_ok rfl) (v2 _) (ix_lst xs i _ _ hx)))) q
        show mNot (mTru _) _ _ = _
        rw [x_mNot, x_mTru]
        show ((mCallF 2 (r__law_alike (n + 1)) (mCons (mBin dIx (mVar 0) (mVar 2)) (mCons (mBin dIx (mVar 1) (mVar 2)) mNil)) [some (.lst xs), some (.lst xs), some (.int (i : Int))] S).bind _).bind _ = _
        rw [q2]; rfl
      have c1 : (mOr (mTru (mCall dIsInst (mCons (mVar 1) (mCons (mC (.ty "list")) mNil)))) (mTru (mCall dIsInst (mCons (mVar 1) (mCons (mC (.ty "tuple")) mNil))))) [some (.lst xs), some (.lst xs), none] S = .ok true S := by
        simp [dIsInst, tyName, isT]
      have c2 : (mOr (mB (mBin dNe (mCall dIsInst (mCons (mVar 0) (mCons (mC (.ty "list")) mNil))) (mCall dIsInst (mCons (mVar 1) (mCons (mC (.ty "list")) mNil))))) (mB (mBin dNe (mCall dIsInst (mCons (mVar 0) (mCons (mC (.ty "tuple")) mNil))) (mCall dIsInst (mCons (mVar 1) (mCons (mC (.ty "tuple")) mNil)))))) [some (.lst xs), some (.lst xs), none] S = .ok false S := by
        simp [dIsInst, tyName, isT]
      refine run_rt (e' := [some (.lst xs), some (.lst xs), none]) (seq_rt ((if_t c1).trans ((seq_nx (if_skip c2)).trans (ret_ok ?_))))
      rw [x_mAndV, bin_ok (call_ok (one_ok (var_ok rfl)) len_lst) (call_ok (one_ok (var_ok rfl)) len_lst) x_eqI, Res.bind_ok, decide_eq_true rfl]
      exact bin_ok (asV_ok e1) (asV_ok (lst_ok rfl (Nat.zero_le _))) (x_eqL [] [])
    | _ => simp [pl] at h
end
end M


set_option Elab.async false
set_option linter.all false
set_option maxRecDepth 100000
set_option maxHeartbeats 4000000
/-! Plain lemmas: loops, texts' methods, the store with one more. -/
namespace M
open PySem PySem.Spec PyProof.Rows L2
section
variable [Tabs]
mutual
theorem cl_mono {n m : Nat} (h : n ≤ m) : ∀ d : D, cl n d = true → cl m d = true
  | .tup xs, e => by simp only [cl] at e ⊢; exact cls_mono h xs e
  | .lst xs, e => by simp only [cl] at e ⊢; exact cls_mono h xs e
  | .fro xs, e => by simp only [cl] at e ⊢; exact cls_mono h xs e
  | .loc k, e => by simp only [cl, decide_eq_true_eq] at e ⊢; omega
  | .non, _ => rfl
  | .bl _, _ => rfl
  | .int _, _ => rfl
  | .str _, _ => rfl
  | .ty _, _ => rfl
  | .ref _, _ => rfl
theorem cls_mono {n m : Nat} (h : n ≤ m) : ∀ ds : List D, cls n ds = true → cls m ds = true
  | [], _ => rfl
  | d :: ds, e => by
    simp only [cls, Bool.and_eq_true] at e ⊢
    exact ⟨cl_mono h d e.1, cls_mono h ds e.2⟩
end
theorem clS_push {S : Store} {ds : List D} (hS : clS S.length S = true) (hd : cls (S.length + 1) ds = true) : clS (S ++ [OB.lst ds]).length (S ++ [OB.lst ds]) = true := by
  rw [List.length_append, List.length_singleton]
  unfold clS at hS ⊢
  rw [List.all_append, Bool.and_eq_true]
  refine ⟨?_, by simpa [clO] using hd⟩
  rw [List.all_eq_true] at hS ⊢
  intro o ho
  have := hS o ho
  cases o with
  | lst xs => exact cls_mono (Nat.le_succ _) xs this
theorem str_ok {S S1 : Store} {T : String} {e : M.Env} {x : PySem.Str} {m : MA} {ma : ME} {h : PySem.Str → List D → Store → Option D} {ds : List D} {r : D} (hT : (T == "str") = true) (ha : ma e S = .ok (.str x) S) (hm : m e S = .ok ds S1) (hh : h x ds S1 = some r) : mMeth T (gStr h) ma m e S = .ok r S1 := by
  refine meth_ok (S1 := S1) (S2 := S1) ha ?_ hm (r := r) ?_
  · exact hT
  · show (h x ds S1).map _ = _
    rw [hh]
    rfl
theorem srcA_ok {S : Store} {f : List D → Store → Option Src} {m : MA} {e : M.Env} {ds : List D} {src : Src} (h : m e S = .ok ds S) (hf : f ds S = some src) : mSrcA f m e S = .ok src S := by rw [x_mSrcA, h, Res.bind_ok, hf]; rfl
theorem par_ok {S : Store} {e : M.Env} {i j : Nat} {a b : ME} {u v : D} {S1 S2 : Store} (ha : a e S = .ok u S1) (hb : b e S1 = .ok v S2) : sPar i j (mCons a (mCons b mNil)) e S = some (.nx, (e.set i (some u)).set j (some v), S2) := by
  show (mCons a (mCons b mNil) e S).st e _ = _
  rw [cons_ok ha (one_ok hb)]
  rfl
theorem rngC_eq (lo c : Int) (n : Nat) : rngC lo c n = (List.range n).map fun (i : Nat) => D.int (lo + (i : Int) * c) := rfl
theorem rngC_len (lo c : Int) (n : Nat) : (rngC lo c n).length = n := by simp [rngC]
theorem whl_go {c : MT} {b : MS} {n : Nat} {e e2 : M.Env} {S S1 S2 : Store} (h : c e S = .ok true S1) (hb : b e S1 = some (.nx, e2, S2)) : whileM c b (n + 1) e S = whileM c b n e2 S2 := by
  conv => lhs; unfold whileM
  rw [h]
  show stepF (b e S1) (whileM c b n) = _
  rw [hb]
  rfl
theorem whl_no {c : MT} {b : MS} {n : Nat} {e : M.Env} {S S1 : Store} (h : c e S = .ok false S1) : whileM c b (n + 1) e S = some (.nx, e, S1) := by
  unfold whileM
  rw [h]
  rfl
theorem aug_ok {e : M.Env} {S S1 : Store} {i : Nat} {f : Int → Int → Int} {m : ME} {x y z : Int} (hx : e[i]? = some (some (.int x))) (hm : m e S = .ok (.int y) S1) (hz : f x y = z) : sAug i f m e S = some (.nx, e.set i (some (.int z)), S1) := by
  unfold sAug
  rw [hx]
  dsimp only
  rw [hm]
  show some _ = _
  rw [hz]
theorem put_ok {e : M.Env} {S S1 S2 S3 : Store} {mo mi me : ME} {d : D} {n : Nat} {k : Int} {xs : List D} {j : Nat} (hm : me e S = .ok d S1) (ho : mo e S1 = .ok (.loc n) S2) (hi : mi e S2 = .ok (.int k) S3) (hs : S3[n]? = some (.lst xs)) (hj : ixN xs.length k = some j) : sPut mo mi me e S = some (.nx, e, S3.set n (.lst (xs.set j d))) := by
  unfold sPut
  simp only [hm, Res.st_ok, ho, hi, hs, hj]
theorem src_rng' (n : Nat) (h : n ≤ 100000) {e : M.Env} {S S1 : Store} {m : ME} (hm : m e S = .ok (.int n) S1) : mSrcA srcR1 (mCons m mNil) e S = .ok ⟨rng 0 n, []⟩ S1 := by
  have hr : M.inR (n : Int) = true := by
    unfold M.inR
    rw [decide_eq_true_eq]
    constructor <;> omega
  rw [x_mSrcA, one_ok hm, Res.bind_ok, a3 hr]
  rfl
theorem rng_map (n : Nat) : rng 0 n = (List.range n).map fun (i : Nat) => D.int (i : Int) := by
  unfold rng
  apply List.map_congr_left
  intro i _
  congr 1; omega
/-- a draw, whatever else stands in the store -/
theorem take_exG (b : Int) (hb : 0 < b) (l : List Int) (R : Store) (hR : clS (R.length + 1) R = true) : ∃ k l', 0 ≤ k ∧ k < b ∧ m__law_take [.loc 0, .int b] (OB.lst (I l) :: R) = .ok (.int k) (OB.lst (I l') :: R) := by
  have hc : ∀ l : List Int, clS (R.length + 1) (OB.lst (I l) :: R) = true := fun l => by
    unfold clS at hR ⊢
    rw [List.all_cons, Bool.and_eq_true]
    exact ⟨by simp only [clO]; exact cls_I _ _, hR⟩
  have ht : ∀ l : List Int, (OB.lst (I l) :: R).take (R.length + 1) = OB.lst (I l) :: R := fun l => List.take_of_length_le (by simp)
  rcases List.eq_nil_or_concat l with rfl | ⟨l', x, rfl⟩
  · refine ⟨0, [], Int.le_refl _, hb, ?_⟩
    refine (retV_ok (d := .int 0) (S' := OB.lst (I []) :: R) ?_ (by rw [List.length_cons, ht]; exact hc _) rfl).trans (by rw [List.length_cons, ht])
    simp [runF, b__law_take, dLen, seqOf, lstOf]
  · refine ⟨x % b, l', Int.emod_nonneg _ (by omega), Int.emod_lt_of_pos _ hb, ?_⟩
    refine (retV_ok (d := .int (x % b)) (S' := OB.lst (I l') :: R) ?_ (by rw [List.length_cons, ht]; exact hc _) rfl).trans (by rw [List.length_cons, ht])
    have h0 : ¬ ((l'.length : Int) + 1 = 0) := by omega
    simp [runF, b__law_take, dLen, seqOf, lstOf, rcv, gPop, x_mod hb, h0]
theorem take_natG (n : Nat) (hn : 0 < n) (l : List Int) (R : Store) (hR : clS (R.length + 1) R = true) : ∃ (k : Nat) (l' : List Int), k < n ∧ m__law_take [.loc 0, .int (n : Int)] (OB.lst (I l) :: R) = .ok (.int (k : Int)) (OB.lst (I l') :: R) := by
  obtain ⟨k, l', k0, k1, q⟩ := take_exG (n : Int) (by omega) l R hR
  obtain ⟨m, rfl⟩ := Int.eq_ofNat_of_zero_le k0
  exact ⟨m, l', by omega, q⟩
theorem x_mLc' {mi : MI} {g : MG} {mt : MT} {me : ME} {vs : List Nat} {e : M.Env} {S S1 : Store} {xs : List D} (hi : mi e S = .ok ⟨xs, []⟩ S1) (hz : xs.length ≤ 100000) : mLc mi g mt me vs e S = lcM ⟨xs, []⟩ g mt me (wipeE e vs) xs S1 := by
  unfold mLc
  rw [hi, Res.bind_ok, if_pos (sz hz)]
/-- a comprehension with a test, pure -/
theorem lc_filter {α : Type} {src : List D} {t : MG} {mt : MT} {me : ME} {e : M.Env} {S : Store} (ι f : α → D) (p : α → Bool) : ∀ (as : List α), (∀ x ∈ as, ∃ e1, t (ι x) e S = some e1 ∧ mt e1 S = .ok (p x) S ∧ (p x = true → me e1 S = .ok (f x) S)) → lcM ⟨src, []⟩ t mt me e (as.map ι) S = .ok ((as.filter p).map f) S
  | [], _ => by rw [List.map_nil]; unfold lcM; rw [if_pos (Src.ok_nil _ _)]; rfl
  | x :: as, h => by
    obtain ⟨e1, h1, h2, h3⟩ := h x (by simp)
    have ih := lc_filter (src := src) ι f p as fun y hy => h y (List.mem_cons_of_mem _ hy)
    rw [List.map_cons]
    unfold lcM
    rw [if_pos (Src.ok_nil _ _), h1]
    dsimp only
    rw [h2, noEx_ok, Res.bind_ok]
    cases hp : p x with
    | false => rw [if_neg (by decide), ih, List.filter_cons_of_neg (by rw [hp]; decide)]
    | true => rw [if_pos rfl, h3 hp, noEx_ok, Res.bind_ok, ih, Res.bind_ok, List.filter_cons_of_pos hp]; rfl
/-- .. the store changes -/
theorem lc_runF {α : Type} {P : D → Prop} {src : List D} {t : MG} {mt : MT} {me : ME} {e : M.Env} (St : α → Store) : ∀ (ds : List D) (l : α), (∀ d ∈ ds, ∀ l, ∃ e1 b l', t d e (St l) = some e1 ∧ mt e1 (St l) = .ok b (St l') ∧ (b = true → ∃ y l'', P y ∧ me e1 (St l') = .ok y (St l''))) → ∃ ys l', ys.length ≤ ds.length ∧ (∀ y ∈ ys, P y) ∧ lcM ⟨src, []⟩ t mt me e ds (St l) = .ok ys (St l')
  | [], l, _ => ⟨[], l, Nat.le_refl _, by simp, by unfold lcM; rw [if_pos (Src.ok_nil _ _)]⟩
  | d :: ds, l, h => by
    obtain ⟨e1, b, l', h1, h2, h3⟩ := h d (by simp) l
    unfold lcM
    rw [if_pos (Src.ok_nil _ _), h1]
    dsimp only
    rw [h2, noEx_ok, Res.bind_ok]
    cases b with
    | false =>
      rw [if_neg (by decide)]
      obtain ⟨ys, l2, g1, g2, g3⟩ := lc_runF (src := src) St ds l' fun d hd => h d (List.mem_cons_of_mem _ hd)
      exact ⟨ys, l2, by simp; omega, g2, g3⟩
    | true =>
      obtain ⟨y, l1, py, h4⟩ := h3 rfl
      rw [if_pos rfl, h4, noEx_ok, Res.bind_ok]
      obtain ⟨ys, l2, g1, g2, g3⟩ := lc_runF (src := src) St ds l1 fun d hd => h d (List.mem_cons_of_mem _ hd)
      refine ⟨y :: ys, l2, by simp; omega, fun z hz => ?_, by rw [g3]; rfl⟩
      rcases List.mem_cons.mp hz with rfl | hz
      · exact py
      · exact g2 z hz
/-- numbers as values -/
abbrev nI (ps : List Nat) : List D := ps.map fun (p : Nat) => D.int (p : Int)
theorem nI_I (ps : List Nat) : nI ps = I (ps.map fun (p : Nat) => (p : Int)) := by rw [I, List.map_map]; rfl
theorem cls_nI (n : Nat) (ps : List Nat) : cls n (nI ps) = true := by rw [nI_I]; exact cls_I _ _
theorem nats_of {P : Nat → Prop} : ∀ {ys : List D}, (∀ y ∈ ys, ∃ x : Nat, y = .int (x : Int) ∧ P x) → ∃ r : List Nat, ys = nI r ∧ ∀ x ∈ r, P x
  | [], _ => ⟨[], rfl, by simp⟩
  | y :: ys, h => by
    obtain ⟨x, rfl, hx⟩ := h y (by simp)
    obtain ⟨r, rfl, hr⟩ := nats_of fun z hz => h z (List.mem_cons_of_mem _ hz)
    refine ⟨x :: r, rfl, fun z hz => ?_⟩
    rcases List.mem_cons.mp hz with rfl | hz
    · exact hx
    · exact hr z hz
theorem alike_ok {S : Store} (hS : clS S.length S = true) (d : D) (h : pl 7 d = true) : m__law_alike [d, d] S = .ok (.bl true) S := alike_refl hS 7 d h
end
end M


set_option Elab.async false
set_option linter.all false
set_option maxRecDepth 100000
set_option maxHeartbeats 4000000
/-! Bits: texts of noughts and ones. -/
namespace M
open PySem PySem.Spec PyProof.Rows L2
open Builtin.Str StrLaws
theorem slice_cut (x : PySem.Str) (lo hi : Option Int) : Txt.slice x lo hi = cutS x lo hi := by
  rw [← sliceText_cut]
  rfl
def bc (b : Bool) : Nat := cond b 49 48
theorem bc_inj : ∀ x y, bc x = bc y → x = y := by decide
theorem bc_lt : ∀ x, bc x < 0x110000 := by decide
def cod (l : List Bool) : List Nat := l.map bc
@[simp] theorem cod_len (l : List Bool) : (cod l).length = l.length := by simp [cod]
theorem cod_inj {l m : List Bool} (h : cod l = cod m) : l = m := by
  induction l generalizing m with
  | nil => cases m with
    | nil => rfl
    | cons => simp [cod] at h
  | cons a l ih => cases m with
    | nil => simp [cod] at h
    | cons b m =>
      simp only [cod, List.map_cons, List.cons.injEq] at h
      rw [bc_inj _ _ h.1, ih h.2]
/-- bits as a text -/
def bs (l : List Bool) : D := .str (mk (cod l))
section
variable [Tabs]
/-- their code -/
def cB : Cd (List Bool) := Cd.txt bc bc_inj bc_lt
theorem cB_d (l : List Bool) : cB.d l = bs l := rfl
theorem bs_slen (l : List Bool) : (mk (cod l)).length = l.length := by rw [mk_len, cod_len]
variable {S : Store} {l m : List Bool}
theorem bs_len (h : l.length ≤ 100000) : dLen [bs l] S = some (.int l.length) := by
  show (if (mk (cod l)).length ≤ sizeLine then some (D.int (mk (cod l)).length) else none) = _
  rw [bs_slen, if_pos (sz h)]
theorem bs_add (h : l.length + m.length ≤ 100000) : dAdd (bs l) (bs m) S = some (bs (l ++ m)) := by
  show (if (mk (cod l)).length + (mk (cod m)).length ≤ sizeLine then some (D.str (mk (cod l) ++ mk (cod m))) else none) = _
  rw [bs_slen, bs_slen, if_pos (sz h), mk_app, bs, cod, cod, cod, List.map_append]
theorem bs_ix {i : Nat} {b : Bool} (h : l.length ≤ 100000) (hb : l[i]? = some b) : dIx (bs l) (.int i) S = some (bs [b]) := by
  show (if (mk (cod l)).length ≤ sizeLine then (atI (tl (mk (cod l))) (i : Int)).map fun c => D.str ⟨#[c]⟩ else none) = _
  rw [bs_slen, if_pos (sz h)]
  have : atI (tl (mk (cod l))) (i : Int) = some (bc b) := by
    have hi := (List.getElem?_eq_some_iff.mp hb).1
    unfold atI ixN
    rw [if_pos (show (0 : Int) ≤ (i : Int) by omega), if_pos (show (i : Int) < ((tl (mk (cod l))).length : Int) by simp; omega)]
    show (cod l)[(i : Int).toNat]? = _
    rw [Int.toNat_natCast, cod, List.getElem?_map, hb]
    rfl
  rw [this]
  rfl
theorem bs_slice (lo hi : Option Int) (h : l.length ≤ 100000) : dSlice (bs l) lo hi S = some (bs (cutG l lo hi)) := by
  show (if (mk (cod l)).length ≤ sizeLine then some (D.str (Txt.slice (mk (cod l)) lo hi)) else none) = _
  rw [bs_slen, if_pos (sz h), slice_cut]
  unfold cutS bs cutG
  rw [bs_slen]
  congr 2
  show mk _ = mk _
  rw [show (mk (cod l)).cps.toList = cod l from rfl, cod, cod, List.map_take, List.map_drop]
theorem cut_to {α : Type} (as : List α) (k : Nat) : cutG as none (some (k : Int)) = as.take k := by
  unfold cutG
  rw [HT.sIx_none, HT.sIx_nat, List.drop_zero, Nat.sub_zero]
  rcases Nat.le_total k as.length with h | h
  · rw [Nat.min_eq_left h]
  · rw [Nat.min_eq_right h, List.take_length, List.take_of_length_le h]
theorem cut_from {α : Type} (as : List α) (k : Nat) : cutG as (some (k : Int)) none = as.drop k := by
  unfold cutG
  rw [HT.sIx_none, HT.sIx_nat]
  rcases Nat.le_total k as.length with h | h
  · rw [Nat.min_eq_left h, List.take_of_length_le (by simp)]
  · rw [Nat.min_eq_right h, List.drop_length, List.drop_of_length_le h]; simp
theorem cut_two {α : Type} (as : List α) (a b : Nat) : cutG as (some (a : Int)) (some (b : Int)) = (as.drop a).take (b - a) := by
  rcases Nat.le_total a b with h | h
  · have := cut_nat as a (b - a)
    rwa [show ((a : Int) + ((b - a : Nat) : Int)) = (b : Int) by omega] at this
  · unfold cutG
    rw [HT.sIx_nat, HT.sIx_nat, show b - a = 0 by omega, show min b as.length - min a as.length = 0 by omega]
    simp
theorem bs_items : srcOf S (bs l) = some ⟨l.map fun b => bs [b], []⟩ := by
  show some (Src.mk (strItems (mk (cod l))) []) = _
  congr 2
  show List.map _ (cod l) = _
  rw [cod, List.map_map]
  rfl
theorem bs_join : ∀ (ls : List (List Bool)), (ls.map List.length).sum ≤ 16777216 → hJoin (mk []) [.lst (ls.map bs)] S = some (bs ls.flatten) := by
  intro ls h
  have h1 : strsOf (ls.map bs) = some (ls.map fun l => mk (cod l)) := by
    have := strs_S (ls.map fun l => mk (cod l))
    rwa [List.map_map] at this
  show ((some (ls.map bs)).bind strsOf).bind _ = _
  rw [Option.bind_some, h1, Option.bind_some]
  have h2 : (((ls.map fun l => mk (cod l)).map (·.length)).sum + (ls.map fun l => mk (cod l)).length * (mk []).length) ≤ 16777216 := by
    rw [List.map_map]
    have : (ls.map ((fun x => x.length) ∘ fun l => mk (cod l))) = ls.map List.length := List.map_congr_left fun l _ => bs_slen l
    rw [this]
    simpa [mk_len] using h
  rw [if_pos h2, join_nil, List.map_map]
  have : (ls.map (tl ∘ fun l => mk (cod l))).flatten = cod ls.flatten := by
    rw [cod, List.map_flatten]
    rfl
  rw [this]
  rfl
theorem bs_nil : (.str "" : D) = bs [] := rfl
theorem bs_0 : (.str "0" : D) = bs [false] := by unfold bs; congr 1
theorem bs_1 : (.str "1" : D) = bs [true] := by unfold bs; congr 1
theorem bs_01 : (.str "01" : D) = bs [false, true] := by unfold bs; congr 1
theorem bs_in (b : Bool) : dIn (bs [b]) (bs [false, true]) S = some (.bl true) := by
  show some (D.bl (!(occurrences (mk (cod [false, true])) (mk [bc b]) 0 (mk (cod [false, true])).length 1).isEmpty)) = _
  have : (!(occurrences (mk (cod [false, true])) (mk [bc b]) 0 (mk (cod [false, true])).length 1).isEmpty) = decide (bc b ∈ cod [false, true]) := SX.in_one (cod [false, true]) (bc b)
  rw [this]
  cases b <;> rfl
theorem bs_eq : dEq (bs l) (bs m) S = some (.bl (decide (l = m))) := cB.dEq (by decide) l m S
theorem bs_ne : dNe (bs l) (bs m) S = some (.bl (!decide (l = m))) := cB.dNe (by decide) l m S
theorem bs_mul0 (k : Nat) (h : k ≤ 100000) : dMul (bs [false]) (.int k) S = some (bs (List.replicate k false)) := by
  unfold bs
  simp only [dMul]
  rw [if_pos (by rw [bs_slen, Int.toNat_natCast]; refine ⟨by omega, by omega, by simp; omega⟩)]
  unfold Txt.mul
  congr 2
  by_cases h0 : (k : Int) < 1
  · rw [if_pos h0]
    have : k = 0 := by omega
    subst this
    rfl
  · rw [if_neg h0]
    by_cases h1 : ((k : Int) == 1 || (mk (cod [false])).length == 0) = true
    · rw [if_pos h1]
      have : k = 1 := by
        rw [bs_slen] at h1
        simp at h1
        omega
      subst this
      rfl
    · rw [if_neg h1, Int.toNat_natCast]
      have key : ∀ (k : Nat) (a : Array Nat), (List.replicate k (mk (cod [false])).cps).foldl (· ++ ·) a = a ++ (List.replicate k 48).toArray := by
        intro k
        induction k with
        | zero => intro a; simp
        | succ k ih =>
          intro a
          rw [List.replicate_succ, List.foldl_cons, ih]
          apply Array.ext'
          simp [mk, cod, bc, List.replicate_succ]
      rw [key, mk, cod, List.map_replicate]
      simp [bc]
theorem bs_int (b : Bool) : dInt [bs [b]] S = some (.int (if b then 1 else 0)) := by
  cases b
  · have : PySem.intText? (mk (cod [false])) = some 0 := by decide +kernel
    show (if (mk (cod [false])).length ≤ 640 then (PySem.intText? (mk (cod [false]))).map D.int else none) = _
    rw [bs_slen, if_pos (by decide), this]; rfl
  · have : PySem.intText? (mk (cod [true])) = some 1 := by decide +kernel
    show (if (mk (cod [true])).length ≤ 640 then (PySem.intText? (mk (cod [true]))).map D.int else none) = _
    rw [bs_slen, if_pos (by decide), this]; rfl
theorem bs_str (b : Bool) : dStr [.int (if b then 1 else 0)] S = some (bs [b]) := by
  cases b
  · show (if (0 : Int).natAbs < 2 ^ 1000 then some (D.str (toString (0 : Int))) else none) = _
    rw [if_pos (by decide)]
    have : (toString (0 : Int) : PySem.Str) = mk (cod [false]) := by decide +kernel
    rw [this]; rfl
  · show (if (1 : Int).natAbs < 2 ^ 1000 then some (D.str (toString (1 : Int))) else none) = _
    rw [if_pos (by decide)]
    have : (toString (1 : Int) : PySem.Str) = mk (cod [true]) := by decide +kernel
    rw [this]; rfl
/-! parts that stand in bits -/
/-- m stands in l at i -/
def Sat (l m : List Bool) (i : Nat) : Prop := (l.drop i).take m.length = m
instance (l m : List Bool) (i : Nat) : Decidable (Sat l m i) := inferInstanceAs (Decidable (_ = _))
theorem Sat.le {i : Nat} (h : Sat l m i) (hm : m ≠ []) : i + m.length ≤ l.length := by
  have := congrArg List.length h
  have h2 : 0 < m.length := List.length_pos_iff.mpr hm
  simp only [List.length_take, List.length_drop] at this
  omega
theorem sat_sub (i : Nat) : subAt (mk (cod l)) (mk (cod m)) i = decide (Sat l m i) := by
  rw [subAt_eq, show (mk (cod l)).cps.toList = cod l from rfl, show (mk (cod m)).cps.toList = cod m from rfl, bs_slen]
  have e : List.take m.length (List.drop i (cod l)) = cod ((l.drop i).take m.length) := by rw [cod, cod, List.map_take, List.map_drop]
  rw [e]
  by_cases h : Sat l m i
  · rw [decide_eq_true h, show (l.drop i).take m.length = m from h]; simp
  · rw [decide_eq_false h]
    rw [beq_eq_false_iff_ne]
    exact fun z => h (cod_inj z)
theorem at_sat (hm : m ≠ []) (i : Nat) : At (mk (cod l)) (mk (cod m)) (mk (cod l)).length i ↔ Sat l m i := by
  unfold At
  rw [sat_sub, bs_slen, bs_slen, decide_eq_true_eq]
  exact ⟨fun h => h.2, fun h => ⟨h.le hm, h⟩⟩
/-- the first place from lo on at which m stands, or none -/
def fstAt (l m : List Bool) (lo : Nat) : Option Nat := (List.range' lo (l.length + 1 - lo)).find? fun i => decide (Sat l m i)
theorem fstAt_some {lo i : Nat} : fstAt l m lo = some i → lo ≤ i ∧ Sat l m i ∧ ∀ k, lo ≤ k → k < i → ¬ Sat l m k := by
  intro h
  unfold fstAt at h
  rw [List.find?_range'_eq_some] at h
  obtain ⟨h1, h2, h3⟩ := h
  simp only [decide_eq_true_eq, List.mem_range'_1, Bool.not_eq_true', decide_eq_false_iff_not] at h1 h2 h3
  exact ⟨h2.1, h1, fun k k1 k2 => h3 k k1 k2⟩
theorem fstAt_none {lo : Nat} (hm : m ≠ []) : fstAt l m lo = none → ∀ k, lo ≤ k → ¬ Sat l m k := by
  intro h k hk hs
  unfold fstAt at h
  rw [List.find?_eq_none] at h
  have := hs.le hm
  have h2 : 0 < m.length := List.length_pos_iff.mpr hm
  exact h k (by rw [List.mem_range'_1]; omega) (decide_eq_true hs)
theorem fstAt_of {lo i : Nat} (hm : m ≠ []) (h1 : lo ≤ i) (h2 : Sat l m i) (h3 : ∀ k, lo ≤ k → k < i → ¬ Sat l m k) : fstAt l m lo = some i := by
  cases h : fstAt l m lo with
  | none => exact absurd h2 (fstAt_none hm h i h1)
  | some j =>
    obtain ⟨a, b, c⟩ := fstAt_some h
    rcases Nat.lt_trichotomy i j with z | z | z
    · exact absurd h2 (c i h1 z)
    · rw [z]
    · exact absurd b (h3 j a z)
theorem fstAt_no {lo : Nat} (h : ∀ k, lo ≤ k → ¬ Sat l m k) : fstAt l m lo = none := by
  cases e : fstAt l m lo with
  | none => rfl
  | some j =>
    obtain ⟨a, b, c⟩ := fstAt_some e
    exact absurd b (h j a)
def plc : Option Nat → Int
  | some i => i
  | none => -1
theorem bs_find (hm : m ≠ []) (lo : Nat) : hFind (mk (cod l)) [bs m, .int lo] S = some (.int (plc (fstAt l m lo))) := by
  show some (D.int (Txt.find3 (mk (cod l)) (mk (cod m)) (lo : Int))) = _
  congr 2
  unfold Txt.find3
  have hf : fromIndex (mk (cod l)).length (lo : Int) = lo := by
    unfold fromIndex
    rw [if_neg (by omega)]
    omega
  rw [hf]
  rcases occ_head_from (mk (cod l)) (mk (cod m)) lo 1 (Nat.le_refl _) with ⟨e, h⟩ | ⟨i, r, e, h1, h2, h3⟩
  · rw [e, fstAt_no fun k hk hs => h k hk ((at_sat hm k).mpr hs)]
    rfl
  · rw [e, fstAt_of hm h1 ((at_sat hm i).mp h2) fun k k1 k2 hs => h3 k k1 k2 ((at_sat hm k).mpr hs)]
    rfl
theorem bs_find0 (hm : m ≠ []) : hFind (mk (cod l)) [bs m] S = some (.int (plc (fstAt l m 0))) := by
  rw [← bs_find (S := S) hm 0]
  show some (D.int (Txt.find (mk (cod l)) (mk (cod m)))) = some (D.int (Txt.find3 (mk (cod l)) (mk (cod m)) 0))
  rfl
theorem bs_starts (i : Nat) (hi : i + m.length ≤ l.length ∨ m ≠ []) : hStarts (mk (cod l)) [bs m, .int i] S = some (.bl (decide (Sat l m i))) := by
  show some (D.bl (Txt.startswith3 (mk (cod l)) (mk (cod m)) (i : Int))) = _
  congr 2
  unfold Txt.startswith3
  have hf : fromIndex (mk (cod l)).length (i : Int) = i := by
    unfold fromIndex
    rw [if_neg (by omega)]
    omega
  rw [hf, sat_sub, bs_slen, bs_slen]
  by_cases h : Sat l m i
  · have : i + m.length ≤ l.length := by
      rcases hi with hi | hi
      · exact hi
      · exact h.le hi
    simp [h, this]
  · simp [h]
end
end M


set_option Elab.async false
set_option linter.all false
set_option maxRecDepth 100000
set_option maxHeartbeats 4000000
/-! The rest by x^8 + x^2 + x + 1, plainly. -/
namespace M.Mk
abbrev B8 := BitVec 8
def step (r : B8) (b : Bool) : B8 := (r <<< 1) ^^^ (if (r.msb ^^ b) then 7#8 else 0#8)
def run (r : B8) (l : List Bool) : B8 := l.foldl step r
def crc (l : List Bool) : B8 := run 0#8 l
/-- its signs, the highest first -/
def sg8 (r : B8) : List Bool := [r.getLsbD 7, r.getLsbD 6, r.getLsbD 5, r.getLsbD 4, r.getLsbD 3, r.getLsbD 2, r.getLsbD 1, r.getLsbD 0]
theorem sg8_len (r : B8) : (sg8 r).length = 8 := rfl
theorem all8 {P : B8 → Prop} [DecidablePred P] (h : (List.range 256).all (fun n => decide (P (BitVec.ofNat 8 n))) = true) (r : B8) : P r := by
  have h1 := List.all_eq_true.mp h r.toNat (List.mem_range.mpr r.isLt)
  rw [decide_eq_true_eq, BitVec.ofNat_toNat, BitVec.setWidth_eq] at h1
  exact h1
theorem step_xor (a b : B8) (x y : Bool) : step (a ^^^ b) (x ^^ y) = step a x ^^^ step b y := by
  unfold step
  rw [BitVec.shiftLeft_xor_distrib, BitVec.msb_xor]
  apply BitVec.eq_of_getLsbD_eq
  intro i hi
  cases a.msb <;> cases b.msb <;> cases x <;> cases y <;> simp <;> (try (cases (a <<< 1).getLsbD i <;> cases (b <<< 1).getLsbD i <;> cases (7#8).getLsbD i <;> simp))
theorem run_xor : ∀ (l m : List Bool) (a b : B8), l.length = m.length → run (a ^^^ b) (List.zipWith (· ^^ ·) l m) = run a l ^^^ run b m
  | [], [], a, b, _ => rfl
  | x :: l, y :: m, a, b, h => by
    show run (step (a ^^^ b) (x ^^ y)) (List.zipWith _ l m) = run (step a x) l ^^^ run (step b y) m
    rw [step_xor, run_xor l m _ _ (by simpa using h)]
  | [], _ :: _, _, _, h => by simp at h
  | _ :: _, [], _, _, h => by simp at h
theorem crc_xor (l m : List Bool) (h : l.length = m.length) : crc (List.zipWith (· ^^ ·) l m) = crc l ^^^ crc m := by
  have := run_xor l m 0#8 0#8 h
  simpa [crc] using this
theorem run_app (r : B8) (l m : List Bool) : run r (l ++ m) = run (run r l) m := by simp [run, List.foldl_append]
theorem crc_app (l m : List Bool) : crc (l ++ m) = run (crc l) m := run_app _ l m
theorem step_inj0 : ∀ r : B8, step r false = 0#8 → r = 0#8 := all8 (P := fun r => step r false = 0#8 → r = 0#8) (by decide +kernel)
theorem step_00 : step 0#8 false = 0#8 := by decide
theorem run_zeros (r : B8) : ∀ k, run r (List.replicate k false) = 0#8 ↔ r = 0#8
  | 0 => Iff.rfl
  | k + 1 => by
    rw [List.replicate_succ]
    show run (step r false) _ = _ ↔ _
    rw [run_zeros (step r false) k]
    exact ⟨step_inj0 r, fun h => by rw [h]; rfl⟩
theorem run_zeros0 (k : Nat) : run 0#8 (List.replicate k false) = 0#8 := (run_zeros 0#8 k).mpr rfl
/-- the check of what has its check behind it -/
theorem run_own : ∀ r : B8, run r (sg8 r) = 0#8 := all8 (P := fun r => run r (sg8 r) = 0#8) (by decide +kernel)
theorem crc_own (l : List Bool) : crc (l ++ sg8 (crc l)) = 0#8 := by rw [crc_app, run_own]
theorem sg8_zero : sg8 0#8 = List.replicate 8 false := by decide
theorem sg8_inj : ∀ a b : B8, sg8 a = sg8 b → a = b := by
  intro a b h
  simp only [sg8, List.cons.injEq, and_true] at h
  obtain ⟨h7, h6, h5, h4, h3, h2, h1, h0⟩ := h
  apply BitVec.eq_of_getLsbD_eq
  intro i hi
  match i, hi with
  | 0, _ => exact h0
  | 1, _ => exact h1
  | 2, _ => exact h2
  | 3, _ => exact h3
  | 4, _ => exact h4
  | 5, _ => exact h5
  | 6, _ => exact h6
  | 7, _ => exact h7
theorem sg8_xor (a b : B8) : sg8 (a ^^^ b) = List.zipWith (· ^^ ·) (sg8 a) (sg8 b) := by
  simp [sg8]
/-! even and odd -/
def par (l : List Bool) : Bool := l.foldl (· ^^ ·) false
theorem par_from (l : List Bool) (a : Bool) : l.foldl (· ^^ ·) a = (a ^^ par l) := by
  induction l generalizing a with
  | nil => simp [par]
  | cons x l ih =>
    have h1 := ih (a ^^ x)
    have h2 := ih (false ^^ x)
    simp only [par, List.foldl_cons] at *
    rw [h1, h2]
    simp [Bool.xor_assoc]
theorem par_cons (x : Bool) (l : List Bool) : par (x :: l) = (x ^^ par l) := by
  show l.foldl _ (false ^^ x) = _
  rw [par_from]; simp
theorem par_step : ∀ r : B8, ∀ b : Bool, par (sg8 (step r b)) = (par (sg8 r) ^^ b) := all8 (P := fun r => ∀ b : Bool, par (sg8 (step r b)) = (par (sg8 r) ^^ b)) (by decide +kernel)
theorem par_run : ∀ (l : List Bool) (r : B8), par (sg8 (run r l)) = (par (sg8 r) ^^ par l)
  | [], r => by simp [run, par]
  | x :: l, r => by
    show par (sg8 (run (step r x) l)) = _
    rw [par_run l, par_step, par_cons, Bool.xor_assoc]
/-- what has an odd number of ones has a rest -/
theorem odd_ne {l : List Bool} (h : par l = true) : crc l ≠ 0#8 := by
  intro e
  have h1 := par_run l 0#8
  have e' : run 0#8 l = 0#8 := e
  rw [e', h] at h1
  exact absurd h1 (by decide)
/-! few ones in a row of eight -/
theorem eight_ne (l : List Bool) (h : l.length = 8) (e : crc l = 0#8) : l = List.replicate 8 false := by
  match l, h with
  | [a, b, c, d, f, g, i, j], _ =>
    have key : ∀ a b c d f g i j : Bool, crc [a, b, c, d, f, g, i, j] = 0#8 → [a, b, c, d, f, g, i, j] = List.replicate 8 false := by decide +kernel
    exact key a b c d f g i j e
theorem crc_zeros_app (k : Nat) (l : List Bool) : crc (List.replicate k false ++ l) = crc l := by rw [crc_app, crc, run_zeros0]; rfl
theorem crc_app_zeros (k : Nat) (l : List Bool) : crc (l ++ List.replicate k false) = 0#8 ↔ crc l = 0#8 := by rw [crc_app, run_zeros]
/-- within eight places -/
theorem burst_ne {p q : Nat} {l : List Bool} (h : l.length = 8) (hn : l ≠ List.replicate 8 false) : crc (List.replicate p false ++ l ++ List.replicate q false) ≠ 0#8 := by
  intro e
  rw [crc_app_zeros, crc_zeros_app] at e
  exact hn (eight_ne l h e)
/-! two ones -/
def it : Nat → B8 → B8
  | 0, r => r
  | k + 1, r => it k (step r false)
theorem run_rep : ∀ (k : Nat) (r : B8), run r (List.replicate k false) = it k r
  | 0, _ => rfl
  | k + 1, r => by rw [List.replicate_succ]; show run (step r false) _ = _; rw [run_rep k]; rfl
theorem far_all : ∀ d < 126, step (it d (step 0#8 true)) true ≠ 0#8 := by decide +kernel
theorem far_127 : step (it 126 (step 0#8 true)) true = 0#8 := by decide +kernel
theorem two_crc (p d q : Nat) : crc (List.replicate p false ++ true :: (List.replicate d false ++ true :: List.replicate q false)) = 0#8 ↔ step (it d (step 0#8 true)) true = 0#8 := by
  rw [crc_zeros_app]
  show run (step 0#8 true) _ = _ ↔ _
  rw [run_app, run_rep]
  show run (step (it d (step 0#8 true)) true) _ = _ ↔ _
  rw [run_zeros]
/-! marks in a row of places -/
/-- ones at these places -/
def ind (n : Nat) (ps : List Nat) : List Bool := (List.range n).map fun k => decide (k ∈ ps)
theorem ind_len (n : Nat) (ps : List Nat) : (ind n ps).length = n := by simp [ind]
theorem ind_get {n : Nat} {ps : List Nat} {k : Nat} (h : k < n) : (ind n ps)[k]? = some (decide (k ∈ ps)) := by simp [ind, List.getElem?_range h]
theorem ind_none (n : Nat) : ind n [] = List.replicate n false := by
  apply List.ext_getElem?
  intro i
  by_cases h : i < n
  · rw [ind_get h]; simp [h]
  · rw [List.getElem?_eq_none (by rw [ind_len]; omega), List.getElem?_eq_none (by simp; omega)]
theorem par_app (l m : List Bool) : par (l ++ m) = (par l ^^ par m) := by
  induction l with
  | nil => simp [par]
  | cons x l ih => rw [List.cons_append, par_cons, par_cons, ih, Bool.xor_assoc]
theorem par_rep (k : Nat) : par (List.replicate k false) = false := by
  induction k with
  | zero => rfl
  | succ k ih => rw [List.replicate_succ, par_cons, ih]; rfl
theorem ind_one {n p : Nat} (h : p < n) : ind n [p] = List.replicate p false ++ true :: List.replicate (n - p - 1) false := by
  apply List.ext_getElem?
  intro i
  by_cases hi : i < n
  · rw [ind_get hi]
    rcases Nat.lt_trichotomy i p with z | z | z
    · rw [List.getElem?_append_left (by simpa using z)]
      simp [z]; omega
    · subst z
      rw [List.getElem?_append_right (by simp)]
      simp
    · rw [List.getElem?_append_right (by simp; omega), List.length_replicate, show i - p = (i - p - 1) + 1 by omega, List.getElem?_cons_succ, List.getElem?_replicate, if_pos (by omega)]
      simp; omega
  · rw [List.getElem?_eq_none (by rw [ind_len]; omega), List.getElem?_eq_none (by simp; omega)]
theorem ind_two {n p q : Nat} (h : p < q) (hq : q < n) : ind n [p, q] = List.replicate p false ++ true :: (List.replicate (q - p - 1) false ++ true :: List.replicate (n - q - 1) false) := by
  apply List.ext_getElem?
  intro i
  by_cases hi : i < n
  · rw [ind_get hi]
    rcases Nat.lt_trichotomy i p with z | z | z
    · rw [List.getElem?_append_left (by simpa using z)]
      simp [z]; omega
    · subst z
      rw [List.getElem?_append_right (by simp)]
      simp
    · rw [List.getElem?_append_right (by simp; omega), List.length_replicate, show i - p = (i - p - 1) + 1 by omega, List.getElem?_cons_succ]
      rcases Nat.lt_trichotomy i q with y | y | y
      · rw [List.getElem?_append_left (by simp; omega), List.getElem?_replicate, if_pos (by omega)]
        simp; omega
      · subst y
        rw [List.getElem?_append_right (by simp)]
        simp
      · rw [List.getElem?_append_right (by simp; omega), List.length_replicate, show i - p - 1 - (q - p - 1) = (i - q - 1) + 1 by omega, List.getElem?_cons_succ, List.getElem?_replicate, if_pos (by omega)]
        simp; omega
  · rw [List.getElem?_eq_none (by rw [ind_len]; omega), List.getElem?_eq_none (by simp; omega)]
theorem ind_swap (n p q : Nat) : ind n [p, q] = ind n [q, p] := by
  unfold ind
  apply List.map_congr_left
  intro k _
  simp [Or.comm]
theorem ind_cons (n p : Nat) (ps : List Nat) (h : p ∉ ps) : ind n (p :: ps) = List.zipWith (· ^^ ·) (ind n [p]) (ind n ps) := by
  apply List.ext_getElem?
  intro i
  by_cases hi : i < n
  · rw [ind_get hi, List.getElem?_zipWith, ind_get hi, ind_get hi]
    by_cases h1 : i = p
    · subst h1; simp [h]
    · simp [h1]
  · rw [List.getElem?_eq_none (by rw [ind_len]; omega), List.getElem?_eq_none (by simp [ind_len]; omega)]
theorem par_xor : ∀ (l m : List Bool), l.length = m.length → par (List.zipWith (· ^^ ·) l m) = (par l ^^ par m)
  | [], [], _ => rfl
  | x :: l, y :: m, h => by
    rw [List.zipWith_cons_cons, par_cons, par_cons, par_cons, par_xor l m (by simpa using h)]
    cases x <;> cases y <;> cases par l <;> cases par m <;> rfl
  | [], _ :: _, h => by simp at h
  | _ :: _, [], h => by simp at h
theorem par_ind (n : Nat) : ∀ (ps : List Nat), ps.Nodup → (∀ p ∈ ps, p < n) → par (ind n ps) = decide (ps.length % 2 = 1)
  | [], _, _ => by rw [ind_none, par_rep]; rfl
  | p :: ps, hn, hl => by
    have hp := hl p (by simp)
    rw [ind_cons n p ps (List.nodup_cons.mp hn).1, par_xor _ _ (by rw [ind_len, ind_len]), par_ind n ps (List.nodup_cons.mp hn).2 fun q hq => hl q (List.mem_cons_of_mem _ hq),
      ind_one hp, par_app, par_rep, par_cons, par_rep]
    by_cases h : ps.length % 2 = 1
    · have : ¬ ((p :: ps).length % 2 = 1) := by simp; omega
      rw [decide_eq_true h, decide_eq_false this]; rfl
    · have : (p :: ps).length % 2 = 1 := by simp; omega
      rw [decide_eq_false h, decide_eq_true this]; rfl
/-- two places less than 127 apart -/
theorem pair_ne {n p q : Nat} (h : p ≠ q) (hp : p < n) (hq : q < n) (hd : p < q + 127) (hd2 : q < p + 127) : crc (ind n [p, q]) ≠ 0#8 := by
  rcases Nat.lt_or_gt_of_ne h with z | z
  · rw [ind_two z hq]
    intro e
    exact far_all _ (by omega) ((two_crc _ _ _).mp e)
  · rw [ind_swap, ind_two z hp]
    intro e
    exact far_all _ (by omega) ((two_crc _ _ _).mp e)
theorem pair_127 {n p : Nat} (hq : p + 127 < n) : crc (ind n [p, p + 127]) = 0#8 := by
  rw [ind_two (by omega) hq, two_crc, show p + 127 - p - 1 = 126 by omega]
  exact far_127
/-- one to three places -/
theorem few_ne {n : Nat} (hn : n ≤ 127) {ps : List Nat} (hd : ps.Nodup) (hl : ∀ p ∈ ps, p < n) (h1 : 1 ≤ ps.length) (h3 : ps.length ≤ 3) : crc (ind n ps) ≠ 0#8 := by
  by_cases ho : ps.length % 2 = 1
  · exact odd_ne (by rw [par_ind n ps hd hl, decide_eq_true ho])
  · match ps, hd, hl, ho, h1, h3 with
    | [p, q], hd, hl, _, _, _ =>
      have a := hl p (by simp)
      have b := hl q (by simp)
      have : p ≠ q := by
        intro e; subst e
        simp at hd
      exact pair_ne this a b (by omega) (by omega)
    | [_], _, _, ho, _, _ => simp at ho
    | [_, _, _], _, _, ho, _, _ => simp at ho
    | [], _, _, _, h1, _ => simp at h1
/-- within eight places from p on -/
theorem near_ne {n p : Nat} {ps : List Nat} (hp : p + 8 ≤ n) (hne : ps ≠ []) (hl : ∀ k ∈ ps, p ≤ k ∧ k < p + 8) : crc (ind n ps) ≠ 0#8 := by
  have e : ind n ps = List.take (p + 8) (List.replicate p false ++ (ind n ps).drop p) ++ List.replicate (n - p - 8) false := by
    apply List.ext_getElem?
    intro i
    have hlen : (List.take (p + 8) (List.replicate p false ++ (ind n ps).drop p)).length = p + 8 := by simp [ind_len]; omega
    by_cases hi : i < n
    · rw [ind_get hi]
      by_cases h8 : i < p + 8
      · rw [List.getElem?_append_left (by rw [hlen]; exact h8), List.getElem?_take, if_pos h8]
        by_cases hpi : i < p
        · rw [List.getElem?_append_left (by simpa using hpi)]
          simp [hpi]
          intro h; have := hl i h; omega
        · rw [List.getElem?_append_right (by simp; omega), List.length_replicate, List.getElem?_drop, show p + (i - p) = i by omega, ind_get hi]
      · rw [List.getElem?_append_right (by rw [hlen]; omega), List.getElem?_replicate, if_pos (by rw [hlen]; omega)]
        simp
        intro h; have := hl i h; omega
    · rw [List.getElem?_eq_none (by rw [ind_len]; omega), List.getElem?_eq_none (by simp [ind_len]; omega)]
  have e2 : List.take (p + 8) (List.replicate p false ++ (ind n ps).drop p) = List.replicate p false ++ ((ind n ps).drop p).take 8 := by
    rw [List.take_append, List.length_replicate, List.take_of_length_le (by simp), show p + 8 - p = 8 by omega]
  have e3 : ind n ps = List.replicate p false ++ ((ind n ps).drop p).take 8 ++ List.replicate (n - p - 8) false := by rw [← e2]; exact e
  rw [e3]
  refine burst_ne (by simp [ind_len]; omega) ?_
  intro h
  obtain ⟨k, hk⟩ : ∃ k, k ∈ ps := by
    cases ps with
    | nil => exact absurd rfl hne
    | cons k _ => exact ⟨k, by simp⟩
  have h1 := hl k hk
  have h2 : (((ind n ps).drop p).take 8)[k - p]? = some true := by
    rw [List.getElem?_take, if_pos (by omega), List.getElem?_drop, show p + (k - p) = k by omega, ind_get (by omega), decide_eq_true hk]
  rw [h, List.getElem?_replicate, if_pos (by omega)] at h2
  cases h2
/-! places turned -/
def flp (l : List Bool) (ps : List Nat) : List Bool := List.zipWith (· ^^ ·) l (ind l.length ps)
theorem flp_len (l : List Bool) (ps : List Nat) : (flp l ps).length = l.length := by simp [flp, ind_len]
theorem flp_get (l : List Bool) (ps : List Nat) (k : Nat) : (flp l ps)[k]? = l[k]?.map fun b => b ^^ decide (k ∈ ps) := by
  unfold flp
  rw [List.getElem?_zipWith]
  by_cases h : k < l.length
  · rw [ind_get h, List.getElem?_eq_getElem h]; rfl
  · rw [List.getElem?_eq_none (by omega)]; rfl
theorem crc_flp (l : List Bool) (ps : List Nat) : crc (flp l ps) = crc l ^^^ crc (ind l.length ps) := crc_xor _ _ (by rw [ind_len])
theorem flp_ne {l : List Bool} {ps : List Nat} (h : crc l = 0#8) (hi : crc (ind l.length ps) ≠ 0#8) : crc (flp l ps) ≠ 0#8 := by
  rw [crc_flp, h]; simpa using hi
end M.Mk


set_option Elab.async false
set_option linter.all false
set_option maxRecDepth 100000
set_option maxHeartbeats 4000000
/-! Numbers as bits, checks, bodies, streams of units: what the functions come to. -/
namespace M.Mk
open PySem PySem.Spec PyProof.Rows L2 M
section
variable [Tabs]
variable {S : Store} {l m : List Bool}
theorem join1 (h : l.length ≤ 100000) : hJoin (mk []) [.lst (l.map fun b => bs [b])] S = some (bs l) := by
  have e := bs_join (S := S) (l.map fun b => [b]) (by
    rw [List.map_map]
    have : ∀ l : List Bool, (l.map (List.length ∘ fun b => [b])).sum = l.length := by
      intro l
      induction l with
      | nil => rfl
      | cons x l ih => simp [ih]; omega
    rw [this]; omega)
  rw [List.map_map] at e
  have e2 : (l.map fun b => [b]).flatten = l := by
    clear e h
    induction l with
    | nil => rfl
    | cons x l ih => simp [ih]
  rw [e2] at e
  exact e
/-- a number by so many signs -/
def wr (n many : Nat) : List Bool := (List.range many).map fun i => n.testBit (many - 1 - i)
theorem wr_len (n many : Nat) : (wr n many).length = many := by simp [wr]
theorem e_empty : (("" : PySem.Str)) = mk [] := rfl
theorem shr_ok (n p : Nat) : dShr (.int (n : Int)) (.int (p : Int)) S = some (.int ((n / 2 ^ p : Nat) : Int)) := by
  have e : dShr (.int (n : Int)) (.int (p : Int)) S = if (0 : Int) ≤ (p : Int) then some (.int ((n : Int) / 2 ^ (p : Int).toNat)) else none := rfl
  rw [e, if_pos (by omega), Int.toNat_natCast]
  congr 2
theorem and1_ok (n : Nat) : dAnd (.int (n : Int)) (.int 1) S = some (.int ((n % 2 : Nat) : Int)) := by
  show some (D.int (Builtin.bitAnd (n : Int) 1)) = _
  have := Bits.bitAnd_mask (x := (n : Int)) 1 (by omega)
  rw [show ((2 : Int) ^ 1 - 1) = 1 by decide] at this
  rw [this]
  congr 2
theorem written_ok (hS : clS S.length S = true) (n many : Nat) (hm : many ≤ 10000) : m_written [.int n, .int many] S = .ok (bs (wr n many)) S := by
  refine ret_fn hS (str_ok rfl (x := mk []) (by rw [x_mC, e_empty]) (one_ok (asV_ok (ds := (wr n many).map fun b => bs [b]) (lc_ok (xs := rngC ((many : Int) - 1) (-1) many) ?_ ?_ ?_))) (join1 (by rw [wr_len]; omega))) rfl
  · have := src_down (S := S) (i := (many : Int) - 1) (j := -1) (by omega) (by omega) (by omega) (by omega)
    rw [show (((many : Int) - 1) - -1).toNat = many by omega] at this
    have ha : (mCons (mBin dSub (mVar 1) (mC (.int 1))) (mCons (mUn dNeg (mC (.int 1))) (mCons (mUn dNeg (mC (.int 1))) mNil))) [some (.int n), some (.int many), none] S = .ok [.int ((many : Int) - 1), .int (-1), .int (-1)] S :=
      cons_ok (bin_ok (var_ok rfl) rfl x_sub) (cons_ok rfl (one_ok rfl))
    exact srcA_ok ha this
  · simp [rngC]; omega
  · rw [rngC, wr, List.map_map]
    refine lc_map (f := fun i => bs [n.testBit (many - 1 - i)]) (fun i : Nat => D.int (((many : Int) - 1) + (i : Int) * (-1))) _ fun i hi => ⟨_, rfl, ?_⟩
    have hi := List.mem_range.mp hi
    have e1 : (((many : Int) - 1) + (i : Int) * (-1)) = ((many - 1 - i : Nat) : Int) := by omega
    rw [e1]
    have hb : (mB (mBin dEq (mBin dAnd (mBin dShr (mVar 0) (mVar 2)) (mC (.int 1))) (mC (.int 1)))) [some (.int n), some (.int many), some (.int ((many - 1 - i : Nat) : Int))] S = .ok (n.testBit (many - 1 - i)) S := by
      refine b_ok (bin_ok (bin_ok (bin_ok (var_ok rfl) (var_ok rfl) (shr_ok _ _)) rfl (and1_ok _)) rfl ?_)
      rw [x_eqI, Nat.testBit_eq_decide_div_mod_eq]
      congr 2
      by_cases h : n / 2 ^ (many - 1 - i) % 2 = 1
      · rw [decide_eq_true h, decide_eq_true (by omega)]
      · rw [decide_eq_false h, decide_eq_false (by omega)]
    show (mIte _ _ _) _ S = _
    rw [x_mIte]
    show ((mB (mBin dEq (mBin dAnd (mBin dShr (mVar 0) (mVar 2)) (mC (.int 1))) (mC (.int 1)))) [some (.int n), some (.int many), some (.int ((many - 1 - i : Nat) : Int))] S).bind _ = _
    rw [hb, Res.bind_ok]
    cases n.testBit (many - 1 - i)
    · rw [if_neg (by decide), x_mC, bs_0]
    · rw [if_pos rfl, x_mC, bs_1]
theorem wr_sg8 : ∀ r : B8, wr r.toNat 8 = sg8 r := all8 (P := fun r => wr r.toNat 8 = sg8 r) (by decide +kernel)
/-- the number that bits tell -/
def num (l : List Bool) : Nat := l.foldl (fun a b => 2 * a + b.toNat) 0
theorem num_wr : ∀ n < 256, num (wr n 8) = n := by decide +kernel
theorem for_map {α : Type} {xs : List D} {g : MG} {b : MS} (ι : α → D) (Env' : List α → M.Env) (hstep : ∀ (a : α) (done : List α), ∃ e1, g (ι a) (Env' done) S = some e1 ∧ b e1 S = some (.nx, Env' (done ++ [a]), S)) : ∀ (as done : List α), M.forM ⟨xs, []⟩ g b (as.map ι) (Env' done) S = some (.nx, Env' (done ++ as), S)
  | [], done => by rw [List.map_nil, for_nil, List.append_nil]
  | a :: as, done => by
    obtain ⟨e1, h1, h2⟩ := hstep a done
    rw [List.map_cons, for_cons h1 h2, for_map ι Env' hstep as]
    simp
theorem eq1_ok (b : Bool) : dEq (bs [b]) (.str "1") S = some (.bl b) := by
  rw [bs_1, bs_eq]
  cases b <;> rfl
theorem sign_ok {e : M.Env} {i : Nat} {b : Bool} (h : e[i]? = some (some (bs [b]))) : (mIte (mB (mBin dEq (mVar i) (mC (.str "1")))) (mC (.int 1)) (mC (.int 0))) e S = .ok (.int (b.toNat : Int)) S := by
  have h1 : (mB (mBin dEq (mVar i) (mC (.str "1")))) e S = .ok b S := b_ok (bin_ok (var_ok h) rfl (eq1_ok b))
  rw [x_mIte, h1, Res.bind_ok]
  cases b <;> rfl
theorem read_number_ok (hS : clS S.length S = true) (hl : l.length ≤ 60) : m_read_number [bs l] S = .ok (.int (num l)) S := by
  have hf : ∀ (l : List Bool) (a : Nat) (o : Option D), a < 2 ^ 61 → l.length ≤ 60 → True := fun _ _ _ _ _ => trivial
  have hstep : ∀ (l : List Bool) (a : Nat) (L : D) (o : Option D), ∃ o', M.forM ⟨l.map fun b => bs [b], []⟩ (gN 2) l_read_number_1 (l.map fun b => bs [b]) [some L, some (.int a), o] S = some (.nx, [some L, some (.int ((l.foldl (fun a b => 2 * a + b.toNat) a : Nat) : Int)), o'], S) := by
    intro l
    suffices h : ∀ (xs : List D) (l : List Bool) (a : Nat) (L : D) (o : Option D), ∃ o', M.forM ⟨xs, []⟩ (gN 2) l_read_number_1 (l.map fun b => bs [b]) [some L, some (.int a), o] S = some (.nx, [some L, some (.int ((l.foldl (fun a b => 2 * a + b.toNat) a : Nat) : Int)), o'], S) from fun a L o => h _ l a L o
    intro xs l
    induction l with
    | nil => intro a L o; exact ⟨o, for_nil⟩
    | cons b l ih =>
      intro a L o
      obtain ⟨o', h⟩ := ih (2 * a + b.toNat) L (some (bs [b]))
      refine ⟨o', ?_⟩
      rw [List.map_cons]
      refine (for_cons (e1 := [some L, some (.int a), some (bs [b])]) (e2 := [some L, some (.int ((2 * a + b.toNat : Nat) : Int)), some (bs [b])]) (S2 := S) rfl ?_).trans h
      refine set_ok ?_
      have hc : (mIte (mB (mBin dEq (mVar 2) (mC (.str "1")))) (mC (.int 1)) (mC (.int 0))) [some L, some (.int a), some (bs [b])] S = .ok (.int (b.toNat : Int)) S := sign_ok rfl
      refine bin_ok (bin_ok rfl (var_ok rfl) (x_mul (.inl (by decide)))) hc (x_add.trans ?_)
      congr 2
  obtain ⟨o', h⟩ := hstep l 0 (bs l) none
  refine retV_id (run_rt (e' := [some (bs l), some (.int (num l : Int)), o']) ?_) hS rfl
  refine (seq_nx (set_ok rfl)).trans ((seq_nx (for_ok (S1 := S) (xs := l.map fun b => bs [b]) ?_ h)).trans (ret_ok (var_ok rfl)))
  rw [x_mSrc, var_ok (d := bs l) rfl, Res.bind_ok, bs_items]; rfl
theorem step_nat : ∀ r : B8, ∀ b : Bool, (step r b).toNat = (if r.toNat / 128 % 2 = b.toNat then r.toNat * 2 % 256 else (r.toNat * 2 % 256) ^^^ 7) :=
  all8 (P := fun r => ∀ b : Bool, (step r b).toNat = (if r.toNat / 128 % 2 = b.toNat then r.toNat * 2 % 256 else (r.toNat * 2 % 256) ^^^ 7)) (by decide +kernel)
theorem shl_ok (n p : Nat) (hp : p ≤ 1000) (hn : n < 2 ^ 60) : dShl (.int (n : Int)) (.int (p : Int)) S = some (.int ((n * 2 ^ p : Nat) : Int)) := by
  simp only [dShl]
  rw [if_pos ⟨by omega, by omega, by omega⟩, Int.toNat_natCast]
  congr 2
theorem check_ok (hS : clS S.length S = true) (hl : l.length ≤ 100000) : m_check [bs l] S = .ok (bs (sg8 (crc l))) S := by
  have hstep : ∀ (xs : List D) (l : List Bool) (r : B8) (L : D) (o o2 : Option D), ∃ o' o2', M.forM ⟨xs, []⟩ (gN 2) l_check_2 (l.map fun b => bs [b]) [some L, some (.int (r.toNat : Int)), o, o2] S = some (.nx, [some L, some (.int ((run r l).toNat : Int)), o', o2'], S) := by
    intro xs l
    induction l with
    | nil => intro r L o o2; exact ⟨o, o2, for_nil⟩
    | cons b l ih =>
      intro r L o o2
      have hlt := r.isLt
      obtain ⟨o', o2', h⟩ := ih (step r b) L (some (bs [b])) (some (.int ((r.toNat / 128 % 2 : Nat) : Int)))
      refine ⟨o', o2', ?_⟩
      rw [List.map_cons]
      refine (for_cons (e1 := [some L, some (.int (r.toNat : Int)), some (bs [b]), o2]) (e2 := [some L, some (.int ((step r b).toNat : Int)), some (bs [b]), some (.int ((r.toNat / 128 % 2 : Nat) : Int))]) (S2 := S) rfl ?_).trans h
      have s1 : (sSet (gN 3) (mBin dAnd (mBin dShr (mVar 1) (mBin dSub (mC (.int 8)) (mC (.int 1)))) (mC (.int 1)))) [some L, some (.int (r.toNat : Int)), some (bs [b]), o2] S = some (.nx, [some L, some (.int (r.toNat : Int)), some (bs [b]), some (.int ((r.toNat / 128 % 2 : Nat) : Int))], S) :=
        set_ok (bin_ok (bin_ok (var_ok rfl) (v := .int ((7 : Nat) : Int)) rfl (shr_ok r.toNat 7)) rfl (and1_ok _))
      have s2 : (sSet (gN 1) (mBin dMod (mBin dShl (mVar 1) (mC (.int 1))) (mBin dShl (mC (.int 1)) (mC (.int 8))))) [some L, some (.int (r.toNat : Int)), some (bs [b]), some (.int ((r.toNat / 128 % 2 : Nat) : Int))] S = some (.nx, [some L, some (.int ((r.toNat * 2 % 256 : Nat) : Int)), some (bs [b]), some (.int ((r.toNat / 128 % 2 : Nat) : Int))], S) := by
        refine set_ok (bin_ok (bin_ok (var_ok rfl) rfl (shl_ok r.toNat 1 (by decide) (by omega))) (bin_ok (u := .int ((1 : Nat) : Int)) (v := .int ((8 : Nat) : Int)) rfl rfl (shl_ok 1 8 (by decide) (by decide))) ?_)
        rw [x_mod (by decide)]
        congr 2
      refine (seq_nx s1).trans ((seq_nx s2).trans ?_)
      have hc : (mIte (mB (mBin dEq (mVar 2) (mC (.str "1")))) (mC (.int 1)) (mC (.int 0))) [some L, some (.int ((r.toNat * 2 % 256 : Nat) : Int)), some (bs [b]), some (.int ((r.toNat / 128 % 2 : Nat) : Int))] S = .ok (.int (b.toNat : Int)) S := sign_ok rfl
      have ht : (mB (mBin dNe (mVar 3) (mIte (mB (mBin dEq (mVar 2) (mC (.str "1")))) (mC (.int 1)) (mC (.int 0))))) [some L, some (.int ((r.toNat * 2 % 256 : Nat) : Int)), some (bs [b]), some (.int ((r.toNat / 128 % 2 : Nat) : Int))] S = .ok (!decide (((r.toNat / 128 % 2 : Nat) : Int) = (b.toNat : Int))) S := b_ok (bin_ok (var_ok rfl) hc x_neI)
      rw [if_b ht, step_nat]
      by_cases hq : r.toNat / 128 % 2 = b.toNat
      · rw [if_pos hq, decide_eq_true (by omega)]
        rfl
      · rw [if_neg hq, decide_eq_false (by omega)]
        unfold b_check_1
        refine set_ok (bin_ok (var_ok rfl) rfl ?_)
        show some (D.int (Builtin.bitXor ((r.toNat * 2 % 256 : Nat) : Int) 7)) = _
        rw [Bits.bitXor_pp (by omega) (by decide)]
        rfl
  obtain ⟨o', o2', h⟩ := hstep (l.map fun b => bs [b]) l 0#8 (bs l) none none
  refine retV_id (run_rt (e' := [some (bs l), some (.int ((crc l).toNat : Int)), o', o2']) ?_) hS rfl
  refine (seq_nx (set_ok rfl)).trans ((seq_nx (for_ok (S1 := S) (xs := l.map fun b => bs [b]) ?_ h)).trans (ret_ok (callF_ok (cons_ok (var_ok rfl) (one_ok rfl)) ?_)))
  · rw [x_mSrc, var_ok (d := bs l) rfl, Res.bind_ok, bs_items]; rfl
  · have := written_ok hS (crc l).toNat 8 (by decide)
    rw [wr_sg8] at this
    exact this
/-! lengths -/
def dl (p : Nat) : Nat := (p + 22) / 7 * 7
def bl (p : Nat) : Nat := (p + 22) / 7 * 8
theorem data_length_ok (hS : clS S.length S = true) (p : Nat) : m_data_length [.int p] S = .ok (.int (dl p : Int)) S := by
  refine ret_fn hS (bin_ok (bin_ok (bin_ok (bin_ok (bin_ok (bin_ok rfl (var_ok rfl) x_add) rfl x_add) rfl x_add) rfl x_sub) rfl (x_fdiv (by decide))) rfl ((mulc _ _ (by decide) _).trans ?_)) rfl
  congr 2
  unfold dl
  have : (8 + (p : Int) + 8 + 7 - 1) = ((p + 22 : Nat) : Int) := by omega
  rw [this]
  omega
theorem body_length_ok (hS : clS S.length S = true) (p : Nat) : m_body_length [.int p] S = .ok (.int (bl p : Int)) S := by
  refine ret_fn hS (bin_ok (bin_ok (callF_ok (one_ok (var_ok rfl)) (data_length_ok hS p)) rfl (x_fdiv (by decide))) rfl ((mulc _ _ (by decide) _).trans ?_)) rfl
  congr 2
  unfold dl bl
  omega
/-! bodies -/
def told (n : Nat) (p : List Bool) : List Bool := wr n 8 ++ p
def datum (n : Nat) (p : List Bool) : List Bool := told n p ++ sg8 (crc (told n p)) ++ List.replicate (dl p.length - (p.length + 16)) false
/-- groups of seven, each with a one behind -/
def grp (k : Nat) (l : List Bool) : List Bool := ((List.range k).map fun i => (l.drop (7 * i)).take 7 ++ [true]).flatten
def bdy (n : Nat) (p : List Bool) : List Bool := grp ((p.length + 22) / 7) (datum n p)
theorem told_len (n : Nat) (p : List Bool) : (told n p).length = p.length + 8 := by simp [told, wr_len]; omega
theorem datum_len (n : Nat) (p : List Bool) : (datum n p).length = dl p.length := by
  simp only [datum, List.length_append, told_len, sg8_len, List.length_replicate]
  unfold dl; omega
theorem grp_len : ∀ (k : Nat) (l : List Bool), 7 * k ≤ l.length → (grp k l).length = 8 * k := by
  intro k l
  unfold grp
  induction k with
  | zero => intro _; rfl
  | succ k ih =>
    intro h
    rw [List.range_succ, List.map_append, List.flatten_append, List.length_append, ih (by omega)]
    simp
    omega
theorem bdy_len (n : Nat) (p : List Bool) : (bdy n p).length = bl p.length := by
  unfold bdy
  rw [grp_len _ _ (by rw [datum_len]; unfold dl; omega)]
  unfold bl; omega
theorem body_ok (hS : clS S.length S = true) (n : Nat) (p : List Bool) (hp : p.length ≤ 400) : m_body [.int n, bs p] S = .ok (bs (bdy n p)) S := by
  have h0 : dl p.length ≤ 500 ∧ p.length + 16 ≤ dl p.length := by unfold dl; omega
  have hd := datum_len n p
  have ht := told_len n p
  refine retV_id (run_rt (e' := [some (.int n), some (bs p), some (bs (told n p)), some (bs (datum n p)), none]) ?_) hS rfl
  refine (seq_nx (e1 := [some (.int n), some (bs p), some (bs (told n p)), none, none]) (S1 := S) (set_ok (bin_ok (callF_ok (cons_ok (var_ok rfl) (one_ok rfl)) (written_ok hS n 8 (by decide))) (var_ok rfl) (bs_add (by rw [wr_len]; omega))))).trans ?_
  refine (seq_nx (set_ok (bin_ok (var_ok rfl) (callF_ok (one_ok (var_ok rfl)) (check_ok hS (by omega))) (bs_add (by rw [ht, sg8_len]; omega))))).trans ?_
  have hz : dSub (.int (dl p.length : Int)) (.int ((told n p ++ sg8 (crc (told n p))).length : Int)) S = some (.int ((dl p.length - (p.length + 16) : Nat) : Int)) := by
    rw [x_sub, List.length_append, ht, sg8_len]
    congr 2
    omega
  refine (seq_nx (e1 := [some (.int n), some (bs p), some (bs (told n p)), some (bs (datum n p)), none]) (S1 := S) (set_ok (bin_ok (var_ok rfl) (bin_ok (u := bs [false]) (by rw [x_mC, bs_0]) (bin_ok (callF_ok (one_ok (call_ok (one_ok (var_ok rfl)) (bs_len (by omega)))) (data_length_ok hS _)) (call_ok (one_ok (var_ok rfl)) (bs_len (by simp only [List.length_append, ht, sg8_len]; omega))) hz) (bs_mul0 _ (by omega))) (bs_add (by simp only [List.length_append, ht, sg8_len, List.length_replicate]; omega))))).trans ?_
  have hsum : ∀ k, (((List.range k).map fun i => ((datum n p).drop (7 * i)).take 7 ++ [true]).map List.length).sum ≤ 8 * k := by
    intro k
    induction k with
    | zero => simp
    | succ k ih =>
      rw [List.range_succ, List.map_append, List.map_append, List.sum_append_nat]
      simp only [List.map_cons, List.map_nil, List.sum_cons, List.sum_nil, List.length_append, List.length_take, List.length_singleton]
      omega
  refine ret_ok (str_ok rfl (x := mk []) (by rw [x_mC, e_empty]) (one_ok (asV_ok (ds := ((List.range ((p.length + 22) / 7)).map fun i => ((datum n p).drop (7 * i)).take 7 ++ [true]).map bs) (lc_ok (xs := rngC 0 7 ((p.length + 22) / 7)) ?_ ?_ ?_))) (bs_join _ ?_))
  · refine srcA_ok (cons_ok rfl (cons_ok (call_ok (one_ok (var_ok rfl)) (bs_len (by omega))) (one_ok rfl))) ((src_up (by decide) (by decide) (by decide) (by decide) (by omega) (by omega)).trans ?_)
    rw [hd]
    congr 3
    unfold dl; omega
  · rw [rngC_len]; omega
  · rw [rngC_eq, List.map_map]
    refine lc_map (f := fun i => bs (((datum n p).drop (7 * i)).take 7 ++ [true])) (fun i : Nat => D.int (0 + (i : Int) * 7)) _ fun i hi => ⟨_, rfl, ?_⟩
    have hi := List.mem_range.mp hi
    have e1 : ((0 : Int) + (i : Int) * 7) = ((7 * i : Nat) : Int) := by omega
    rw [e1]
    refine bin_ok (u := bs (((datum n p).drop (7 * i)).take 7)) (slice_ok (var_ok rfl) (part_ok (var_ok rfl)) (part_ok (bin_ok (var_ok rfl) rfl x_add)) ?_) (v := bs [true]) (by rw [x_mC, bs_1]) (bs_add (by simp; omega))
    rw [bs_slice _ _ (by omega)]
    exact congrArg (fun l => some (bs l)) (cut_nat (datum n p) (7 * i) 7)
  · have := hsum ((p.length + 22) / 7); omega
/-! streams -/
def mark : List Bool := [false, false, false, false, false, false, false, false, true]
theorem e_mark : (("000000001" : PySem.Str)) = mk (cod mark) := by decide +kernel
theorem bs_mark : (.str "000000001" : D) = bs mark := by unfold bs; rw [← e_mark]
/-- bodies behind marks -/
def strm (cs : List (List Bool)) : List Bool := (cs.map fun c => mark ++ c).flatten
def uD (u : Nat × List Bool) : D := .tup [.int (u.1 : Int), bs u.2]
def bd (u : Nat × List Bool) : List Bool := bdy u.1 u.2
theorem write_ok (hS : clS S.length S = true) (us : List (Nat × List Bool)) (hu : ∀ u ∈ us, u.2.length ≤ 400) (hl : us.length ≤ 20) : m_write [.tup (us.map uD)] S = .ok (bs (strm (us.map bd))) S := by
  have hsum : ∀ us : List (Nat × List Bool), (∀ u ∈ us, u.2.length ≤ 400) → ((us.map fun u => mark ++ bd u).map List.length).sum ≤ 600 * us.length := by
    intro us
    induction us with
    | nil => simp
    | cons u us ih =>
      intro h
      have h1 := ih fun v hv => h v (List.mem_cons_of_mem _ hv)
      have h2 := h u (by simp)
      have h3 : (bd u).length ≤ 500 := by unfold bd; rw [bdy_len]; unfold bl; omega
      simp only [List.map_cons, List.sum_cons, List.length_append, List.length_cons] at h1 ⊢
      have : mark.length = 9 := rfl
      omega
  have h9 := hsum us hu
  refine ret_fn hS (str_ok rfl (x := mk []) (by rw [x_mC, e_empty]) (one_ok (asV_ok (ds := (us.map fun u => mark ++ bd u).map bs) (lc_ok (src_tup (var_ok rfl)) ?_ ?_))) ((bs_join _ (by omega)).trans ?_)) rfl
  · rw [List.length_map]; omega
  · rw [List.map_map]
    refine lc_map (f := fun u => bs (mark ++ bd u)) uD us fun u hm => ⟨_, rfl, ?_⟩
    have h2 := hu u hm
    have h3 : (bd u).length ≤ 500 := by unfold bd; rw [bdy_len]; unfold bl; omega
    refine bin_ok (u := bs mark) (by rw [x_mC, bs_mark]) (callF_ok (cons_ok (var_ok rfl) (one_ok (var_ok rfl))) (body_ok hS u.1 u.2 h2)) (bs_add ?_)
    show 9 + (bd u).length ≤ 100000
    omega
  · rw [strm, List.map_map]; rfl
/-- the groups of a body without their ones -/
def ung (k : Nat) (c : List Bool) : List Bool := ((List.range k).map fun i => (c.drop (8 * i)).take 7).flatten
/-- what a body tells -/
def parse (many : Nat) (c : List Bool) : Option (Nat × List Bool) :=
  let d := ung ((many + 22) / 7) c
  let t := d.take (8 + many)
  if d.drop (8 + many) = sg8 (crc t) ++ List.replicate ((d.drop (8 + many)).length - 8) false then some (num (t.take 8), t.drop 8) else none
/-- each group ends with a one -/
def Ones (many : Nat) (c : List Bool) : Prop := c.length = bl many ∧ ∀ g, g < (many + 22) / 7 → c[8 * g + 7]? = some true
def oD : Option (Nat × List Bool) → D
  | none => .non
  | some u => uD u
theorem ung_len : ∀ (k : Nat) (c : List Bool), 8 * k ≤ c.length → (ung k c).length = 7 * k := by
  intro k c
  unfold ung
  induction k with
  | zero => intro _; rfl
  | succ k ih =>
    intro h
    rw [List.range_succ, List.map_append, List.flatten_append, List.length_append, ih (by omega)]
    simp
    omega
theorem unit_in_ok (hS : clS S.length S = true) (l : List Bool) (place many : Nat) (hm : many ≤ 400) (hl : l.length ≤ 20000) (he : place + bl many ≤ l.length) (hn : place + bl many = l.length ∨ Sat l mark (place + bl many))
    (ho : Ones many ((l.drop place).take (bl many))) : m_unit_in [bs l, .int place, .int many] S = .ok (oD (parse many ((l.drop place).take (bl many)))) S := by
  generalize hG : (many + 22) / 7 = G at *
  have hb : bl many = 8 * G := by unfold bl; omega
  generalize hc : (l.drop place).take (bl many) = c at *
  have hcl := ho.1
  have hd := ung_len G c (by omega)
  have hgr : ∀ i, i < G → (l.drop (place + 8 * i)).take 8 = (c.drop (8 * i)).take 8 := by
    intro i hi
    rw [← hc, List.drop_take, List.take_take, List.drop_drop, Nat.min_eq_left (by omega)]
  have cl : ∀ o, M.cl S.length (oD o) = true := by
    intro o
    cases o <;> rfl
  suffices h : ∃ e', b_unit_in [some (bs l), some (.int place), some (.int many), none, none, none, none, none, none, none] S = some (.rt (oD (parse many c)), e', S) by
    obtain ⟨e', h⟩ := h
    exact retV_id (run_rt (e' := e') h) hS (cl _)
  have s1 : (sSet (gN 3) (mBin dAdd (mVar 1) (mCallF 1 m_body_length (mCons (mVar 2) mNil)))) [some (bs l), some (.int place), some (.int many), none, none, none, none, none, none, none] S = some (.nx, [some (bs l), some (.int place), some (.int many), some (.int ((place + bl many : Nat) : Int)), none, none, none, none, none, none], S) :=
    set_ok (bin_ok (var_ok rfl) (callF_ok (one_ok (var_ok rfl)) (body_length_ok hS many)) x_add)
  unfold b_unit_in
  rw [seq_nx s1, seq_nx (if_skip (S1 := S) ?c1)]
  case c1 =>
    have a1 : (mB (mBin dGt (mVar 3) (mCall dLen (mCons (mVar 0) mNil)))) [some (bs l), some (.int place), some (.int many), some (.int ((place + bl many : Nat) : Int)), none, none, none, none, none, none] S = .ok false S := by
      refine b_ok (bin_ok (var_ok rfl) (call_ok (one_ok (var_ok rfl)) (bs_len (by omega))) (x_gt.trans ?_))
      rw [decide_eq_false (by omega)]
    have a2 : (mB (mBin dLt (mVar 3) (mCall dLen (mCons (mVar 0) mNil)))) [some (bs l), some (.int place), some (.int many), some (.int ((place + bl many : Nat) : Int)), none, none, none, none, none, none] S = .ok (decide (place + bl many < l.length)) S := by
      refine b_ok (bin_ok (var_ok rfl) (call_ok (one_ok (var_ok rfl)) (bs_len (by omega))) (x_lt.trans ?_))
      congr 2
      simp; omega
    have a3 : (mMeth "str" (gStr hStarts) (mVar 0) (mCons (mC (.str "000000001")) (mCons (mVar 3) mNil))) [some (bs l), some (.int place), some (.int many), some (.int ((place + bl many : Nat) : Int)), none, none, none, none, none, none] S = .ok (.bl (decide (Sat l mark (place + bl many)))) S :=
      str_ok rfl (x := mk (cod l)) (var_ok rfl) (cons_ok (d := bs mark) (by rw [x_mC, bs_mark]) (one_ok (var_ok rfl))) (bs_starts _ (.inr (by decide)))
    rw [x_mOr, a1, Res.bind_ok, if_neg (by decide), x_mAnd, a2, Res.bind_ok]
    rcases hn with hn | hn
    · rw [if_neg (by simp; omega)]
    · split
      · rw [x_mNot, x_mTru, a3, Res.bind_ok, decide_eq_true hn]; rfl
      · rfl
  have s2 : (sSet (gN 4) (asV (mLc (mSrcA srcR3 (mCons (mVar 1) (mCons (mVar 3) (mCons (mBin dAdd (mC (.int 7)) (mC (.int 1))) mNil)))) (gN 5) mYes e_unit_in_1 [5]))) [some (bs l), some (.int place), some (.int many), some (.int ((place + bl many : Nat) : Int)), none, none, none, none, none, none] S =
      some (.nx, [some (bs l), some (.int place), some (.int many), some (.int ((place + bl many : Nat) : Int)), some (.lst (((List.range G).map fun i => (c.drop (8 * i)).take 8).map bs)), none, none, none, none, none], S) := by
    refine set_ok (asV_ok (lc_ok (xs := rngC place 8 G) ?_ ?_ ?_))
    · refine srcA_ok (cons_ok (var_ok rfl) (cons_ok (var_ok rfl) (one_ok (bin_ok rfl rfl x_add)))) ((src_up (by decide) (by decide) (by omega) (by omega) (by omega) (by omega)).trans ?_)
      rw [hb]
      congr 3
      omega
    · rw [rngC_len]; omega
    · rw [rngC_eq, List.map_map]
      refine lc_map (f := fun i => bs ((c.drop (8 * i)).take 8)) (fun i : Nat => D.int ((place : Int) + (i : Int) * 8)) _ fun i hi => ⟨_, rfl, ?_⟩
      have hi := List.mem_range.mp hi
      have e1 : ((place : Int) + (i : Int) * 8) = ((place + 8 * i : Nat) : Int) := by omega
      rw [e1, ← hgr i hi]
      refine slice_ok (var_ok rfl) (part_ok (var_ok rfl)) (part_ok (bin_ok (bin_ok (var_ok rfl) rfl x_add) rfl x_add)) ?_
      rw [bs_slice _ _ (by omega), show (((place + 8 * i : Nat) : Int) + 7 + 1) = ((place + 8 * i : Nat) : Int) + ((8 : Nat) : Int) by omega, cut_nat]
  rw [seq_nx s2, seq_nx (if_skip (S1 := S) ?c2)]
  case c2 =>
    have : (mAll false (mSrc (mVar 4)) (gN 6) e_unit_in_2 [6]) [some (bs l), some (.int place), some (.int many), some (.int ((place + bl many : Nat) : Int)), some (.lst (((List.range G).map fun i => (c.drop (8 * i)).take 8).map bs)), none, none, none, none, none] S = .ok (.bl true) S := by
      refine all_ok (src_lst (var_ok rfl)) ?_
      rw [List.map_map]
      refine all_map (fun i => bs ((c.drop (8 * i)).take 8)) _ fun i hi => ⟨_, rfl, ?_⟩
      have hi := List.mem_range.mp hi
      refine bin_ok (bin_ok (u := bs ((c.drop (8 * i)).take 8)) (var_ok rfl) (v := .int ((7 : Nat) : Int)) rfl (bs_ix (b := true) (by simp; omega) ?_)) rfl (eq1_ok true)
      rw [List.getElem?_take, if_pos (by decide), List.getElem?_drop]
      exact ho.2 i (by omega)
    rw [x_mNot, x_mTru, this]; rfl
  have s3 : (sSet (gN 7) (mMeth "str" (gStr hJoin) (mC (.str "")) (mCons (asV (mLc (mSrc (mVar 4)) (gN 6) mYes e_unit_in_3 [6])) mNil))) [some (bs l), some (.int place), some (.int many), some (.int ((place + bl many : Nat) : Int)), some (.lst (((List.range G).map fun i => (c.drop (8 * i)).take 8).map bs)), none, none, none, none, none] S =
      some (.nx, [some (bs l), some (.int place), some (.int many), some (.int ((place + bl many : Nat) : Int)), some (.lst (((List.range G).map fun i => (c.drop (8 * i)).take 8).map bs)), none, none, some (bs (ung G c)), none, none], S) := by
    have hsum : (((List.range G).map fun i => (c.drop (8 * i)).take 7).map List.length).sum ≤ 16777216 := by
      have : (((List.range G).map fun i => (c.drop (8 * i)).take 7).map List.length).sum = (ung G c).length := by rw [ung, List.length_flatten]
      omega
    refine set_ok (str_ok rfl (x := mk []) (by rw [x_mC, e_empty]) (one_ok (asV_ok (ds := ((List.range G).map fun i => (c.drop (8 * i)).take 7).map bs) (lc_ok (src_lst (var_ok rfl)) ?_ ?_))) (bs_join _ hsum))
    · simp; omega
    · rw [List.map_map, List.map_map]
      refine lc_map (f := fun i => bs ((c.drop (8 * i)).take 7)) (fun i => bs ((c.drop (8 * i)).take 8)) _ fun i hi => ⟨_, rfl, ?_⟩
      refine slice_ok (var_ok rfl) rfl (part_ok (k := ((7 : Nat) : Int)) rfl) ?_
      rw [bs_slice _ _ (by simp; omega), cut_to, List.take_take]
      rfl
  rw [seq_nx s3]
  have s4 : (sPar 8 9 (mCons (mSlice (mVar 7) mNo (mPart (mBin dAdd (mC (.int 8)) (mVar 2)))) (mCons (mSlice (mVar 7) (mPart (mBin dAdd (mC (.int 8)) (mVar 2))) mNo) mNil))) [some (bs l), some (.int place), some (.int many), some (.int ((place + bl many : Nat) : Int)), some (.lst (((List.range G).map fun i => (c.drop (8 * i)).take 8).map bs)), none, none, some (bs (ung G c)), none, none] S =
      some (.nx, [some (bs l), some (.int place), some (.int many), some (.int ((place + bl many : Nat) : Int)), some (.lst (((List.range G).map fun i => (c.drop (8 * i)).take 8).map bs)), none, none, some (bs (ung G c)), some (bs ((ung G c).take (8 + many))), some (bs ((ung G c).drop (8 + many)))], S) := by
    refine par_ok (slice_ok (var_ok rfl) rfl (part_ok (k := ((8 + many : Nat) : Int)) (bin_ok rfl (var_ok rfl) x_add)) ?_) (slice_ok (var_ok rfl) (part_ok (k := ((8 + many : Nat) : Int)) (bin_ok rfl (var_ok rfl) x_add)) rfl ?_)
    · rw [bs_slice _ _ (by omega), cut_to]
    · rw [bs_slice _ _ (by omega), cut_from]
  rw [seq_nx s4]
  generalize ht : (ung G c).take (8 + many) = t
  generalize hbh : (ung G c).drop (8 + many) = bh
  have htl : t.length = 8 + many := by rw [← ht, List.length_take]; omega
  have hbl : bh.length = 7 * G - (8 + many) := by rw [← hbh, List.length_drop]; omega
  have hp : parse many c = if bh = sg8 (crc t) ++ List.replicate (bh.length - 8) false then some (num (t.take 8), t.drop 8) else none := by
    unfold parse
    simp only [hG, ht, hbh]
  have c5 : ∀ e : M.Env, e[8]? = some (some (bs t)) → e[9]? = some (some (bs bh)) → (mB (mBin dNe (mVar 9) (mBin dAdd (mCallF 1 m_check (mCons (mVar 8) mNil)) (mBin dMul (mC (.str "0")) (mBin dSub (mCall dLen (mCons (mVar 9) mNil)) (mC (.int 8))))))) e S = .ok (!decide (bh = sg8 (crc t) ++ List.replicate (bh.length - 8) false)) S := by
    intro e h8 h9
    have q1 : mCallF 1 m_check (mCons (mVar 8) mNil) e S = .ok (bs (sg8 (crc t))) S := callF_ok (one_ok (var_ok h8)) (check_ok hS (by omega))
    have q2 : mCall dLen (mCons (mVar 9) mNil) e S = .ok (.int (bh.length : Int)) S := call_ok (one_ok (var_ok h9)) (bs_len (by omega))
    have q3 : mBin dSub (mCall dLen (mCons (mVar 9) mNil)) (mC (.int 8)) e S = .ok (.int ((bh.length - 8 : Nat) : Int)) S := bin_ok q2 rfl (x_sub.trans (congrArg (fun z => some (D.int z)) (by omega)))
    have q4 : mBin dMul (mC (.str "0")) (mBin dSub (mCall dLen (mCons (mVar 9) mNil)) (mC (.int 8))) e S = .ok (bs (List.replicate (bh.length - 8) false)) S := bin_ok (u := bs [false]) (by rw [x_mC, bs_0]) q3 (bs_mul0 _ (by omega))
    exact b_ok (bin_ok (var_ok h9) (bin_ok q1 q4 (bs_add (by simp only [sg8_len, List.length_replicate]; omega))) bs_ne)
  by_cases hq : bh = sg8 (crc t) ++ List.replicate (bh.length - 8) false
  · rw [hp, if_pos hq]
    refine ⟨_, (seq_nx (if_skip (S1 := S) ((c5 _ rfl rfl).trans ?_))).trans (ret_ok ?_)⟩
    · rw [decide_eq_true hq]; rfl
    · refine tup_ok (cons_ok (callF_ok (one_ok (d := bs (t.take 8)) (slice_ok (var_ok rfl) rfl (part_ok (k := ((8 : Nat) : Int)) rfl) ?_)) (read_number_ok hS (by simp; omega))) (one_ok (slice_ok (var_ok rfl) (part_ok (k := ((8 : Nat) : Int)) rfl) rfl ?_))) (by show 2 ≤ sizeLine; decide)
      · rw [bs_slice _ _ (by omega), cut_to]
      · rw [bs_slice _ _ (by omega), cut_from]
  · rw [hp, if_neg hq]
    refine ⟨_, seq_rt ((if_t ((c5 _ rfl rfl).trans ?_)).trans (ret_ok rfl))⟩
    rw [decide_eq_false hq]; rfl
end
end M.Mk


set_option Elab.async false
set_option linter.all false
set_option maxRecDepth 100000
set_option maxHeartbeats 4000000
/-! Streams read. -/
namespace M.Mk
open PySem PySem.Spec PyProof.Rows L2 M
/-! ### marks stand just where they were put -/
section
variable [Tabs]
variable {many : Nat} {cs : List (List Bool)}
abbrev AllOnes (many : Nat) (cs : List (List Bool)) : Prop := ∀ c ∈ cs, Ones many c
theorem mark_len : mark.length = 9 := rfl
theorem strm_cons (c : List Bool) (cs : List (List Bool)) : strm (c :: cs) = mark ++ (c ++ strm cs) := by simp [strm]
theorem strm_len : ∀ {cs : List (List Bool)}, AllOnes many cs → (strm cs).length = cs.length * (9 + bl many)
  | [], _ => by simp [strm]
  | c :: cs, h => by
    have h1 := (h c (by simp)).1
    have ih := strm_len (cs := cs) fun d hd => h d (List.mem_cons_of_mem _ hd)
    rw [strm_cons, List.length_append, List.length_append, ih, h1, List.length_cons, Nat.succ_mul, mark_len]
    omega
theorem strm_drop : ∀ {cs : List (List Bool)}, AllOnes many cs → ∀ i, i ≤ cs.length → (strm cs).drop (i * (9 + bl many)) = strm (cs.drop i)
  | cs, _, 0, _ => by simp
  | [], _, i + 1, h => by simp at h
  | c :: cs, h, i + 1, hi => by
    have h1 := (h c (by simp)).1
    have ih := strm_drop (cs := cs) (fun d hd => h d (List.mem_cons_of_mem _ hd)) i (by simpa using hi)
    rw [strm_cons, ← List.append_assoc, List.drop_append, List.drop_eq_nil_of_le (by rw [List.length_append, h1, mark_len, Nat.succ_mul]; omega), List.nil_append, List.length_append, h1, mark_len,
      show (i + 1) * (9 + bl many) - (9 + bl many) = i * (9 + bl many) by rw [Nat.succ_mul]; omega, ih]
    rfl
theorem sat_get {l m : List Bool} {i k : Nat} (h : Sat l m i) (hk : k < m.length) : l[i + k]? = m[k]? := by
  have : (List.take m.length (List.drop i l))[k]? = m[k]? := by rw [show List.take m.length (List.drop i l) = m from h]
  rw [List.getElem?_take, if_pos hk, List.getElem?_drop] at this
  exact this
/-- a one in each eighth place of a block -/
theorem block_one {c : List Bool} (h : Ones many c) (g : Nat) (hg : g ≤ (many + 22) / 7) : (mark ++ c)[8 * (g + 1)]? = some true := by
  cases g with
  | zero => rfl
  | succ g =>
    rw [List.getElem?_append_right (by rw [mark_len]; omega), mark_len, show 8 * (g + 1 + 1) - 9 = 8 * g + 7 by omega]
    exact h.2 g (by omega)
theorem sat_strm (h : AllOnes many cs) (p : Nat) : Sat (strm cs) mark p ↔ ∃ i, i < cs.length ∧ p = i * (9 + bl many) := by
  have hb : bl many = 8 * ((many + 22) / 7) := by unfold bl; omega
  constructor
  · intro hs
    have hle := hs.le (by decide)
    rw [strm_len h, mark_len] at hle
    have hw : 0 < 9 + bl many := by omega
    refine ⟨p / (9 + bl many), (Nat.div_lt_iff_lt_mul hw).mpr (by omega), ?_⟩
    have hdm := Nat.div_add_mod p (9 + bl many)
    generalize hi : p / (9 + bl many) = i at *
    generalize ho : p % (9 + bl many) = o at *
    have hol : o < 9 + bl many := by rw [← ho]; exact Nat.mod_lt _ hw
    rw [Nat.mul_comm] at hdm
    rcases Nat.eq_zero_or_pos o with h0 | h0
    · omega
    · exfalso
      have hil : i < cs.length := by rw [← hi]; exact (Nat.div_lt_iff_lt_mul hw).mpr (by omega)
      -- the one that stands among the eight
      have hm : ∃ g, o ≤ 8 * (g + 1) ∧ 8 * (g + 1) < o + 8 := ⟨(o + 7) / 8 - 1, by omega, by omega⟩
      obtain ⟨g, g1, g2⟩ := hm
      have hg : g ≤ (many + 22) / 7 := by omega
      have e1 := sat_get hs (k := 8 * (g + 1) - o) (by rw [mark_len]; omega)
      have e2 : mark[8 * (g + 1) - o]? = some false := by
        have : ∀ k < 8, mark[k]? = some false := by decide
        exact this _ (by omega)
      rw [e2] at e1
      have e3 : (strm cs)[p + (8 * (g + 1) - o)]? = some true := by
        have hd := strm_drop h i (by omega)
        have : (strm cs)[i * (9 + bl many) + 8 * (g + 1)]? = (strm (cs.drop i))[8 * (g + 1)]? := by rw [← hd, List.getElem?_drop]
        rw [show p + (8 * (g + 1) - o) = i * (9 + bl many) + 8 * (g + 1) by omega, this, List.drop_eq_getElem_cons hil, strm_cons, ← List.append_assoc]
        have hO := h cs[i] (List.getElem_mem hil)
        have hlen : (mark ++ cs[i]).length = 9 + bl many := by rw [List.length_append, hO.1, mark_len]
        rw [List.getElem?_append_left (by omega)]
        exact block_one hO g hg
      rw [e3] at e1
      cases e1
  · rintro ⟨i, hi, rfl⟩
    unfold Sat
    rw [strm_drop h i (by omega), List.drop_eq_getElem_cons hi, strm_cons]
    rfl
/-- the next one -/
theorem fst_strm (h : AllOnes many cs) (i lo : Nat) (h1 : lo ≤ i * (9 + bl many)) (h2 : ∀ j, j < i → j * (9 + bl many) < lo) : fstAt (strm cs) mark lo = if i < cs.length then some (i * (9 + bl many)) else none := by
  by_cases hi : i < cs.length
  · rw [if_pos hi]
    refine fstAt_of (by decide) h1 ((sat_strm h _).mpr ⟨i, hi, rfl⟩) fun k k1 k2 hs => ?_
    obtain ⟨j, hj, rfl⟩ := (sat_strm h _).mp hs
    rcases Nat.lt_or_ge j i with z | z
    · have := h2 j z; omega
    · have := Nat.mul_le_mul_right (9 + bl many) z; omega
  · rw [if_neg hi]
    refine fstAt_no fun k k1 hs => ?_
    obtain ⟨j, hj, rfl⟩ := (sat_strm h _).mp hs
    have := h2 j (by omega); omega
end
section
variable [Tabs]
variable {S : Store} {l m : List Bool}
theorem number_ok {x a b : Int} (h : clS S.length S = true) : m_is_number [.int x, .int a, .int b] S = .ok (.bl (decide (a ≤ x ∧ x ≤ b))) S := by
  refine retV_id ?_ h rfl
  by_cases h1 : a ≤ x
  · simp [runF, b_is_number, dIsInst, tyName, isT, h1]
  · simp [runF, b_is_number, dIsInst, tyName, isT, h1]
theorem are_bits_ok (h : clS S.length S = true) : m_are_bits [bs l] S = .ok (.bl true) S := by
  have h2 : (mAll false (mSrc (mVar 0)) (gN 1) e_are_bits_1 [1]) [some (bs l), none] S = .ok (.bl true) S := by
    refine all_ok (xs := l.map fun b => bs [b]) ?_ (all_map (fun b => bs [b]) l fun b hb => ⟨_, rfl, ?_⟩)
    · rw [x_mSrc, var_ok (d := bs l) rfl, Res.bind_ok, bs_items]; rfl
    · exact bin_ok (var_ok rfl) (v := bs [false, true]) (by rw [x_mC, bs_01]) (bs_in b)
  have h1 : (mCall dIsInst (mCons (mVar 0) (mCons (mC (.ty "str")) mNil))) [some (bs l), none] S = .ok (.bl true) S := call_ok (cons_ok (var_ok rfl) (one_ok rfl)) rfl
  refine ret_fn h ?_ rfl
  show (mAndV _ _) [some (bs l), none] S = _
  rw [x_mAndV, h1, Res.bind_ok]
  exact h2
theorem read_ok (hS : clS S.length S = true) (many : Nat) (cs : List (List Bool)) (h1 : 1 ≤ many) (h4 : many ≤ 400) (hc : AllOnes many cs) (hn : cs.length ≤ 20) :
    m_read [bs (strm cs), .int many] S = .ok (.tup ((cs.filterMap (parse many)).map uD)) S := by
  have hlen := strm_len hc
  have hb : bl many ≤ 500 ∧ 9 ≤ bl many := by unfold bl; omega
  have hll : (strm cs).length ≤ 12000 := by
    rw [hlen]
    have := Nat.mul_le_mul hn (show 9 + bl many ≤ 509 by omega)
    omega
  have hcl : ∀ us : List (Nat × List Bool), clS (S ++ [OB.lst (us.map uD)]).length (S ++ [OB.lst (us.map uD)]) = true := by
    intro us
    have a1 : ∀ n, cls n (us.map uD) = true := by
      intro n
      induction us with
      | nil => rfl
      | cons u us ih => simp only [List.map_cons, cls, ih, Bool.and_true]; rfl
    exact clS_push hS (a1 _)
  -- one turn and the next
  have loop : ∀ (k i N : Nat) (o : Option D), cs.length - i = k → i ≤ cs.length → k < N → ∃ e', whileM t_read_3 l_read_2 N [some (bs (strm cs)), some (.int many), some (.loc S.length), some (.int (plc (if i < cs.length then some (i * (9 + bl many)) else none))), o] (S ++ [OB.lst (((cs.take i).filterMap (parse many)).map uD)]) =
      some (.nx, [some (bs (strm cs)), some (.int many), some (.loc S.length), some (.int (-1)), e'], S ++ [OB.lst ((cs.filterMap (parse many)).map uD)]) := by
    intro k
    induction k with
    | zero =>
      intro i N o hk hi hN
      obtain ⟨N, rfl⟩ : ∃ M, N = M + 1 := ⟨N - 1, by omega⟩
      have : i = cs.length := by omega
      subst this
      rw [if_neg (by omega), List.take_length]
      exact ⟨o, whl_no (b_ok (bin_ok (var_ok rfl) rfl x_ge))⟩
    | succ k ih =>
      intro i N o hk hi hN
      obtain ⟨N, rfl⟩ : ∃ M, N = M + 1 := ⟨N - 1, by omega⟩
      have hil : i < cs.length := by omega
      have hO := hc cs[i] (List.getElem_mem hil)
      obtain ⟨e', he⟩ := ih (i + 1) N (some (oD (parse many cs[i]))) (by omega) hil (by omega)
      refine ⟨e', (whl_go (S1 := S ++ [OB.lst (((cs.take i).filterMap (parse many)).map uD)]) ?_ ?_).trans he⟩
      · rw [if_pos hil]
        refine b_ok (bin_ok (var_ok rfl) rfl (x_ge.trans ?_))
        rw [decide_eq_true]
        show (0 : Int) ≤ ((i * (9 + bl many) : Nat) : Int)
        omega
      rw [if_pos hil]
      generalize hus : (cs.take i).filterMap (parse many) = us
      have hul : us.length ≤ 20 := by
        have := List.length_filterMap_le (parse many) (cs.take i)
        rw [hus, List.length_take] at this
        omega
      have hd : ((strm cs).drop (i * (9 + bl many) + 9)).take (bl many) = cs[i] := by
        rw [← List.drop_drop, strm_drop hc i (by omega), List.drop_eq_getElem_cons hil, strm_cons, List.drop_append, show (9 : Nat) - mark.length = 0 from rfl, List.drop_zero, show List.drop 9 mark = [] from rfl, List.nil_append, ← hO.1, List.take_append, Nat.sub_self, List.take_zero, List.append_nil, List.take_length]
      have he2 : i * (9 + bl many) + 9 + bl many = (i + 1) * (9 + bl many) := by rw [Nat.succ_mul]; omega
      have hle : (i + 1) * (9 + bl many) ≤ (strm cs).length := by rw [hlen]; exact Nat.mul_le_mul_right _ hil
      have hu := unit_in_ok (S := S ++ [OB.lst (us.map uD)]) (hcl us) (strm cs) (i * (9 + bl many) + 9) many h4 (by omega) (by omega) (by
        rw [he2]
        rcases Nat.lt_or_ge (i + 1) cs.length with z | z
        · exact .inr ((sat_strm hc _).mpr ⟨i + 1, z, rfl⟩)
        · left; rw [hlen, show i + 1 = cs.length by omega]) (by rw [hd]; exact hO)
      rw [hd] at hu
      have hlm : ∀ (e : M.Env) (S : Store), mCall dLen (mCons (mC (.str "000000001")) mNil) e S = .ok (.int 9) S := fun e S => call_ok (one_ok (d := bs mark) (by rw [x_mC, bs_mark])) (bs_len (by decide))
      have hfind : ∀ (lo : Nat) (S : Store) (o1 o2 o3 : Option D), lo ≤ (i + 1) * (9 + bl many) → (∀ j, j < i + 1 → j * (9 + bl many) < lo) → ∀ p : Int, p + 1 = (lo : Int) →
          (sSet (gN 3) (mMeth "str" (gStr hFind) (mVar 0) (mCons (mC (.str "000000001")) (mCons (mBin dAdd (mVar 3) (mC (.int 1))) mNil)))) [some (bs (strm cs)), o1, o2, some (.int p), o3] S =
            some (.nx, [some (bs (strm cs)), o1, o2, some (.int (plc (if i + 1 < cs.length then some ((i + 1) * (9 + bl many)) else none))), o3], S) := by
        intro lo S o1 o2 o3 l1 l2 p hp
        have q := bs_find (S := S) (l := strm cs) (m := mark) (by decide) lo
        rw [fst_strm hc (i + 1) lo l1 l2] at q
        refine set_ok (str_ok rfl (x := mk (cod (strm cs))) (var_ok rfl) (cons_ok (d := bs mark) (by rw [x_mC, bs_mark]) (one_ok (d := .int (lo : Int)) (bin_ok (var_ok rfl) rfl (x_add.trans ?_)))) q)
        rw [hp]
      have hlt : ∀ j, j < i + 1 → j * (9 + bl many) < i * (9 + bl many) + 1 := fun j hj => by
        have := Nat.mul_le_mul_right (9 + bl many) (show j ≤ i by omega); omega
      have hlt2 : ∀ j, j < i + 1 → j * (9 + bl many) < (i + 1) * (9 + bl many) := fun j hj => by
        rw [Nat.succ_mul]; have := hlt j hj; omega
      unfold l_read_2
      have s1 : (sSet (gN 4) (mCallF 3 m_unit_in (mCons (mVar 0) (mCons (mBin dAdd (mVar 3) (mCall dLen (mCons (mC (.str "000000001")) mNil))) (mCons (mVar 1) mNil))))) [some (bs (strm cs)), some (.int many), some (.loc S.length), some (.int (plc (some (i * (9 + bl many))))), o] (S ++ [OB.lst (us.map uD)]) =
          some (.nx, [some (bs (strm cs)), some (.int many), some (.loc S.length), some (.int (plc (some (i * (9 + bl many))))), some (oD (parse many cs[i]))], S ++ [OB.lst (us.map uD)]) :=
        set_ok (callF_ok (cons_ok (var_ok rfl) (cons_ok (bin_ok (var_ok rfl) (hlm _ _) x_add) (one_ok (var_ok rfl)))) hu)
      rw [seq_nx s1]
      have htake : cs.take (i + 1) = cs.take i ++ [cs[i]] := by rw [List.take_succ, List.getElem?_eq_getElem hil]; rfl
      cases hp : parse many cs[i] with
      | none =>
        have : (mB (mBin dIsNot (mVar 4) (mC .non))) [some (bs (strm cs)), some (.int many), some (.loc S.length), some (.int (plc (some (i * (9 + bl many))))), some .non] (S ++ [OB.lst (us.map uD)]) = .ok false (S ++ [OB.lst (us.map uD)]) := b_ok (bin_ok (var_ok rfl) rfl rfl)
        rw [htake, List.filterMap_append, hus]
        simp only [List.filterMap_cons, hp, List.filterMap_nil, List.append_nil]
        exact (seq_nx (if_skip this)).trans (hfind (i * (9 + bl many) + 1) _ _ _ _ (by rw [Nat.succ_mul]; omega) hlt _ rfl)
      | some u =>
        have : (mB (mBin dIsNot (mVar 4) (mC .non))) [some (bs (strm cs)), some (.int many), some (.loc S.length), some (.int (plc (some (i * (9 + bl many))))), some (uD u)] (S ++ [OB.lst (us.map uD)]) = .ok true (S ++ [OB.lst (us.map uD)]) := b_ok (bin_ok (var_ok rfl) rfl rfl)
        rw [htake, List.filterMap_append, hus]
        simp only [List.filterMap_cons, hp, List.filterMap_nil, List.map_append, List.map_cons, List.map_nil]
        have s2 : b_read_1 [some (bs (strm cs)), some (.int many), some (.loc S.length), some (.int (plc (some (i * (9 + bl many))))), some (uD u)] (S ++ [OB.lst (us.map uD)]) =
            some (.nx, [some (bs (strm cs)), some (.int many), some (.loc S.length), some (.int ((((i + 1) * (9 + bl many) : Nat) : Int) - 1)), some (uD u)], S ++ [OB.lst (us.map uD ++ [uD u])]) := by
          unfold b_read_1
          refine (seq_nx (expr_ok (meth_ok (var_ok rfl) rcv_last (one_ok (var_ok rfl)) (app_last (by rw [List.length_map]; omega))))).trans ?_
          refine aug_ok (x := (i * (9 + bl many) : Nat)) rfl (bin_ok (bin_ok (hlm _ _) (callF_ok (one_ok (var_ok rfl)) (body_length_ok ?_ many)) x_add) rfl x_sub) ?_
          · have := hcl (us ++ [u]); rwa [List.map_append] at this
          · rw [Nat.succ_mul]; omega
        exact (seq_nx ((if_t this).trans s2)).trans (hfind ((i + 1) * (9 + bl many)) _ _ _ _ (Nat.le_refl _) hlt2 _ (by omega))
  have hs0 : Nat.lt cs.length (2 ^ 40) := by
    show cs.length < 2 ^ 40
    omega
  obtain ⟨e', he⟩ := loop cs.length 0 (2 ^ 40) none (by omega) (by omega) hs0
  have c1 : (mNot (mTru (mCallF 1 m_are_bits (mCons (mVar 0) mNil)))) [some (bs (strm cs)), some (.int many), none, none, none] S = .ok false S := by
    have : mCallF 1 m_are_bits (mCons (mVar 0) mNil) [some (bs (strm cs)), some (.int many), none, none, none] S = .ok (.bl true) S := callF_ok (one_ok (var_ok rfl)) (are_bits_ok hS)
    rw [x_mNot, x_mTru, this]; rfl
  have c2 : (mNot (mTru (mCallF 3 m_is_number (mCons (mVar 1) (mCons (mC (.int 1)) (mCons (mC (.int 400)) mNil)))))) [some (bs (strm cs)), some (.int many), none, none, none] S = .ok false S := by
    have : mCallF 3 m_is_number (mCons (mVar 1) (mCons (mC (.int 1)) (mCons (mC (.int 400)) mNil))) [some (bs (strm cs)), some (.int many), none, none, none] S = .ok (.bl true) S := by
      refine callF_ok (cons_ok (var_ok rfl) (cons_ok rfl (one_ok rfl))) ((number_ok hS).trans ?_)
      rw [decide_eq_true (by omega)]
    rw [x_mNot, x_mTru, this]; rfl
  have q := bs_find0 (S := S ++ [OB.lst []]) (l := strm cs) (m := mark) (by decide)
  rw [fst_strm hc 0 0 (by omega) (by omega)] at q
  have s3 : (sPar 2 3 (mCons (asL (mLst mNil)) (mCons (mMeth "str" (gStr hFind) (mVar 0) (mCons (mC (.str "000000001")) mNil)) mNil))) [some (bs (strm cs)), some (.int many), none, none, none] S =
      some (.nx, [some (bs (strm cs)), some (.int many), some (.loc S.length), some (.int (plc (if 0 < cs.length then some (0 * (9 + bl many)) else none))), none], S ++ [OB.lst []]) :=
    par_ok (asL_ok (lst_ok rfl (Nat.zero_le _))) (str_ok rfl (x := mk (cod (strm cs))) (var_ok rfl) (one_ok (d := bs mark) (by rw [x_mC, bs_mark])) q)
  refine (retV_ok (d := .tup ((cs.filterMap (parse many)).map uD)) (d' := .tup ((cs.filterMap (parse many)).map uD)) (S' := S ++ [OB.lst ((cs.filterMap (parse many)).map uD)])
    (run_rt (e' := [some (bs (strm cs)), some (.int many), some (.loc S.length), some (.int (-1)), e']) ?_) (by simpa using hS) ?_).trans (by simp)
  · show b_read [some (bs (strm cs)), some (.int many), none, none, none] S = _
    unfold b_read
    rw [seq_nx (if_skip c1), seq_nx (if_skip c2), seq_nx s3]
    have he : whileM t_read_3 l_read_2 (2 ^ 40) [some (bs (strm cs)), some (.int many), some (.loc S.length), some (.int (plc (if 0 < cs.length then some (0 * (9 + bl many)) else none))), none] (S ++ [OB.lst []]) = _ := he
    refine (seq_nx he).trans (ret_ok (call_ok (one_ok (var_ok rfl)) ?_))
    simp [dTuple, seqOf, lstOf]
  · have a1 : ∀ (us : List (Nat × List Bool)) n, cls n (us.map uD) = true := by
      intro us n
      induction us with
      | nil => rfl
      | cons u us ih => simp only [List.map_cons, cls, ih, Bool.and_true]; rfl
    simp only [fz, cl, a1, if_true]
end
end M.Mk


set_option Elab.async false
set_option linter.all false
set_option maxRecDepth 100000
set_option maxHeartbeats 4000000
/-! Bodies and what they tell, plainly. -/
namespace M.Mk
open PySem PySem.Spec PyProof.Rows L2 M
section
variable [Tabs]
theorem flat_get {α : Type} (w : Nat) (f : Nat → List α) : ∀ (k : Nat), (∀ i < k, (f i).length = w) → ∀ i j, i < k → j < w → ((List.range k).map f).flatten[w * i + j]? = (f i)[j]?
  | 0, _, i, _, h, _ => by omega
  | k + 1, hf, i, j, hi, hj => by
    have hl : ((List.range k).map f).flatten.length = w * k := by
      have : ∀ k', (∀ i < k', (f i).length = w) → ((List.range k').map f).flatten.length = w * k' := by
        intro k'
        induction k' with
        | zero => intro _; simp
        | succ k' ih =>
          intro h
          rw [List.range_succ, List.map_append, List.flatten_append, List.length_append, ih fun i hi => h i (by omega)]
          simp [h k' (by omega), Nat.mul_succ]
      exact this k fun i hi => hf i (by omega)
    rw [List.range_succ, List.map_append, List.flatten_append]
    by_cases h : i < k
    · rw [List.getElem?_append_left (by
        rw [hl]
        have := Nat.mul_le_mul_left w (show i + 1 ≤ k from h)
        rw [Nat.mul_succ] at this; omega)]
      exact flat_get w f k (fun i hi => hf i (by omega)) i j h hj
    · have : i = k := by omega
      subst this
      rw [List.getElem?_append_right (by rw [hl]; omega), hl, show w * i + j - w * i = j by omega]
      simp
theorem grp_get {k : Nat} {l : List Bool} (h : 7 * k ≤ l.length) {i j : Nat} (hi : i < k) (hj : j < 8) : (grp k l)[8 * i + j]? = if j = 7 then some true else l[7 * i + j]? := by
  have hf : ∀ i < k, ((l.drop (7 * i)).take 7 ++ [true]).length = 8 := fun i hi => by simp; omega
  unfold grp
  rw [flat_get 8 _ k hf i j hi hj]
  have h7 : ((l.drop (7 * i)).take 7).length = 7 := by simp; omega
  by_cases hj7 : j = 7
  · rw [if_pos hj7, List.getElem?_append_right (by omega), h7, hj7]; rfl
  · rw [if_neg hj7, List.getElem?_append_left (by omega), List.getElem?_take, if_pos (by omega), List.getElem?_drop]
theorem ung_get {k : Nat} {c : List Bool} (h : 8 * k ≤ c.length) {i j : Nat} (hi : i < k) (hj : j < 7) : (ung k c)[7 * i + j]? = c[8 * i + j]? := by
  have hf : ∀ i < k, ((c.drop (8 * i)).take 7).length = 7 := fun i hi => by simp; omega
  unfold ung
  rw [flat_get 7 _ k hf i j hi hj, List.getElem?_take, if_pos hj, List.getElem?_drop]
theorem ext7 {a b : List Bool} {k : Nat} (ha : a.length = 7 * k) (hb : b.length = 7 * k) (h : ∀ i j, i < k → j < 7 → a[7 * i + j]? = b[7 * i + j]?) : a = b := by
  apply List.ext_getElem?
  intro n
  by_cases hn : n < 7 * k
  · have := h (n / 7) (n % 7) (by omega) (by omega)
    rwa [show 7 * (n / 7) + n % 7 = n by omega] at this
  · rw [List.getElem?_eq_none (by omega), List.getElem?_eq_none (by omega)]
theorem ung_grp {k : Nat} {l : List Bool} (h : l.length = 7 * k) : ung k (grp k l) = l := by
  have hg := grp_len k l (by omega)
  refine ext7 (ung_len k _ (by omega)) h fun i j hi hj => ?_
  rw [ung_get (by omega) hi hj, grp_get (by omega) hi (by omega), if_neg (by omega)]
theorem ones_bdy (n : Nat) (p : List Bool) : Ones p.length (bdy n p) := by
  refine ⟨bdy_len n p, fun g hg => ?_⟩
  unfold bdy
  rw [grp_get (by rw [datum_len]; unfold dl; omega) hg (by omega), if_pos rfl]
theorem ung_bdy (n : Nat) (p : List Bool) : ung ((p.length + 22) / 7) (bdy n p) = datum n p := ung_grp (by rw [datum_len]; unfold dl; omega)
theorem datum_told (n : Nat) (p : List Bool) : (datum n p).take (8 + p.length) = told n p := by
  have := told_len n p
  unfold datum
  rw [List.append_assoc, List.take_append, show 8 + p.length - (told n p).length = 0 by omega, List.take_zero, List.append_nil, List.take_of_length_le (by omega)]
theorem datum_behind (n : Nat) (p : List Bool) : (datum n p).drop (8 + p.length) = sg8 (crc (told n p)) ++ List.replicate (dl p.length - (p.length + 16)) false := by
  have := told_len n p
  unfold datum
  rw [List.append_assoc, List.drop_append, show 8 + p.length - (told n p).length = 0 by omega, List.drop_zero, List.drop_eq_nil_of_le (by omega), List.nil_append]
theorem parse_bdy {n : Nat} (hn : n < 256) (p : List Bool) : parse p.length (bdy n p) = some (n, p) := by
  unfold parse
  dsimp only
  rw [ung_bdy, datum_told, datum_behind]
  have e : (sg8 (crc (told n p)) ++ List.replicate (dl p.length - (p.length + 16)) false).length - 8 = dl p.length - (p.length + 16) := by
    rw [List.length_append, sg8_len, List.length_replicate]; omega
  rw [e, if_pos rfl]
  have e1 : (told n p).take 8 = wr n 8 := by
    unfold told
    rw [List.take_append, wr_len, Nat.sub_self, List.take_zero, List.append_nil, List.take_of_length_le (by rw [wr_len]; omega)]
  have e2 : (told n p).drop 8 = p := by
    unfold told
    rw [List.drop_append, wr_len, Nat.sub_self, List.drop_zero, List.drop_eq_nil_of_le (by rw [wr_len]; omega), List.nil_append]
  rw [e1, e2, num_wr n hn]
/-- the place in a body of a place of its data -/
def plc7 (d : Nat) : Nat := 8 * (d / 7) + d % 7
theorem plc7_mem {ps : List Nat} {i j : Nat} (hj : j < 7) : 8 * i + j ∈ ps.map plc7 ↔ 7 * i + j ∈ ps := by
  constructor
  · intro h
    obtain ⟨d, hd, e⟩ := List.mem_map.mp h
    unfold plc7 at e
    have : d = 7 * i + j := by omega
    rwa [this] at hd
  · intro h
    refine List.mem_map.mpr ⟨_, h, ?_⟩
    unfold plc7; omega
theorem plc7_no {ps : List Nat} {g : Nat} : 8 * g + 7 ∉ ps.map plc7 := by
  intro h
  obtain ⟨d, _, e⟩ := List.mem_map.mp h
  unfold plc7 at e
  omega
theorem ones_flp {many : Nat} {c : List Bool} (h : Ones many c) (ps : List Nat) : Ones many (flp c (ps.map plc7)) := by
  refine ⟨by rw [flp_len]; exact h.1, fun g hg => ?_⟩
  rw [flp_get, h.2 g hg, decide_eq_false plc7_no]; rfl
theorem ung_flp {k : Nat} {c : List Bool} (h : c.length = 8 * k) (ps : List Nat) : ung k (flp c (ps.map plc7)) = flp (ung k c) ps := by
  have h1 := ung_len k c (by omega)
  refine ext7 (k := k) (ung_len k _ (by rw [flp_len]; omega)) (by rw [flp_len, h1]) fun i j hi hj => ?_
  rw [ung_get (by rw [flp_len]; omega) hi hj, flp_get, flp_get, ung_get (by omega) hi hj]
  congr 2
  funext b
  rw [decide_eq_decide.mpr (plc7_mem hj)]
theorem flp_take (l : List Bool) (ps : List Nat) (k : Nat) : (flp l ps).take k = flp (l.take k) ps := by
  apply List.ext_getElem?
  intro i
  rw [List.getElem?_take, flp_get, flp_get, List.getElem?_take]
  by_cases h : i < k
  · rw [if_pos h, if_pos h]
  · rw [if_neg h, if_neg h]; rfl
/-- turned in one to three places of its data -/
theorem parse_flp {n : Nat} (p : List Bool) (hp : p.length ≤ 110) {ps : List Nat} (hd : ps.Nodup) (hl : ∀ q ∈ ps, q < p.length + 16) (h1 : 1 ≤ ps.length) (h3 : ps.length ≤ 3) : parse p.length (flp (bdy n p) (ps.map plc7)) = none := by
  unfold parse
  rw [ung_flp (by rw [bdy_len]; unfold bl; omega), ung_bdy]
  dsimp only
  rw [if_neg]
  intro e
  have e1 : (flp (datum n p) ps).take (p.length + 16) = (flp (datum n p) ps).take (8 + p.length) ++ sg8 (crc ((flp (datum n p) ps).take (8 + p.length))) := by
    have : (flp (datum n p) ps).take (p.length + 16) = (flp (datum n p) ps).take (8 + p.length) ++ ((flp (datum n p) ps).drop (8 + p.length)).take 8 := by
      have h := List.take_add (l := flp (datum n p) ps) (i := 8 + p.length) (j := 8)
      rwa [show 8 + p.length + 8 = p.length + 16 by omega] at h
    have h8 : ∀ (r : B8) (z : List Bool), List.take 8 (sg8 r ++ z) = sg8 r := fun r z => rfl
    rw [this, e, h8]
  have e2 : crc ((flp (datum n p) ps).take (p.length + 16)) = 0#8 := by rw [e1, crc_own]
  have e3 : (datum n p).take (p.length + 16) = told n p ++ sg8 (crc (told n p)) := by
    have := told_len n p
    unfold datum
    rw [List.take_append, List.take_of_length_le (by rw [List.length_append, sg8_len]; omega), List.length_append, sg8_len, this, show p.length + 16 - (p.length + 8 + 8) = 0 by omega, List.take_zero, List.append_nil]
  rw [flp_take, e3] at e2
  refine flp_ne (l := told n p ++ sg8 (crc (told n p))) (crc_own _) ?_ e2
  rw [List.length_append, told_len, sg8_len]
  exact few_ne (by omega) hd (fun q hq => by have := hl q hq; omega) h1 h3
end
end M.Mk


set_option Elab.async false
set_option linter.all false
set_option maxRecDepth 100000
set_option maxHeartbeats 4000000
/-! Any bits read. -/
namespace M.Mk
open PySem PySem.Spec PyProof.Rows L2 M
abbrev U := Nat × List Bool
section
variable [Tabs]
open Classical in
/-- the unit that is taken at a place -/
noncomputable def takes (many : Nat) (l : List Bool) (p : Nat) : Option U :=
  if p + bl many ≤ l.length ∧ (p + bl many = l.length ∨ Sat l mark (p + bl many)) ∧ Ones many ((l.drop p).take (bl many)) then parse many ((l.drop p).take (bl many)) else none
/-- what is read from a mark on -/
noncomputable def rd (many : Nat) (x : List Bool) : Nat → Option Nat → List U
  | _, none => []
  | 0, some _ => []
  | f + 1, some p => match takes many x (p + 9) with
    | some u => u :: rd many x f (fstAt x mark (p + 9 + bl many))
    | none => rd many x f (fstAt x mark (p + 1))
/-- the kept ones -/
def keep (K : Nat → Bool) : Nat → List U → List U
  | _, [] => []
  | k, u :: r => if K k then u :: keep K (k + 1) r else keep K (k + 1) r
theorem keep_nil {K : Nat → Bool} : ∀ (l : List U) (k : Nat), (∀ i, i < l.length → K (k + i) = false) → keep K k l = []
  | [], _, _ => rfl
  | u :: r, k, h => by
    unfold keep
    have h0 := h 0 (by simp)
    rw [Nat.add_zero] at h0
    rw [h0, if_neg (by decide)]
    exact keep_nil r (k + 1) fun i hi => by
      have := h (i + 1) (by simp only [List.length_cons]; omega)
      rwa [show k + (i + 1) = k + 1 + i by omega] at this
theorem keep_congr {K K' : Nat → Bool} : ∀ (l : List U) (k : Nat), (∀ i, i < l.length → K (k + i) = K' (k + i)) → keep K k l = keep K' k l
  | [], _, _ => rfl
  | u :: r, k, h => by
    have h0 := h 0 (by simp)
    rw [Nat.add_zero] at h0
    have ih := keep_congr (K := K) (K' := K') r (k + 1) fun i hi => by
      have := h (i + 1) (by simp only [List.length_cons]; omega)
      rwa [show k + (i + 1) = k + 1 + i by omega] at this
    unfold keep
    rw [h0, ih]
theorem keep_one {K K' : Nat → Bool} : ∀ (l : List U) (k j : Nat) (u : U), l[j]? = some u → K (k + j) = true → (∀ i, i < j → K (k + i) = false) → (∀ i, i ≤ j → K' (k + i) = false) → (∀ i, j < i → i < l.length → K' (k + i) = K (k + i)) → keep K k l = u :: keep K' k l
  | [], _, j, u, h, _, _, _, _ => by simp at h
  | v :: r, k, 0, u, h, h1, _, h3, h4 => by
    simp only [List.getElem?_cons_zero, Option.some.injEq] at h
    subst h
    have a := h3 0 (Nat.le_refl _)
    rw [Nat.add_zero] at a h1
    unfold keep
    rw [h1, if_pos rfl, a, if_neg (by decide)]
    congr 1
    exact keep_congr r (k + 1) fun i hi => by
      have := h4 (i + 1) (by omega) (by simp only [List.length_cons]; omega)
      rw [show k + (i + 1) = k + 1 + i by omega] at this
      exact this.symm
  | v :: r, k, j + 1, u, h, h1, h2, h3, h4 => by
    have a := h2 0 (by omega)
    have b := h3 0 (by omega)
    rw [Nat.add_zero] at a b
    have e : ∀ i, k + (i + 1) = k + 1 + i := fun i => by omega
    have ih := keep_one (K := K) (K' := K') r (k + 1) j u (by simpa using h) (by rw [← e]; exact h1) (fun i hi => by rw [← e]; exact h2 (i + 1) (by omega)) (fun i hi => by rw [← e]; exact h3 (i + 1) (by omega)) fun i hi hl => by
      rw [← e]; exact h4 (i + 1) (by omega) (by simp only [List.length_cons]; omega)
    unfold keep
    rw [a, if_neg (by decide), b, if_neg (by decide)]
    exact ih
theorem keep_all : ∀ (l : List U) (k : Nat) {K : Nat → Bool}, (∀ i, i < l.length → K (k + i) = true) → keep K k l = l
  | [], _, _, _ => rfl
  | u :: r, k, K, h => by
    unfold keep
    have h0 := h 0 (by simp)
    rw [Nat.add_zero] at h0
    rw [h0, if_pos rfl, keep_all r (k + 1) fun i hi => by
      have := h (i + 1) (by simp only [List.length_cons]; omega)
      rwa [show k + (i + 1) = k + 1 + i by omega] at this]
/-- what is read: the kept ones, where the other marks are not taken -/
theorem rd_keep {many : Nat} {x : List Bool} {us : List U} {pos : Nat → Nat} {K : Nat → Bool} (hp : ∀ j, pos j + (9 + bl many) = pos (j + 1))
    (h1 : ∀ j u, us[j]? = some u → K j = true → Sat x mark (pos j) ∧ takes many x (pos j + 9) = some u)
    (h2 : ∀ p, Sat x mark p → (∀ j, j < us.length → K j = true → p ≠ pos j) → takes many x (p + 9) = none) :
    ∀ (f lo : Nat), x.length + 1 ≤ lo + f → rd many x f (fstAt x mark lo) = keep (fun j => K j && decide (lo ≤ pos j)) 0 us := by
  have mono : ∀ i j, i < j → pos i + (9 + bl many) ≤ pos j := by
    intro i j h
    obtain ⟨d, rfl⟩ : ∃ d, j = i + 1 + d := ⟨j - (i + 1), by omega⟩
    clear h
    induction d with
    | zero => have := hp i; rw [Nat.add_zero]; omega
    | succ d ih => have := hp (i + 1 + d); rw [show i + 1 + (d + 1) = i + 1 + d + 1 by omega]; omega
  intro f
  induction f with
  | zero =>
    intro lo hlo
    have hno : fstAt x mark lo = none := fstAt_no fun k hk hs => by
      have := hs.le (by decide)
      omega
    rw [hno]
    unfold rd
    refine (keep_nil us 0 fun i hi => ?_).symm
    rw [Nat.zero_add]
    cases hK : K i with
    | false => rfl
    | true =>
      have hs := (h1 i us[i] (List.getElem?_eq_getElem hi) hK).1
      have := hs.le (by decide)
      rw [decide_eq_false (by omega)]; rfl
  | succ f ih =>
    intro lo hlo
    cases hf : fstAt x mark lo with
    | none =>
      unfold rd
      refine (keep_nil us 0 fun i hi => ?_).symm
      rw [Nat.zero_add]
      cases hK : K i with
      | false => rfl
      | true =>
        have hs := (h1 i us[i] (List.getElem?_eq_getElem hi) hK).1
        have := fstAt_none (by decide) hf (pos i)
        rw [decide_eq_false (fun hle => this hle hs)]; rfl
    | some p =>
      obtain ⟨k1, k2, k3⟩ := fstAt_some hf
      by_cases hj : ∃ j, j < us.length ∧ K j = true ∧ p = pos j
      · obtain ⟨j, hjl, hjK, rfl⟩ := hj
        have ht := (h1 j us[j] (List.getElem?_eq_getElem hjl) hjK).2
        unfold rd
        rw [ht]
        dsimp only
        rw [show pos j + 9 + bl many = pos j + (9 + bl many) by omega, ih (pos j + (9 + bl many)) (by omega)]
        refine (keep_one us 0 j us[j] (List.getElem?_eq_getElem hjl) ?_ ?_ ?_ ?_).symm
        · rw [Nat.zero_add, hjK, decide_eq_true k1]; rfl
        · intro i hi
          rw [Nat.zero_add]
          cases hK : K i with
          | false => rfl
          | true =>
            have hs := (h1 i us[i] (List.getElem?_eq_getElem (by omega)) hK).1
            have hm := mono i j hi
            rw [decide_eq_false (fun hle => k3 (pos i) hle (by omega) hs)]; rfl
        · intro i hi
          rw [Nat.zero_add]
          have : ¬ pos j + (9 + bl many) ≤ pos i := by
            rcases Nat.lt_or_eq_of_le hi with h | h
            · have := mono i j h; omega
            · rw [h]; omega
          rw [decide_eq_false this, Bool.and_false]
        · intro i hi hl
          rw [Nat.zero_add]
          have := mono j i hi
          rw [decide_eq_true this, decide_eq_true (show lo ≤ pos i by omega)]
      · have ht := h2 p k2 fun j hjl hjK e => hj ⟨j, hjl, hjK, e⟩
        unfold rd
        rw [ht]
        dsimp only
        rw [ih (p + 1) (by omega)]
        refine keep_congr us 0 fun i hi => ?_
        rw [Nat.zero_add]
        cases hK : K i with
        | false => rfl
        | true =>
          have hs := (h1 i us[i] (List.getElem?_eq_getElem hi) hK).1
          have hne : p ≠ pos i := fun e => hj ⟨i, hi, hK, e⟩
          congr 1
          rw [decide_eq_decide]
          constructor
          · intro h; omega
          · intro h
            rcases Nat.lt_or_ge (pos i) p with z | z
            · exact absurd hs (k3 (pos i) h z)
            · omega
variable {S : Store}
theorem all_mapB {α : Type} {t : MG} {me : ME} {e : M.Env} {xs : List D} (ι : α → D) (f : α → Bool) : ∀ (as : List α), (∀ x ∈ as, ∃ e1, t (ι x) e S = some e1 ∧ me e1 S = .ok (.bl (f x)) S) → allM ⟨xs, []⟩ t me e false (as.map ι) S = .ok (.bl (as.all f)) S
  | [], _ => by simp [allM]
  | d :: ds, h => by
    obtain ⟨e1, h1, h2⟩ := h d (by simp)
    have ih := all_mapB (xs := xs) ι f ds fun d hd => h d (List.mem_cons_of_mem _ hd)
    cases hf : f d <;> simp [allM, h1, h2, hf, ih]
theorem unit_in_gen (hS : clS S.length S = true) (l : List Bool) (place many : Nat) (hm : many ≤ 400) (hl : l.length ≤ 20000) (hpl : place ≤ 100000) : m_unit_in [bs l, .int place, .int many] S = .ok (oD (takes many l place)) S := by
  have s1 : (sSet (gN 3) (mBin dAdd (mVar 1) (mCallF 1 m_body_length (mCons (mVar 2) mNil)))) [some (bs l), some (.int place), some (.int many), none, none, none, none, none, none, none] S = some (.nx, [some (bs l), some (.int place), some (.int many), some (.int ((place + bl many : Nat) : Int)), none, none, none, none, none, none], S) :=
    set_ok (bin_ok (var_ok rfl) (callF_ok (one_ok (var_ok rfl)) (body_length_ok hS many)) x_add)
  have a1 : (mB (mBin dGt (mVar 3) (mCall dLen (mCons (mVar 0) mNil)))) [some (bs l), some (.int place), some (.int many), some (.int ((place + bl many : Nat) : Int)), none, none, none, none, none, none] S = .ok (decide (l.length < place + bl many)) S := by
    refine b_ok (bin_ok (var_ok rfl) (call_ok (one_ok (var_ok rfl)) (bs_len (by omega))) (x_gt.trans ?_))
    congr 2
    rw [decide_eq_decide]; omega
  have a2 : (mB (mBin dLt (mVar 3) (mCall dLen (mCons (mVar 0) mNil)))) [some (bs l), some (.int place), some (.int many), some (.int ((place + bl many : Nat) : Int)), none, none, none, none, none, none] S = .ok (decide (place + bl many < l.length)) S := by
    refine b_ok (bin_ok (var_ok rfl) (call_ok (one_ok (var_ok rfl)) (bs_len (by omega))) (x_lt.trans ?_))
    congr 2
    rw [decide_eq_decide]; omega
  have a3 : (mMeth "str" (gStr hStarts) (mVar 0) (mCons (mC (.str "000000001")) (mCons (mVar 3) mNil))) [some (bs l), some (.int place), some (.int many), some (.int ((place + bl many : Nat) : Int)), none, none, none, none, none, none] S = .ok (.bl (decide (Sat l mark (place + bl many)))) S :=
    str_ok rfl (x := mk (cod l)) (var_ok rfl) (cons_ok (d := bs mark) (by rw [x_mC, bs_mark]) (one_ok (var_ok rfl))) (bs_starts _ (.inr (by decide)))
  have out : ∀ e', takes many l place = none → b_unit_in [some (bs l), some (.int place), some (.int many), none, none, none, none, none, none, none] S = some (.rt .non, e', S) → m_unit_in [bs l, .int place, .int many] S = .ok (oD (takes many l place)) S := by
    intro e' ht h
    rw [ht]
    exact retV_id (run_rt (e' := e') h) hS rfl
  by_cases hfit : place + bl many ≤ l.length ∧ (place + bl many = l.length ∨ Sat l mark (place + bl many))
  · generalize hc : (l.drop place).take (bl many) = c
    have hcl : c.length = bl many := by rw [← hc, List.length_take, List.length_drop]; omega
    generalize hG : (many + 22) / 7 = G
    have hb : bl many = 8 * G := by unfold bl; omega
    by_cases hones : Ones many c
    · have ht : takes many l place = parse many c := by
        unfold takes
        rw [hc, if_pos ⟨hfit.1, hfit.2, hones⟩]
      have := unit_in_ok hS l place many hm hl hfit.1 hfit.2 (by rw [hc]; exact hones)
      rw [hc] at this
      rw [ht]
      exact this
    · have ht : takes many l place = none := by
        unfold takes
        rw [hc, if_neg fun z => hones z.2.2]
      have hgr : ∀ i, i < G → (l.drop (place + 8 * i)).take 8 = (c.drop (8 * i)).take 8 := by
        intro i hi
        rw [← hc, List.drop_take, List.take_take, List.drop_drop, Nat.min_eq_left (by omega)]
      have c1 : (mOr (mB (mBin dGt (mVar 3) (mCall dLen (mCons (mVar 0) mNil)))) (mAnd (mB (mBin dLt (mVar 3) (mCall dLen (mCons (mVar 0) mNil)))) (mNot (mTru (mMeth "str" (gStr hStarts) (mVar 0) (mCons (mC (.str "000000001")) (mCons (mVar 3) mNil))))))) [some (bs l), some (.int place), some (.int many), some (.int ((place + bl many : Nat) : Int)), none, none, none, none, none, none] S = .ok false S := by
        rw [x_mOr, a1, Res.bind_ok, decide_eq_false (by omega), if_neg (by decide), x_mAnd, a2, Res.bind_ok]
        rcases hfit.2 with hn | hn
        · rw [if_neg (by simp; omega)]
        · split
          · rw [x_mNot, x_mTru, a3, Res.bind_ok, decide_eq_true hn]; rfl
          · rfl
      have s2 : (sSet (gN 4) (asV (mLc (mSrcA srcR3 (mCons (mVar 1) (mCons (mVar 3) (mCons (mBin dAdd (mC (.int 7)) (mC (.int 1))) mNil)))) (gN 5) mYes e_unit_in_1 [5]))) [some (bs l), some (.int place), some (.int many), some (.int ((place + bl many : Nat) : Int)), none, none, none, none, none, none] S =
          some (.nx, [some (bs l), some (.int place), some (.int many), some (.int ((place + bl many : Nat) : Int)), some (.lst (((List.range G).map fun i => (c.drop (8 * i)).take 8).map bs)), none, none, none, none, none], S) := by
        refine set_ok (asV_ok (lc_ok (xs := rngC place 8 G) ?_ ?_ ?_))
        · refine srcA_ok (cons_ok (var_ok rfl) (cons_ok (var_ok rfl) (one_ok (bin_ok rfl rfl x_add)))) ((src_up (by decide) (by decide) (by omega) (by omega) (by omega) (by omega)).trans ?_)
          rw [hb]
          congr 3
          omega
        · rw [rngC_len]; omega
        · rw [rngC_eq, List.map_map]
          refine lc_map (f := fun i => bs ((c.drop (8 * i)).take 8)) (fun i : Nat => D.int ((place : Int) + (i : Int) * 8)) _ fun i hi => ⟨_, rfl, ?_⟩
          have hi := List.mem_range.mp hi
          have e1 : ((place : Int) + (i : Int) * 8) = ((place + 8 * i : Nat) : Int) := by omega
          rw [e1, ← hgr i hi]
          refine slice_ok (var_ok rfl) (part_ok (var_ok rfl)) (part_ok (bin_ok (bin_ok (var_ok rfl) rfl x_add) rfl x_add)) ?_
          rw [bs_slice _ _ (by omega), show (((place + 8 * i : Nat) : Int) + 7 + 1) = ((place + 8 * i : Nat) : Int) + ((8 : Nat) : Int) by omega, cut_nat]
      have c2 : (mAll false (mSrc (mVar 4)) (gN 6) e_unit_in_2 [6]) [some (bs l), some (.int place), some (.int many), some (.int ((place + bl many : Nat) : Int)), some (.lst (((List.range G).map fun i => (c.drop (8 * i)).take 8).map bs)), none, none, none, none, none] S = .ok (.bl ((List.range G).all fun i => c[8 * i + 7]?.getD false)) S := by
        refine all_ok (src_lst (var_ok rfl)) ?_
        rw [List.map_map]
        refine all_mapB (fun i => bs ((c.drop (8 * i)).take 8)) _ _ fun i hi => ⟨_, rfl, ?_⟩
        have hi := List.mem_range.mp hi
        have hg : c[8 * i + 7]? = some (c[8 * i + 7]?.getD false) := by
          rw [List.getElem?_eq_getElem (by omega)]; rfl
        refine bin_ok (bin_ok (u := bs ((c.drop (8 * i)).take 8)) (var_ok rfl) (v := .int ((7 : Nat) : Int)) rfl (bs_ix (b := c[8 * i + 7]?.getD false) (by simp; omega) ?_)) rfl (eq1_ok _)
        rw [List.getElem?_take, if_pos (by decide), List.getElem?_drop]
        exact hg
      have hfalse : ((List.range G).all fun i => c[8 * i + 7]?.getD false) = false := by
        rw [Bool.eq_false_iff]
        intro hall
        apply hones
        refine ⟨hcl, fun g hg => ?_⟩
        rw [hG] at hg
        have := List.all_eq_true.mp hall g (List.mem_range.mpr hg)
        rw [List.getElem?_eq_getElem (by omega)] at this ⊢
        exact congrArg some this
      rw [hfalse] at c2
      refine out [some (bs l), some (.int place), some (.int many), some (.int ((place + bl many : Nat) : Int)), some (.lst (((List.range G).map fun i => (c.drop (8 * i)).take 8).map bs)), none, none, none, none, none] ht ?_
      unfold b_unit_in
      rw [seq_nx s1, seq_nx (if_skip c1), seq_nx s2]
      refine seq_rt ((if_t ?_).trans (ret_ok rfl))
      rw [x_mNot, x_mTru, c2]; rfl
  · have ht : takes many l place = none := by
      unfold takes
      rw [if_neg fun z => hfit ⟨z.1, z.2.1⟩]
    refine out [some (bs l), some (.int place), some (.int many), some (.int ((place + bl many : Nat) : Int)), none, none, none, none, none, none] ht ?_
    unfold b_unit_in
    rw [seq_nx s1]
    refine seq_rt ((if_t ?_).trans (ret_ok rfl))
    rw [x_mOr, a1, Res.bind_ok]
    by_cases hlt : l.length < place + bl many
    · rw [decide_eq_true hlt, if_pos rfl]
    · rw [decide_eq_false hlt, if_neg (by decide), x_mAnd, a2, Res.bind_ok, decide_eq_true (by
        rcases Nat.lt_or_ge (place + bl many) l.length with z | z
        · exact z
        · exact absurd ⟨by omega, .inl (by omega)⟩ hfit), if_pos rfl, x_mNot, x_mTru, a3, Res.bind_ok, decide_eq_false (fun z => hfit ⟨by omega, .inr z⟩)]
      rfl
theorem cls_U (us : List U) (n : Nat) : cls n (us.map uD) = true := by
  induction us with
  | nil => rfl
  | cons u us ih => simp only [List.map_cons, cls, ih, Bool.and_true]; rfl
theorem read_gen (hS : clS S.length S = true) (many : Nat) (x : List Bool) (h1 : 1 ≤ many) (h4 : many ≤ 400) (hx : x.length ≤ 12000) :
    m_read [bs x, .int many] S = .ok (.tup ((rd many x (x.length + 1) (fstAt x mark 0)).map uD)) S := by
  have hb : bl many ≤ 500 ∧ 9 ≤ bl many := by unfold bl; omega
  have hcl : ∀ us : List U, clS (S ++ [OB.lst (us.map uD)]).length (S ++ [OB.lst (us.map uD)]) = true := fun us => clS_push hS (cls_U us _)
  have hlm : ∀ (e : M.Env) (S : Store), mCall dLen (mCons (mC (.str "000000001")) mNil) e S = .ok (.int 9) S := fun e S => call_ok (one_ok (d := bs mark) (by rw [x_mC, bs_mark])) (bs_len (by decide))
  have hfind : ∀ (lo : Nat) (S : Store) (o1 o2 o3 : Option D) (p : Int), p + 1 = (lo : Int) →
      (sSet (gN 3) (mMeth "str" (gStr hFind) (mVar 0) (mCons (mC (.str "000000001")) (mCons (mBin dAdd (mVar 3) (mC (.int 1))) mNil)))) [some (bs x), o1, o2, some (.int p), o3] S =
        some (.nx, [some (bs x), o1, o2, some (.int (plc (fstAt x mark lo))), o3], S) := by
    intro lo S o1 o2 o3 p hp
    refine set_ok (str_ok rfl (x := mk (cod x)) (var_ok rfl) (cons_ok (d := bs mark) (by rw [x_mC, bs_mark]) (one_ok (d := .int (lo : Int)) (bin_ok (var_ok rfl) rfl (x_add.trans ?_)))) (bs_find (S := S) (l := x) (m := mark) (by decide) lo))
    rw [hp]
  have loop : ∀ (f : Nat) (ps : Option Nat) (acc : List U) (N : Nat) (o : Option D), f < N → (∀ p, ps = some p → Sat x mark p ∧ x.length + 1 ≤ p + f) → acc.length + f ≤ 20000 → ∃ e', whileM t_read_3 l_read_2 N [some (bs x), some (.int many), some (.loc S.length), some (.int (plc ps)), o] (S ++ [OB.lst (acc.map uD)]) =
      some (.nx, [some (bs x), some (.int many), some (.loc S.length), some (.int (-1)), e'], S ++ [OB.lst ((acc ++ rd many x f ps).map uD)]) := by
    intro f
    induction f with
    | zero =>
      intro ps acc N o hN hp hz
      obtain ⟨N, rfl⟩ : ∃ M, N = M + 1 := ⟨N - 1, by omega⟩
      cases ps with
      | none =>
        refine ⟨o, (whl_no (b_ok (bin_ok (var_ok rfl) rfl x_ge))).trans ?_⟩
        rw [show rd many x 0 none = [] from rfl, List.append_nil]
        rfl
      | some p =>
        obtain ⟨a, b⟩ := hp p rfl
        have := a.le (by decide)
        omega
    | succ f ih =>
      intro ps acc N o hN hp hz
      obtain ⟨N, rfl⟩ : ∃ M, N = M + 1 := ⟨N - 1, by omega⟩
      cases ps with
      | none =>
        refine ⟨o, (whl_no (b_ok (bin_ok (var_ok rfl) rfl x_ge))).trans ?_⟩
        rw [show rd many x (f + 1) none = [] by unfold rd; rfl, List.append_nil]
        rfl
      | some p =>
        obtain ⟨hs, hf⟩ := hp p rfl
        have hple := hs.le (by decide)
        rw [mark_len] at hple
        have hgo : t_read_3 [some (bs x), some (.int many), some (.loc S.length), some (.int (plc (some p))), o] (S ++ [OB.lst (acc.map uD)]) = .ok true (S ++ [OB.lst (acc.map uD)]) := by
          refine b_ok (bin_ok (var_ok rfl) rfl (x_ge.trans ?_))
          rw [decide_eq_true]
          show (0 : Int) ≤ (p : Int)
          omega
        have hu := unit_in_gen (S := S ++ [OB.lst (acc.map uD)]) (hcl acc) x (p + 9) many h4 (by omega) (by omega)
        have s1 : (sSet (gN 4) (mCallF 3 m_unit_in (mCons (mVar 0) (mCons (mBin dAdd (mVar 3) (mCall dLen (mCons (mC (.str "000000001")) mNil))) (mCons (mVar 1) mNil))))) [some (bs x), some (.int many), some (.loc S.length), some (.int (plc (some p))), o] (S ++ [OB.lst (acc.map uD)]) =
            some (.nx, [some (bs x), some (.int many), some (.loc S.length), some (.int (plc (some p))), some (oD (takes many x (p + 9)))], S ++ [OB.lst (acc.map uD)]) :=
          set_ok (callF_ok (cons_ok (var_ok rfl) (cons_ok (bin_ok (var_ok rfl) (hlm _ _) x_add) (one_ok (var_ok rfl)))) hu)
        have nxt : ∀ lo, p + 1 ≤ lo → ∀ p', fstAt x mark lo = some p' → Sat x mark p' ∧ x.length + 1 ≤ p' + f := fun lo hlo p' h => by
          obtain ⟨a, b, _⟩ := fstAt_some h
          exact ⟨b, by omega⟩
        cases ht : takes many x (p + 9) with
        | none =>
          rw [ht] at s1
          obtain ⟨e', he⟩ := ih (fstAt x mark (p + 1)) acc N (some .non) (by omega) (nxt _ (Nat.le_refl _)) (by omega)
          have hr : rd many x (f + 1) (some p) = rd many x f (fstAt x mark (p + 1)) := by
            conv => lhs; unfold rd
            rw [ht]
          rw [hr]
          refine ⟨e', (whl_go hgo ?_).trans he⟩
          unfold l_read_2
          rw [seq_nx s1]
          have : (mB (mBin dIsNot (mVar 4) (mC .non))) [some (bs x), some (.int many), some (.loc S.length), some (.int (plc (some p))), some .non] (S ++ [OB.lst (acc.map uD)]) = .ok false (S ++ [OB.lst (acc.map uD)]) := b_ok (bin_ok (var_ok rfl) rfl rfl)
          exact (seq_nx (if_skip this)).trans (hfind (p + 1) _ _ _ _ _ rfl)
        | some u =>
          rw [ht] at s1
          obtain ⟨e', he⟩ := ih (fstAt x mark (p + 9 + bl many)) (acc ++ [u]) N (some (uD u)) (by omega) (nxt _ (by omega)) (by simp; omega)
          have hr : rd many x (f + 1) (some p) = u :: rd many x f (fstAt x mark (p + 9 + bl many)) := by
            conv => lhs; unfold rd
            rw [ht]
          rw [hr]
          rw [List.append_assoc] at he
          refine ⟨e', (whl_go hgo ?_).trans he⟩
          unfold l_read_2
          rw [seq_nx s1]
          have h4' : (mB (mBin dIsNot (mVar 4) (mC .non))) [some (bs x), some (.int many), some (.loc S.length), some (.int (plc (some p))), some (uD u)] (S ++ [OB.lst (acc.map uD)]) = .ok true (S ++ [OB.lst (acc.map uD)]) := b_ok (bin_ok (var_ok rfl) rfl rfl)
          have s2 : b_read_1 [some (bs x), some (.int many), some (.loc S.length), some (.int (plc (some p))), some (uD u)] (S ++ [OB.lst (acc.map uD)]) =
              some (.nx, [some (bs x), some (.int many), some (.loc S.length), some (.int (((p + 9 + bl many : Nat) : Int) - 1)), some (uD u)], S ++ [OB.lst (acc.map uD ++ [uD u])]) := by
            unfold b_read_1
            refine (seq_nx (expr_ok (meth_ok (var_ok rfl) rcv_last (one_ok (var_ok rfl)) (app_last (by rw [List.length_map]; omega))))).trans ?_
            refine aug_ok (x := (p : Nat)) rfl (bin_ok (bin_ok (hlm _ _) (callF_ok (one_ok (var_ok rfl)) (body_length_ok ?_ many)) x_add) rfl x_sub) ?_
            · have := hcl (acc ++ [u]); rwa [List.map_append] at this
            · omega
          rw [List.map_append]
          exact (seq_nx ((if_t h4').trans s2)).trans (hfind (p + 9 + bl many) _ _ _ _ _ (by omega))
  have hs0 : Nat.lt (x.length + 1) (2 ^ 40) := by
    show x.length + 1 < 2 ^ 40
    omega
  obtain ⟨e', he⟩ := loop (x.length + 1) (fstAt x mark 0) [] (2 ^ 40) none hs0 (fun p h => ⟨(fstAt_some h).2.1, by omega⟩) (by simp; omega)
  rw [List.nil_append] at he
  have c1 : (mNot (mTru (mCallF 1 m_are_bits (mCons (mVar 0) mNil)))) [some (bs x), some (.int many), none, none, none] S = .ok false S := by
    have : mCallF 1 m_are_bits (mCons (mVar 0) mNil) [some (bs x), some (.int many), none, none, none] S = .ok (.bl true) S := callF_ok (one_ok (var_ok rfl)) (are_bits_ok hS)
    rw [x_mNot, x_mTru, this]; rfl
  have c2 : (mNot (mTru (mCallF 3 m_is_number (mCons (mVar 1) (mCons (mC (.int 1)) (mCons (mC (.int 400)) mNil)))))) [some (bs x), some (.int many), none, none, none] S = .ok false S := by
    have : mCallF 3 m_is_number (mCons (mVar 1) (mCons (mC (.int 1)) (mCons (mC (.int 400)) mNil))) [some (bs x), some (.int many), none, none, none] S = .ok (.bl true) S := by
      refine callF_ok (cons_ok (var_ok rfl) (cons_ok rfl (one_ok rfl))) ((number_ok hS).trans ?_)
      rw [decide_eq_true (by omega)]
    rw [x_mNot, x_mTru, this]; rfl
  have s3 : (sPar 2 3 (mCons (asL (mLst mNil)) (mCons (mMeth "str" (gStr hFind) (mVar 0) (mCons (mC (.str "000000001")) mNil)) mNil))) [some (bs x), some (.int many), none, none, none] S =
      some (.nx, [some (bs x), some (.int many), some (.loc S.length), some (.int (plc (fstAt x mark 0))), none], S ++ [OB.lst []]) :=
    par_ok (asL_ok (lst_ok rfl (Nat.zero_le _))) (str_ok rfl (x := mk (cod x)) (var_ok rfl) (one_ok (d := bs mark) (by rw [x_mC, bs_mark])) (bs_find0 (S := S ++ [OB.lst []]) (l := x) (m := mark) (by decide)))
  refine (retV_ok (d := .tup ((rd many x (x.length + 1) (fstAt x mark 0)).map uD)) (d' := .tup ((rd many x (x.length + 1) (fstAt x mark 0)).map uD)) (S' := S ++ [OB.lst ((rd many x (x.length + 1) (fstAt x mark 0)).map uD)])
    (run_rt (e' := [some (bs x), some (.int many), some (.loc S.length), some (.int (-1)), e']) ?_) (by simpa using hS) ?_).trans (by simp)
  · show b_read [some (bs x), some (.int many), none, none, none] S = _
    unfold b_read
    rw [seq_nx (if_skip c1), seq_nx (if_skip c2), seq_nx s3]
    refine (seq_nx he).trans (ret_ok (call_ok (one_ok (var_ok rfl)) ?_))
    simp [dTuple, seqOf, lstOf]
  · simp only [fz, cl, cls_U, if_true]
end
end M.Mk


set_option Elab.async false
set_option linter.all false
set_option maxRecDepth 100000
set_option maxHeartbeats 4000000
/-! Streams with one sign turned, with one less, with one more. -/
namespace M.Mk
open PySem PySem.Spec PyProof.Rows L2 M
section
variable [Tabs]
theorem sat_of_get {l m : List Bool} {i : Nat} (h : ∀ k, k < m.length → l[i + k]? = m[k]?) : Sat l m i := by
  unfold Sat
  apply List.ext_getElem?
  intro k
  rw [List.getElem?_take]
  split
  · rename_i hk
    rw [List.getElem?_drop, h k hk]
  · rename_i hk
    rw [List.getElem?_eq_none (by omega)]
theorem sat_cong {l l' m : List Bool} {i : Nat} (h : ∀ k, k < m.length → l[i + k]? = l'[i + k]?) : Sat l m i ↔ Sat l' m i :=
  ⟨fun s => sat_of_get fun k hk => by rw [← h k hk]; exact sat_get s hk, fun s => sat_of_get fun k hk => by rw [h k hk]; exact sat_get s hk⟩
theorem flp_off {l : List Bool} {q k : Nat} (h : k ≠ q) : (flp l [q])[k]? = l[k]? := by
  rw [flp_get, decide_eq_false (by simpa using h)]
  cases l[k]? <;> simp
theorem flp_on {l : List Bool} {q : Nat} : (flp l [q])[q]? = l[q]?.map fun b => !b := by
  rw [flp_get, decide_eq_true (by simp)]
  cases l[q]? <;> simp
theorem sat_off {l m : List Bool} {q p : Nat} (h : q < p ∨ p + m.length ≤ q) : Sat (flp l [q]) m p ↔ Sat l m p :=
  sat_cong fun k hk => flp_off (by omega)
theorem sat_on {l m : List Bool} {q p : Nat} (h1 : p ≤ q) (h2 : q < p + m.length) (s : Sat (flp l [q]) m p) : ¬ Sat l m p := by
  intro z
  have a := sat_get s (k := q - p) (by omega)
  have b := sat_get z (k := q - p) (by omega)
  rw [show p + (q - p) = q by omega] at a b
  rw [flp_on, b] at a
  have : (q - p) < m.length := by omega
  rw [List.getElem?_eq_getElem this] at a
  simp at a
theorem cut_cong {l l' : List Bool} {p b : Nat} (h : ∀ k, p ≤ k → k < p + b → l[k]? = l'[k]?) : (l.drop p).take b = (l'.drop p).take b := by
  apply List.ext_getElem?
  intro k
  rw [List.getElem?_take, List.getElem?_take]
  split
  · rw [List.getElem?_drop, List.getElem?_drop, h _ (by omega) (by omega)]
  · rfl
/-- a body with one sign turned is not taken -/
theorem bent_body {u : U} {q : Nat} (hq : q < bl u.2.length) (ho : Ones u.2.length (flp (bd u) [q])) : parse u.2.length (flp (bd u) [q]) = none := by
  obtain ⟨n, p⟩ := u
  generalize hG : (p.length + 22) / 7 = G at *
  have hb : bl p.length = 8 * G := by unfold bl; omega
  have hlen : (bdy n p).length = 8 * G := by rw [bdy_len, hb]
  have hones := ones_bdy n p
  simp only [bd] at *
  have hr : q % 8 ≠ 7 := by
    intro h7
    have h1 := ho.2 (q / 8) (by omega)
    have h2 := hones.2 (q / 8) (by omega)
    rw [show 8 * (q / 8) + 7 = q by omega] at h1 h2
    rw [flp_on, h2] at h1
    simp at h1
  generalize hd : 7 * (q / 8) + q % 8 = d
  have hplc : [q] = [d].map plc7 := by
    simp only [List.map_cons, List.map_nil, plc7]
    congr 1
    omega
  have hdl : d < 7 * G := by omega
  have hung : ung G (flp (bdy n p) [q]) = flp (datum n p) [d] := by
    rw [hplc, ung_flp hlen, ← hG, ung_bdy]
  have hdat : (datum n p).length = 7 * G := by rw [datum_len]; unfold dl; omega
  unfold parse
  rw [hG, hung]
  simp only
  rw [if_neg]
  intro h
  have htold : (flp (datum n p) [d]).take (8 + p.length) = flp (told n p) [d] := by rw [flp_take, datum_told]
  rw [htold] at h
  have hbl : ((flp (datum n p) [d]).drop (8 + p.length)).length = 7 * G - (8 + p.length) := by rw [List.length_drop, flp_len, hdat]
  rw [hbl] at h
  have hbeh := datum_behind n p
  by_cases hc : d < 8 + p.length
  · have hsame : (flp (datum n p) [d]).drop (8 + p.length) = (datum n p).drop (8 + p.length) := by
      apply List.ext_getElem?
      intro k
      rw [List.getElem?_drop, List.getElem?_drop, flp_off (by omega)]
    rw [hsame, hbeh] at h
    have h8 := congrArg (List.take 8) h
    rw [List.take_left' (sg8_len _), List.take_left' (sg8_len _)] at h8
    have hcrc := sg8_inj _ _ h8
    rw [crc_flp] at hcrc
    have hz : crc (ind (told n p).length [d]) = 0#8 := by
      have : crc (told n p) ^^^ crc (told n p) = crc (told n p) ^^^ (crc (told n p) ^^^ crc (ind (told n p).length [d])) := by rw [← hcrc]
      rw [BitVec.xor_self, ← BitVec.xor_assoc, BitVec.xor_self, BitVec.zero_xor] at this
      exact this.symm
    refine odd_ne ?_ hz
    rw [par_ind _ [d] (by simp) (by intro x hx; rw [List.mem_singleton] at hx; subst hx; rw [told_len]; omega)]
    rfl
  · have htl : flp (told n p) [d] = told n p := by
      apply List.ext_getElem?
      intro k
      by_cases hk : k = d
      · subst hk
        rw [List.getElem?_eq_none (by rw [flp_len, told_len]; omega), List.getElem?_eq_none (by rw [told_len]; omega)]
      · exact flp_off hk
    rw [htl] at h
    have hsame : (flp (datum n p) [d]).drop (8 + p.length) = (datum n p).drop (8 + p.length) := by
      rw [h, hbeh]
      congr 2
      unfold dl
      omega
    have hk := congrArg (fun l : List Bool => l[d - (8 + p.length)]?) hsame
    simp only [List.getElem?_drop] at hk
    rw [show 8 + p.length + (d - (8 + p.length)) = d by omega, flp_on, List.getElem?_eq_getElem (by omega)] at hk
    simp at hk
variable {many : Nat} {us : List U}
abbrev Unit (many : Nat) (us : List U) : Prop := ∀ u ∈ us, u.1 < 256 ∧ u.2.length = many
theorem Unit.ones (hu : Unit many us) : AllOnes many (us.map bd) := by
  intro c hc
  obtain ⟨u, h, rfl⟩ := List.mem_map.mp hc
  rw [← (hu u h).2]
  exact ones_bdy _ _
theorem x_len (hu : Unit many us) : (strm (us.map bd)).length = us.length * (9 + bl many) := by rw [strm_len hu.ones, List.length_map]
theorem sat_x (hu : Unit many us) (p : Nat) : Sat (strm (us.map bd)) mark p ↔ ∃ i, i < us.length ∧ p = i * (9 + bl many) := by
  rw [sat_strm hu.ones, List.length_map]
/-- the body that stands there -/
theorem body_at (hu : Unit many us) {j : Nat} {u : U} (h : us[j]? = some u) : ((strm (us.map bd)).drop (j * (9 + bl many) + 9)).take (bl many) = bd u := by
  obtain ⟨hj, hju⟩ := List.getElem?_eq_some_iff.mp h
  have hjl : j < (us.map bd).length := by rw [List.length_map]; exact hj
  have hO := hu.ones _ (List.getElem_mem hjl)
  have hc : (us.map bd)[j] = bd u := by rw [List.getElem_map, hju]
  rw [hc] at hO
  rw [← List.drop_drop, strm_drop hu.ones j (by omega), List.drop_eq_getElem_cons hjl, hc, strm_cons, List.drop_append, show (9 : Nat) - mark.length = 0 from rfl, List.drop_zero, show List.drop 9 mark = [] from rfl, List.nil_append, ← hO.1, List.take_append, Nat.sub_self, List.take_zero, List.append_nil, List.take_length]
theorem unit_parse (hu : Unit many us) {u : U} (h : u ∈ us) : Ones many (bd u) ∧ parse many (bd u) = some u := by
  have h1 := hu u h
  rw [← h1.2]
  exact ⟨ones_bdy _ _, parse_bdy h1.1 _⟩
theorem takes_some {x : List Bool} {p : Nat} {u : U} (h1 : p + bl many ≤ x.length) (h2 : p + bl many = x.length ∨ Sat x mark (p + bl many)) (h3 : (x.drop p).take (bl many) = bd u) (h4 : Ones many (bd u) ∧ parse many (bd u) = some u) : takes many x p = some u := by
  unfold takes
  rw [h3, if_pos ⟨h1, h2, h4.1⟩, h4.2]
theorem takes_far {x : List Bool} {p : Nat} (h : p + bl many ≤ x.length → ¬ (p + bl many = x.length ∨ Sat x mark (p + bl many))) : takes many x p = none := by
  unfold takes
  rw [if_neg fun z => h z.1 z.2.1]
theorem mul_lt {i n w : Nat} (h : i < n) : i * w + w ≤ n * w := by rw [← Nat.succ_mul]; exact Nat.mul_le_mul_right w h
theorem read_bent (hu : Unit many us) {q : Nat} (hq : q < (strm (us.map bd)).length) :
    rd many (flp (strm (us.map bd)) [q]) ((flp (strm (us.map bd)) [q]).length + 1) (fstAt (flp (strm (us.map bd)) [q]) mark 0) = keep (fun j => decide (q < j * (9 + bl many) ∨ (j + 1) * (9 + bl many) + 9 ≤ q)) 0 us := by
  have hxl := x_len hu
  rw [hxl] at hq
  have hsx := sat_x hu
  generalize hx0 : strm (us.map bd) = x0 at *
  have hfl : (flp x0 [q]).length = us.length * (9 + bl many) := by rw [flp_len, hxl]
  have hml : mark.length = 9 := rfl
  have key := rd_keep (many := many) (x := flp x0 [q]) (us := us) (pos := fun j => j * (9 + bl many)) (K := fun j => decide (q < j * (9 + bl many) ∨ (j + 1) * (9 + bl many) + 9 ≤ q)) (fun j => by rw [Nat.succ_mul]) ?_ ?_ ((flp x0 [q]).length + 1) 0 (by omega)
  · rw [key]
    refine keep_congr us 0 fun i hi => ?_
    rw [decide_eq_true (Nat.zero_le _), Bool.and_true]
  · intro j u hj hK
    simp only [decide_eq_true_eq] at hK
    obtain ⟨hjl, hju⟩ := List.getElem?_eq_some_iff.mp hj
    have hm := mul_lt (w := 9 + bl many) hjl
    have hs : (j + 1) * (9 + bl many) = j * (9 + bl many) + (9 + bl many) := Nat.succ_mul _ _
    refine ⟨(sat_off (by rw [hml]; omega)).mpr ((hsx _).mpr ⟨j, hjl, rfl⟩), takes_some (by omega) ?_ ?_ (unit_parse hu (List.mem_of_getElem? hj))⟩
    · rcases Nat.lt_or_ge (j + 1) us.length with z | z
      · right
        rw [show j * (9 + bl many) + 9 + bl many = (j + 1) * (9 + bl many) by omega]
        exact (sat_off (by rw [hml]; omega)).mpr ((hsx _).mpr ⟨j + 1, z, rfl⟩)
      · left
        have : us.length = j + 1 := by omega
        rw [hfl, this, hs]; omega
    · have hb := body_at hu hj
      rw [hx0] at hb
      rw [← hb]
      exact cut_cong fun k h1 h2 => flp_off (by omega)
  · intro p hs hno
    by_cases h0 : Sat x0 mark p
    · obtain ⟨j, hjl, rfl⟩ := (hsx p).mp h0
      have hm := mul_lt (w := 9 + bl many) hjl
      have hs1 : (j + 1) * (9 + bl many) = j * (9 + bl many) + (9 + bl many) := Nat.succ_mul _ _
      have hq9 : q < j * (9 + bl many) ∨ j * (9 + bl many) + 9 ≤ q := by
        rcases Nat.lt_or_ge q (j * (9 + bl many)) with z | z
        · exact .inl z
        · rcases Nat.lt_or_ge q (j * (9 + bl many) + 9) with y | y
          · exact absurd h0 (sat_on z (by rw [hml]; exact y) hs)
          · exact .inr y
      have hK : ¬ (q < j * (9 + bl many) ∨ (j + 1) * (9 + bl many) + 9 ≤ q) := fun z => hno j hjl (decide_eq_true z) rfl
      rcases Nat.lt_or_ge q ((j + 1) * (9 + bl many)) with z | z
      · -- in the body
        have hj := List.getElem?_eq_getElem hjl
        have hmem := List.getElem_mem hjl
        generalize us[j] = u at hj hmem
        have hb := body_at hu hj
        rw [hx0] at hb
        have hcut : ((flp x0 [q]).drop (j * (9 + bl many) + 9)).take (bl many) = flp (bd u) [q - (j * (9 + bl many) + 9)] := by
          apply List.ext_getElem?
          intro k
          rw [List.getElem?_take, ← hb]
          by_cases hk : k < bl many
          · rw [if_pos hk, List.getElem?_drop]
            by_cases hkq : j * (9 + bl many) + 9 + k = q
            · rw [hkq, flp_on, show k = q - (j * (9 + bl many) + 9) by omega, flp_on, List.getElem?_take, if_pos (by omega), List.getElem?_drop, show j * (9 + bl many) + 9 + (q - (j * (9 + bl many) + 9)) = q by omega]
            · rw [flp_off hkq, flp_off (by omega), List.getElem?_take, if_pos hk, List.getElem?_drop]
          · rw [if_neg hk, List.getElem?_eq_none (by rw [flp_len, List.length_take]; omega)]
        have h1 := hu u hmem
        unfold takes
        rw [hcut]
        split
        · rename_i hz
          rw [← h1.2] at hz ⊢
          exact bent_body (by rw [h1.2]; omega) hz.2.2
        · rfl
      · -- in the next mark
        have hj1 : j + 1 < us.length := by
          rcases Nat.lt_or_ge (j + 1) us.length with y | y
          · exact y
          · have : us.length = j + 1 := by omega
            rw [this] at hq; omega
        have hm1 := mul_lt (w := 9 + bl many) hj1
        refine takes_far fun _ => ?_
        rw [show j * (9 + bl many) + 9 + bl many = (j + 1) * (9 + bl many) by omega]
        rintro (y | y)
        · rw [hfl] at y; omega
        · exact sat_on z (by rw [hml]; omega) y ((hsx _).mpr ⟨j + 1, hj1, rfl⟩)
    · have hq9 : p ≤ q ∧ q < p + 9 := by
        rcases Nat.lt_or_ge q p with z | z
        · exact absurd ((sat_off (.inl z)).mp hs) h0
        · refine ⟨z, ?_⟩
          rcases Nat.lt_or_ge q (p + 9) with y | y
          · exact y
          · exact absurd ((sat_off (.inr (by rw [hml]; exact y))).mp hs) h0
      have hbl : 9 ≤ bl many := by unfold bl; omega
      have no : ∀ i, p + 9 + bl many = i * (9 + bl many) → i ≤ us.length → False := by
        intro i hi hil
        cases i with
        | zero => omega
        | succ i =>
          have : (i + 1) * (9 + bl many) = i * (9 + bl many) + (9 + bl many) := Nat.succ_mul _ _
          exact h0 ((hsx p).mpr ⟨i, by omega, by omega⟩)
      refine takes_far fun _ => ?_
      rintro (y | y)
      · exact no us.length (by rw [y, hfl]) (Nat.le_refl _)
      · obtain ⟨i, hi, e⟩ := (hsx _).mp ((sat_off (.inl (by omega))).mp y)
        exact no i e (by omega)
theorem sat_drop1 {x : List Bool} {p : Nat} : Sat (x.drop 1) mark p ↔ Sat x mark (p + 1) := by
  unfold Sat
  rw [List.drop_drop, Nat.add_comm 1 p]
theorem takes_drop1 {x : List Bool} {p : Nat} (hx : 1 ≤ x.length) : takes many (x.drop 1) p = takes many x (p + 1) := by
  have e1 : p + bl many ≤ (x.drop 1).length ↔ p + 1 + bl many ≤ x.length := by rw [List.length_drop]; omega
  have e2 : p + bl many = (x.drop 1).length ↔ p + 1 + bl many = x.length := by rw [List.length_drop]; omega
  have e3 : Sat (x.drop 1) mark (p + bl many) ↔ Sat x mark (p + 1 + bl many) := by rw [sat_drop1, show p + bl many + 1 = p + 1 + bl many by omega]
  have e4 : ((x.drop 1).drop p) = x.drop (p + 1) := by rw [List.drop_drop, Nat.add_comm 1 p]
  unfold takes
  rw [e4]
  by_cases h : p + 1 + bl many ≤ x.length ∧ (p + 1 + bl many = x.length ∨ Sat x mark (p + 1 + bl many)) ∧ Ones many ((x.drop (p + 1)).take (bl many))
  · rw [if_pos h, if_pos ⟨e1.mpr h.1, h.2.1.imp e2.mpr e3.mpr, h.2.2⟩]
  · rw [if_neg h, if_neg fun z => h ⟨e1.mp z.1, z.2.1.imp e2.mp e3.mp, z.2.2⟩]
theorem plain_at (hu : Unit many us) {j : Nat} {u : U} (hj : us[j]? = some u) : Sat (strm (us.map bd)) mark (j * (9 + bl many)) ∧ takes many (strm (us.map bd)) (j * (9 + bl many) + 9) = some u := by
  obtain ⟨hjl, hju⟩ := List.getElem?_eq_some_iff.mp hj
  have hm := mul_lt (w := 9 + bl many) hjl
  have hs : (j + 1) * (9 + bl many) = j * (9 + bl many) + (9 + bl many) := Nat.succ_mul _ _
  have hxl := x_len hu
  refine ⟨(sat_x hu _).mpr ⟨j, hjl, rfl⟩, takes_some (by omega) ?_ (body_at hu hj) (unit_parse hu (List.mem_of_getElem? hj))⟩
  rcases Nat.lt_or_ge (j + 1) us.length with z | z
  · right
    rw [show j * (9 + bl many) + 9 + bl many = (j + 1) * (9 + bl many) by omega]
    exact (sat_x hu _).mpr ⟨j + 1, z, rfl⟩
  · left
    have : us.length = j + 1 := by omega
    rw [hxl, this, hs]; omega
theorem read_tail {u0 : U} (hu : Unit many (u0 :: us)) :
    rd many ((strm ((u0 :: us).map bd)).drop 1) (((strm ((u0 :: us).map bd)).drop 1).length + 1) (fstAt ((strm ((u0 :: us).map bd)).drop 1) mark 0) = us := by
  have hxl := x_len hu
  have hsx := sat_x hu
  have hpa := fun j u => plain_at hu (j := j) (u := u)
  generalize strm ((u0 :: us).map bd) = x0 at *
  simp only [List.length_cons] at hxl hsx
  have hx1 : 1 ≤ x0.length := by rw [hxl, Nat.succ_mul]; omega
  have key := rd_keep (many := many) (x := x0.drop 1) (us := us) (pos := fun j => j * (9 + bl many) + (8 + bl many)) (K := fun _ => true) (fun j => by rw [Nat.succ_mul]; omega) ?_ ?_ ((x0.drop 1).length + 1) 0 (by omega)
  · rw [key]
    exact keep_all us 0 fun i hi => by rw [decide_eq_true (Nat.zero_le _)]; rfl
  · intro j u hj _
    have := hpa (j + 1) u (by simpa using hj)
    have hs : (j + 1) * (9 + bl many) = j * (9 + bl many) + (9 + bl many) := Nat.succ_mul _ _
    rw [sat_drop1, takes_drop1 hx1, show j * (9 + bl many) + (8 + bl many) + 1 = (j + 1) * (9 + bl many) by omega, show j * (9 + bl many) + (8 + bl many) + 9 + 1 = (j + 1) * (9 + bl many) + 9 by omega]
    exact this
  · intro p hs hno
    exfalso
    rw [sat_drop1] at hs
    obtain ⟨i, hi, e⟩ := (hsx _).mp hs
    cases i with
    | zero => omega
    | succ i =>
      have hs1 : (i + 1) * (9 + bl many) = i * (9 + bl many) + (9 + bl many) := Nat.succ_mul _ _
      exact hno i (by omega) rfl (by show p = i * (9 + bl many) + (8 + bl many); omega)
theorem keep_front {K : Nat → Bool} : ∀ (A : List U) (z : U) (k : Nat), (∀ i, i < A.length → K (k + i) = true) → K (k + A.length) = false → keep K k (A ++ [z]) = A
  | [], z, k, _, h => by
    show (if K k then z :: keep K (k + 1) [] else keep K (k + 1) []) = []
    have h : K k = false := h
    rw [h, if_neg (by decide)]
    rfl
  | a :: A, z, k, h, h2 => by
    have ih := keep_front (K := K) A z (k + 1) (fun i hi => by
      have := h (i + 1) (by simp only [List.length_cons]; omega)
      rwa [show k + (i + 1) = k + 1 + i by omega] at this) (by
      simp only [List.length_cons] at h2
      rwa [show k + (A.length + 1) = k + 1 + A.length by omega] at h2)
    show (if K k then a :: keep K (k + 1) (A ++ [z]) else keep K (k + 1) (A ++ [z])) = _
    have h0 : K k = true := h 0 (by simp)
    rw [h0, if_pos rfl, ih]
theorem read_more (hu : Unit many us) (hne : us ≠ []) :
    rd many (strm (us.map bd) ++ [false]) ((strm (us.map bd) ++ [false]).length + 1) (fstAt (strm (us.map bd) ++ [false]) mark 0) = us.dropLast := by
  have hxl := x_len hu
  have hsx := sat_x hu
  have hbody := fun j u => body_at hu (j := j) (u := u)
  generalize strm (us.map bd) = x0 at *
  have hml : mark.length = 9 := rfl
  have hxl1 : (x0 ++ [false]).length = us.length * (9 + bl many) + 1 := by rw [List.length_append, hxl]; rfl
  have get : ∀ k, k < x0.length → (x0 ++ [false])[k]? = x0[k]? := fun k hk => List.getElem?_append_left hk
  have key := rd_keep (many := many) (x := x0 ++ [false]) (us := us) (pos := fun j => j * (9 + bl many)) (K := fun j => decide (j + 1 < us.length)) (fun j => by rw [Nat.succ_mul]) ?_ ?_ ((x0 ++ [false]).length + 1) 0 (by omega)
  · rw [key]
    obtain ⟨A, z, rfl⟩ : ∃ A z, us = A ++ [z] := by
      rcases List.eq_nil_or_concat us with h | ⟨A, z, h⟩
      · exact absurd h hne
      · exact ⟨A, z, by rw [h, List.concat_eq_append]⟩
    rw [List.dropLast_concat]
    refine keep_front A z 0 (fun i hi => ?_) ?_
    · rw [decide_eq_true (Nat.zero_le _), Bool.and_true, decide_eq_true (by rw [List.length_append]; simp; omega)]
    · rw [decide_eq_false (by rw [List.length_append]; simp), Bool.false_and]
  · intro j u hj hK
    simp only [decide_eq_true_eq] at hK
    have hm := mul_lt (w := 9 + bl many) hK
    have hs : (j + 1) * (9 + bl many) = j * (9 + bl many) + (9 + bl many) := Nat.succ_mul _ _
    refine ⟨(sat_cong fun k hk => get _ (by rw [hml] at hk; omega)).mpr ((hsx _).mpr ⟨j, by omega, rfl⟩), takes_some (by omega) (.inr ?_) ?_ (unit_parse hu (List.mem_of_getElem? hj))⟩
    · rw [show j * (9 + bl many) + 9 + bl many = (j + 1) * (9 + bl many) by omega]
      exact (sat_cong fun k hk => get _ (by rw [hml] at hk; omega)).mpr ((hsx _).mpr ⟨j + 1, hK, rfl⟩)
    · rw [← hbody j u hj]
      exact cut_cong fun k h1 h2 => get _ (by omega)
  · intro p hs hno
    have hle := hs.le (by decide)
    rw [hml] at hle
    have hp9 : p + 9 ≤ x0.length := by
      rcases Nat.lt_or_ge x0.length (p + 9) with z | z
      · exfalso
        have h8 := sat_get hs (k := 8) (by decide)
        rw [List.getElem?_append_right (by omega), show p + 8 - x0.length = 0 by omega] at h8
        exact absurd h8 (by decide)
      · exact z
    have h0 : Sat x0 mark p := (sat_cong fun k hk => get _ (by rw [hml] at hk; omega)).mp hs
    obtain ⟨i, hi, rfl⟩ := (hsx _).mp h0
    have hlast : i + 1 = us.length := by
      rcases Nat.lt_or_ge (i + 1) us.length with z | z
      · exact absurd rfl (hno i hi (decide_eq_true z))
      · omega
    have hs1 : (i + 1) * (9 + bl many) = i * (9 + bl many) + (9 + bl many) := Nat.succ_mul _ _
    rw [hlast] at hs1
    refine takes_far fun _ => ?_
    rintro (y | y)
    · omega
    · have := y.le (by decide)
      rw [hml] at this
      omega
end
end M.Mk


set_option Elab.async false
set_option linter.all false
set_option maxRecDepth 100000
set_option maxHeartbeats 4000000
namespace K81
open PySem PySem.Spec PyProof.Rows L2 M M.Mk
section
variable [Tabs]
theorem bs_10 : (.str "10" : D) = bs [true, false] := by unfold bs; congr 1
theorem bits_of : ∀ {ys : List D}, (∀ y ∈ ys, ∃ b, y = bs [b]) → ∃ p : List Bool, ys = p.map fun b => bs [b]
  | [], _ => ⟨[], rfl⟩
  | y :: ys, h => by
    obtain ⟨b, rfl⟩ := h y (by simp)
    obtain ⟨p, rfl⟩ := bits_of fun z hz => h z (List.mem_cons_of_mem _ hz)
    exact ⟨b :: p, rfl⟩
theorem bit_int {k : Int} (h : 0 ≤ k ∧ k < 2) : ∃ b : Bool, k = if b then 1 else 0 := by
  have : k = 0 ∨ k = 1 := by omega
  rcases this with rfl | rfl
  · exact ⟨false, rfl⟩
  · exact ⟨true, rfl⟩
theorem ix_ok {e : M.Env} {S : Store} {i j : Nat} {l : List Bool} {k : Nat} {b : Bool} (hi : e[i]? = some (some (bs l))) (hj : e[j]? = some (some (.int (k : Int)))) (hl : l.length ≤ 100000) (hb : l[k]? = some b) : mBin dIx (mVar i) (mVar j) e S = .ok (bs [b]) S :=
  bin_ok (var_ok hi) (var_ok hj) (bs_ix hl hb)
/-- a text made sign by sign -/
theorem signs_ok {S : Store} {e : M.Env} {me : ME} {v w n : Nat} (f : Nat → Bool) (hn : n ≤ 100000) (hv : e.length = 3) {l : List Bool} (h0 : e[0]? = some (some (bs l))) (hl : l.length = n)
    (h : ∀ k < n, me (e.set 2 (some (.int (k : Int)))) S = .ok (bs [f k]) S) :
    mMeth "str" (gStr hJoin) (mC (.str "")) (mCons (asV (mLc (mSrcA srcR1 (mCons (mCall dLen (mCons (mVar 0) mNil)) mNil)) (gN 2) mYes me [2])) mNil) e S = .ok (bs ((List.range n).map f)) S := by
  refine str_ok rfl (x := mk []) rfl (one_ok (asV_ok (ds := ((List.range n).map f).map fun b => bs [b]) (lc_ok (xs := rng 0 n) (src_rng' n hn (call_ok (one_ok (var_ok h0)) ((bs_len (by omega)).trans (by rw [hl])))) (by rw [rng_len]; exact hn) ?_))) (join1 (by simp; omega))
  rw [rng_map, List.map_map]
  refine lc_map (f := fun k => bs [f k]) (fun i : Nat => D.int (i : Int)) _ fun k hk => ⟨_, rfl, ?_⟩
  have e1 : (wipeE e [2]).set 2 (some (.int (k : Int))) = e.set 2 (some (.int (k : Int))) := by simp [wipeE]
  rw [e1]
  exact h k (List.mem_range.mp hk)
theorem len3 {e : M.Env} (h : e.length = 3) : ∃ a b c, e = [a, b, c] := by
  match e, h with
  | [a, b, c], _ => exact ⟨a, b, c, rfl⟩
end
/-! ### the rest by hand -/
/-- eight signs put upon the first eight -/
def xp (a m : List Bool) : List Bool := List.zipWith (· ^^ ·) a m ++ m.drop 8
def tg (l : List Bool) (i : Nat) : List Bool := l.set i (!(l[i]?.getD false))
/-- one turn -/
def dstep (row : List Bool) (k : Nat) : List Bool := if row[k]? = some true then tg (tg (tg (tg row k) (k + 6)) (k + 7)) (k + 8) else row
theorem tg_len (l : List Bool) (i : Nat) : (tg l i).length = l.length := by simp [tg]
theorem dstep_len (row : List Bool) (k : Nat) : (dstep row k).length = row.length := by
  unfold dstep
  split
  · simp [tg_len]
  · rfl
theorem tg_drop (l : List Bool) (k j : Nat) : (tg l (k + j)).drop k = tg (l.drop k) j := by
  unfold tg
  rw [List.getElem?_drop]
  apply List.ext_getElem?
  intro i
  rw [List.getElem?_drop, List.getElem?_set, List.getElem?_set, List.getElem?_drop, List.length_drop]
  by_cases h : k + j = k + i
  · have : j = i := by omega
    subst this
    rw [if_pos rfl, if_pos rfl]
    by_cases h2 : k + j < l.length
    · rw [if_pos h2, if_pos (by omega)]
    · rw [if_neg h2, if_neg (by omega)]
  · rw [if_neg h, if_neg (by omega)]
theorem long9 {m : List Bool} (h : 9 ≤ m.length) : ∃ x a b c d e f g i t, m = x :: a :: b :: c :: d :: e :: f :: g :: i :: t := by
  match m, h with
  | x :: a :: b :: c :: d :: e :: f :: g :: i :: t, _ => exact ⟨x, a, b, c, d, e, f, g, i, t, rfl⟩
theorem step_sg : ∀ r : B8, ∀ x : Bool, sg8 (step r x) = if (r.getLsbD 7 ^^ x) = true then [r.getLsbD 6, r.getLsbD 5, r.getLsbD 4, r.getLsbD 3, r.getLsbD 2, !r.getLsbD 1, !r.getLsbD 0, true] else [r.getLsbD 6, r.getLsbD 5, r.getLsbD 4, r.getLsbD 3, r.getLsbD 2, r.getLsbD 1, r.getLsbD 0, false] :=
  all8 (P := fun r => ∀ x : Bool, sg8 (step r x) = if (r.getLsbD 7 ^^ x) = true then [r.getLsbD 6, r.getLsbD 5, r.getLsbD 4, r.getLsbD 3, r.getLsbD 2, !r.getLsbD 1, !r.getLsbD 0, true] else [r.getLsbD 6, r.getLsbD 5, r.getLsbD 4, r.getLsbD 3, r.getLsbD 2, r.getLsbD 1, r.getLsbD 0, false]) (by decide +kernel)
theorem dstep_xp {row m : List Bool} {r : B8} {k : Nat} {x : Bool} (hm : 8 ≤ m.length) (h : row.drop k = xp (sg8 r) (x :: m)) : (dstep row k).drop (k + 1) = xp (sg8 (step r x)) m := by
  obtain ⟨x', a, b, c, d, e, f, g, i, t, hx⟩ := long9 (m := x :: m) (by simp; omega)
  simp only [List.cons.injEq] at hx
  obtain ⟨rfl, rfl⟩ := hx
  have hk : row[k]? = some (r.getLsbD 7 ^^ x) := by
    have : (row.drop k)[0]? = some (r.getLsbD 7 ^^ x) := by rw [h]; rfl
    rwa [List.getElem?_drop, Nat.add_zero] at this
  have hd : row.drop k = [r.getLsbD 7 ^^ x, r.getLsbD 6 ^^ a, r.getLsbD 5 ^^ b, r.getLsbD 4 ^^ c, r.getLsbD 3 ^^ d, r.getLsbD 2 ^^ e, r.getLsbD 1 ^^ f, r.getLsbD 0 ^^ g, i] ++ t := h
  rw [← List.drop_drop, step_sg]
  unfold dstep
  rw [hk]
  by_cases hh : (r.getLsbD 7 ^^ x) = true
  · rw [if_pos (by rw [hh]), if_pos hh, tg_drop, tg_drop, tg_drop, show tg row k = tg row (k + 0) from rfl, tg_drop, hd]
    simp [tg, xp]
  · rw [if_neg (by simpa using hh), if_neg hh, hd]
    simp [xp]
theorem dfold (l : List Bool) : ∀ (k : Nat), k ≤ l.length → ((List.range k).foldl dstep (l ++ List.replicate 8 false)).drop k = xp (sg8 (crc (l.take k))) ((l ++ List.replicate 8 false).drop k) := by
  intro k
  induction k with
  | zero =>
    intro _
    have : ∀ m : List Bool, 8 ≤ m.length → m = xp (sg8 0#8) m := by
      intro m hm
      match m, hm with
      | a :: b :: c :: d :: e :: f :: g :: i :: t, _ => simp [xp, sg8]
    exact this _ (by simp)
  | succ k ih =>
    intro hk
    have h1 := ih (by omega)
    have hx : (l ++ List.replicate 8 false).drop k = l[k] :: (l ++ List.replicate 8 false).drop (k + 1) := by
      rw [List.drop_eq_getElem_cons (by simp; omega), List.getElem_append_left (by omega)]
    rw [hx] at h1
    have h2 := dstep_xp (m := (l ++ List.replicate 8 false).drop (k + 1)) (by simp; omega) h1
    rw [List.range_succ, List.foldl_append]
    refine h2.trans ?_
    have : crc (l.take (k + 1)) = step (crc (l.take k)) l[k] := by
      have e : l.take (k + 1) = l.take k ++ [l[k]] := by rw [List.take_succ, List.getElem?_eq_getElem (by omega)]; rfl
      rw [e, crc_app]; rfl
    rw [this]
theorem dfold_len (l : List Bool) : ∀ (ks : List Nat) (row : List Bool), (ks.foldl dstep row).length = row.length
  | [], _ => rfl
  | k :: ks, row => by rw [List.foldl_cons, dfold_len l ks, dstep_len]
theorem dfold_end (l : List Bool) : ((List.range l.length).foldl dstep (l ++ List.replicate 8 false)).drop l.length = sg8 (crc l) := by
  rw [dfold l l.length (Nat.le_refl _), List.take_length, List.drop_append, Nat.sub_self, List.drop_zero, List.drop_length, List.nil_append]
  simp [xp, sg8]
section
variable [Tabs]
/-- signs as numbers -/
abbrev bI (l : List Bool) : List D := l.map fun b => D.int (if b then 1 else 0)
theorem rest_put {S : Store} {row : List Bool} {k j : Nat} {b : Bool} {L o2 : Option D} (hr : row[k + j]? = some b) (hl : row.length ≤ 100000) :
    l__law_check_2 [L, some (.loc S.length), o2, some (.int (k : Int)), some (.int (j : Int)), none] (S ++ [OB.lst (bI row)]) = some (.nx, [L, some (.loc S.length), o2, some (.int (k : Int)), some (.int (j : Int)), none], S ++ [OB.lst (bI (tg row (k + j)))]) := by
  have hk := (List.getElem?_eq_some_iff.mp hr).1
  have s1 : (mBin dAdd (mVar 3) (mVar 4)) [L, some (.loc S.length), o2, some (.int (k : Int)), some (.int (j : Int)), none] (S ++ [OB.lst (bI row)]) = .ok (.int ((k + j : Nat) : Int)) (S ++ [OB.lst (bI row)]) :=
    bin_ok (var_ok rfl) (var_ok rfl) (x_add.trans (by congr 2))
  have s2 : (mBin dIx (mVar 1) (mBin dAdd (mVar 3) (mVar 4))) [L, some (.loc S.length), o2, some (.int (k : Int)), some (.int (j : Int)), none] (S ++ [OB.lst (bI row)]) = .ok (.int (if b then 1 else 0)) (S ++ [OB.lst (bI row)]) := by
    refine bin_ok (var_ok rfl) s1 ?_
    have : atI (bI row) ((k + j : Nat) : Int) = some (.int (if b then 1 else 0)) := at_nat _ _ _ (by rw [List.getElem?_map, hr]; rfl)
    show (seqOf (S ++ [OB.lst (bI row)]) (.loc S.length)).bind _ = _
    have hq : seqOf (S ++ [OB.lst (bI row)]) (.loc S.length) = some (bI row) := by simp [seqOf, lstOf]
    rw [hq]
    exact this
  have s3 : (mBin dSub (mC (.int 1)) (mBin dIx (mVar 1) (mBin dAdd (mVar 3) (mVar 4)))) [L, some (.loc S.length), o2, some (.int (k : Int)), some (.int (j : Int)), none] (S ++ [OB.lst (bI row)]) = .ok (.int (if !b then 1 else 0)) (S ++ [OB.lst (bI row)]) :=
    bin_ok rfl s2 (x_sub.trans (by cases b <;> rfl))
  have hx : ixN (bI row).length ((k + j : Nat) : Int) = some (k + j) := by
    unfold ixN
    rw [if_pos (by omega), if_pos (by rw [List.length_map]; omega), Int.toNat_natCast]
  unfold l__law_check_2
  refine (put_ok s3 (var_ok rfl) s1 (get_last _ _) hx).trans ?_
  rw [set_last]
  congr 4
  unfold tg
  rw [hr, bI, bI, List.map_set]
  rfl
theorem tg_get {l : List Bool} {i j : Nat} (h : j < l.length) : ∃ b, (tg l i)[j]? = some b := ⟨_, List.getElem?_eq_getElem (by rw [tg_len]; exact h)⟩
theorem rest_turn {S : Store} {row : List Bool} {k : Nat} {L o2 o4 : Option D} (hk : k + 8 < row.length) (hl : row.length ≤ 100000) :
    ∃ o4', l__law_check_4 [L, some (.loc S.length), o2, some (.int (k : Int)), o4, none] (S ++ [OB.lst (bI row)]) = some (.nx, [L, some (.loc S.length), o2, some (.int (k : Int)), o4', none], S ++ [OB.lst (bI (dstep row k))]) := by
  have h0 : row[k]? = some row[k] := List.getElem?_eq_getElem (by omega)
  have c1 : (mB (mBin dEq (mBin dIx (mVar 1) (mVar 3)) (mC (.int 1)))) [L, some (.loc S.length), o2, some (.int (k : Int)), o4, none] (S ++ [OB.lst (bI row)]) = .ok row[k] (S ++ [OB.lst (bI row)]) := by
    refine b_ok (bin_ok (u := .int (if row[k] then 1 else 0)) (bin_ok (var_ok rfl) (var_ok rfl) ?_) rfl ?_)
    · have : atI (bI row) (k : Int) = some (.int (if row[k] then 1 else 0)) := at_nat _ _ _ (by rw [List.getElem?_map, h0]; rfl)
      show (seqOf (S ++ [OB.lst (bI row)]) (.loc S.length)).bind _ = _
      have hq : seqOf (S ++ [OB.lst (bI row)]) (.loc S.length) = some (bI row) := by simp [seqOf, lstOf]
      rw [hq]
      exact this
    · rw [x_eqI]
      cases row[k] <;> rfl
  unfold l__law_check_4
  cases hr : row[k] with
  | false =>
    rw [hr] at c1
    refine ⟨o4, (if_skip c1).trans ?_⟩
    have : dstep row k = row := by unfold dstep; rw [if_neg (by rw [h0, hr]; decide)]
    rw [this]
  | true =>
    rw [hr] at c1
    refine ⟨some (.int 8), (if_t c1).trans ?_⟩
    have hd : dstep row k = tg (tg (tg (tg row (k + 0)) (k + 6)) (k + 7)) (k + 8) := by unfold dstep; rw [if_pos (by rw [h0, hr])]; rfl
    rw [hd]
    obtain ⟨b6, e6⟩ := tg_get (l := row) (i := k + 0) (j := k + 6) (by omega)
    obtain ⟨b7, e7⟩ := tg_get (l := tg row (k + 0)) (i := k + 6) (j := k + 7) (by rw [tg_len]; omega)
    obtain ⟨b8, e8⟩ := tg_get (l := tg (tg row (k + 0)) (k + 6)) (i := k + 7) (j := k + 8) (by rw [tg_len, tg_len]; omega)
    unfold b__law_check_3
    refine for_ok (xs := [.int ((0 : Nat) : Int), .int ((6 : Nat) : Int), .int ((7 : Nat) : Int), .int ((8 : Nat) : Int)]) (S1 := S ++ [OB.lst (bI row)]) (src_lst (asV_ok (lst_ok rfl (by show 4 ≤ sizeLine; decide)))) ?_
    refine (for_cons rfl (rest_put (j := 0) h0 hl)).trans ?_
    refine (for_cons rfl (rest_put (j := 6) e6 (by rw [tg_len]; exact hl))).trans ?_
    refine (for_cons rfl (rest_put (j := 7) e7 (by rw [tg_len, tg_len]; exact hl))).trans ?_
    refine (for_cons rfl (rest_put (j := 8) e8 (by rw [tg_len, tg_len, tg_len]; exact hl))).trans ?_
    exact for_nil
theorem rest_loop {S : Store} {xs : List D} {L o2 : Option D} : ∀ (ks : List Nat) (row : List Bool) (o3 o4 : Option D), (∀ k ∈ ks, k + 8 < row.length) → row.length ≤ 100000 →
    ∃ o3' o4', M.forM ⟨xs, []⟩ (gN 3) l__law_check_4 (ks.map fun (k : Nat) => D.int (k : Int)) [L, some (.loc S.length), o2, o3, o4, none] (S ++ [OB.lst (bI row)]) = some (.nx, [L, some (.loc S.length), o2, o3', o4', none], S ++ [OB.lst (bI (ks.foldl dstep row))])
  | [], row, o3, o4, _, _ => ⟨o3, o4, for_nil⟩
  | k :: ks, row, o3, o4, hk, hl => by
    obtain ⟨o4', h1⟩ := rest_turn (S := S) (row := row) (L := L) (o2 := o2) (o4 := o4) (hk k (by simp)) hl
    obtain ⟨a, b, h2⟩ := rest_loop (S := S) (xs := xs) (L := L) (o2 := o2) ks (dstep row k) (some (.int (k : Int))) o4' (fun j hj => by rw [dstep_len]; exact hk j (List.mem_cons_of_mem _ hj)) (by rw [dstep_len]; exact hl)
    exact ⟨a, b, (for_cons rfl h1).trans h2⟩
theorem rest_ok {S : Store} (hS : clS S.length S = true) (l : List Bool) (hl : l.length ≤ 900) : m__law_check [bs l] S = .ok (bs (sg8 (crc l))) S := by
  have s1 : (sSet (gN 1) (asL (mCat (asV (mLc (mSrc (mVar 0)) (gN 2) mYes e__law_check_1 [2])) (mBin dMul (asV (mLst (mCons (mC (.int 0)) mNil))) (mC (.int 8)))))) [some (bs l), none, none, none, none, none] S = some (.nx, [some (bs l), some (.loc S.length), none, none, none, none], S ++ [OB.lst (bI (l ++ List.replicate 8 false))]) := by
    have a1 : (asV (mLc (mSrc (mVar 0)) (gN 2) mYes e__law_check_1 [2])) [some (bs l), none, none, none, none, none] S = .ok (.lst (bI l)) S := by
      refine asV_ok (lc_ok (xs := l.map fun b => bs [b]) ?_ (by rw [List.length_map]; omega) (lc_map (f := fun b => D.int (if b then 1 else 0)) (fun b => bs [b]) l fun b hb => ⟨_, rfl, call_ok (one_ok (var_ok rfl)) (bs_int b)⟩))
      rw [x_mSrc, var_ok (d := bs l) rfl, Res.bind_ok, bs_items]; rfl
    have a2 : (mBin dMul (asV (mLst (mCons (mC (.int 0)) mNil))) (mC (.int 8))) [some (bs l), none, none, none, none, none] S = .ok (.lst (bI (List.replicate 8 false))) S :=
      bin_ok (asV_ok (lst_ok rfl (by show 1 ≤ sizeLine; decide))) rfl rfl
    refine set_ok (asL_ok ?_)
    show ((asV (mLc (mSrc (mVar 0)) (gN 2) mYes e__law_check_1 [2])) [some (bs l), none, none, none, none, none] S).bind _ = _
    rw [a1, Res.bind_ok, a2, Res.bind_ok]
    show Res.of (if (bI l).length + (bI (List.replicate 8 false)).length ≤ sizeLine then some (bI l ++ bI (List.replicate 8 false)) else none) S = _
    rw [if_pos (sz (by simp; omega)), bI, bI, bI, List.map_append]
    rfl
  obtain ⟨o3, o4, h2⟩ := rest_loop (S := S) (xs := rng 0 l.length) (L := some (bs l)) (o2 := none) (List.range l.length) (l ++ List.replicate 8 false) none none (fun k hk => by have := List.mem_range.mp hk; simp; omega) (by simp; omega)
  rw [← rng_map] at h2
  have hlen := dfold_len l (List.range l.length) (l ++ List.replicate 8 false)
  have hend := dfold_end l
  generalize (List.range l.length).foldl dstep (l ++ List.replicate 8 false) = row at h2 hlen hend
  have hS2 : clS (S ++ [OB.lst (bI row)]).length (S ++ [OB.lst (bI row)]) = true := by
    refine clS_push hS ?_
    have : bI row = (row.map fun b => if b then (1 : Int) else 0).map D.int := by rw [List.map_map]; rfl
    rw [this]
    exact cls_I _ _
  refine (retV_ok (d := bs (sg8 (crc l))) (d' := bs (sg8 (crc l))) (S' := S ++ [OB.lst (bI row)]) (run_rt (e' := [some (bs l), some (.loc S.length), none, o3, o4, none]) ?_) (by simpa using hS) rfl).trans (by simp)
  show b__law_check [some (bs l), none, none, none, none, none] S = _
  unfold b__law_check
  rw [seq_nx s1]
  refine (seq_nx (for_ok (src_rng' l.length (by omega) (call_ok (one_ok (var_ok rfl)) (bs_len (by omega)))) h2)).trans (ret_ok ?_)
  have hdr : row.drop l.length = sg8 (crc l) := hend
  have hcut : cutG row (some (-8)) none = row.drop l.length := by
    unfold cutG
    have hl2 : row.length = l.length + 8 := by rw [hlen]; simp
    have e1 : HT.sIx row.length 0 (some (-8)) = l.length := by
      simp [HT.sIx, hl2]
      omega
    have e2 : HT.sIx row.length row.length none = row.length := rfl
    rw [e1, e2, List.take_of_length_le (by rw [List.length_drop]; omega)]
  refine str_ok rfl (x := mk []) rfl (one_ok (asV_ok (ds := (sg8 (crc l)).map fun b => bs [b]) (lc_ok (xs := bI (sg8 (crc l))) (src_lst (slice_ok (d := .loc S.length) (var_ok rfl) (part_ok (k := -8) rfl) rfl ?_)) (by rw [List.length_map, sg8_len]; omega) (lc_map (f := fun b => bs [b]) (fun b => D.int (if b then 1 else 0)) _ fun b hb => ⟨_, rfl, ?_⟩)))) (join1 (by rw [sg8_len]; omega))
  · show (lstOf (S ++ [OB.lst (bI row)]) (.loc S.length)).map _ = _
    have hq : lstOf (S ++ [OB.lst (bI row)]) (.loc S.length) = some (bI row) := by simp [lstOf]
    rw [hq, Option.map_some, bI, cutD_map, hcut, hdr]
  · exact bin_ok (u := bs [false, true]) (by rw [x_mC, bs_01]) (var_ok rfl) (by cases b <;> exact bs_ix (by decide) rfl)
/-- sums of signs -/
theorem sum_ok {S : Store} (hS : clS S.length S = true) (a b : List Bool) (h : a.length = b.length) (hl : a.length ≤ 100000) : m__law_sum [bs a, bs b] S = .ok (bs (List.zipWith (· ^^ ·) a b)) S := by
  refine ret_fn hS ((signs_ok (n := a.length) (v := 0) (w := 0) (fun k => (a[k]?.getD false ^^ b[k]?.getD false)) hl rfl rfl rfl fun k hk => ?_).trans ?_) rfl
  · have ha : a[k]? = some a[k] := List.getElem?_eq_getElem hk
    have hb : b[k]? = some b[k] := List.getElem?_eq_getElem (by omega)
    have q : (mBin dNe (mBin dIx (mVar 0) (mVar 2)) (mBin dIx (mVar 1) (mVar 2))) [some (bs a), some (bs b), some (.int (k : Int))] S = .ok (.bl (!decide ([a[k]] = [b[k]]))) S := bin_ok (ix_ok rfl rfl hl ha) (ix_ok rfl rfl (by omega) hb) bs_ne
    show e__law_sum_1 [some (bs a), some (bs b), some (.int (k : Int))] S = _
    unfold e__law_sum_1
    rw [ha, hb]
    refine bin_ok (u := bs [false, true]) (by rw [x_mC, bs_01]) (call_ok (one_ok q) rfl) ?_
    show dIx (bs [false, true]) (.int (if !decide ([a[k]] = [b[k]]) then 1 else 0)) S = some (bs [a[k] ^^ b[k]])
    cases a[k] <;> cases b[k] <;> exact bs_ix (by decide) rfl
  · congr 2
    apply List.ext_getElem?
    intro k
    rw [List.getElem?_map, List.getElem?_zipWith]
    by_cases hk : k < a.length
    · rw [List.getElem?_range hk, List.getElem?_eq_getElem hk, List.getElem?_eq_getElem (show k < b.length by omega)]; simp [hk, show k < b.length by omega]
    · rw [List.getElem?_eq_none (by simp; omega), List.getElem?_eq_none (by omega)]; rfl
theorem flp_one {l : List Bool} {q : Nat} {b : Bool} (h : l[q]? = some b) : flp l [q] = l.take q ++ ([!b] ++ l.drop (q + 1)) := by
  obtain ⟨hq, _⟩ := List.getElem?_eq_some_iff.mp h
  apply List.ext_getElem?
  intro k
  have ht : (l.take q).length = q := by rw [List.length_take]; omega
  rcases Nat.lt_trichotomy k q with z | z | z
  · rw [flp_off (by omega), List.getElem?_append_left (by omega), List.getElem?_take, if_pos z]
  · subst z
    rw [flp_on, h, List.getElem?_append_right (by omega), ht, Nat.sub_self]
    rfl
  · rw [flp_off (by omega), List.getElem?_append_right (by omega), ht, List.getElem?_append_right (by simp; omega), List.getElem?_drop]
    congr 1
    simp; omega
theorem turned_ok {S : Store} (hS : clS S.length S = true) (l : List Bool) (q : Nat) (hq : q < l.length) (hl : l.length ≤ 90000) : m__law_turned [bs l, .int (q : Int)] S = .ok (bs (flp l [q])) S := by
  have hb : l[q]? = some l[q] := List.getElem?_eq_getElem hq
  rw [flp_one hb]
  have e1 : dSlice (bs l) none (some (q : Int)) S = some (bs (l.take q)) := by rw [bs_slice _ _ (by omega), cut_to]
  have e2 : dSlice (bs l) (some ((q + 1 : Nat) : Int)) none S = some (bs (l.drop (q + 1))) := by rw [bs_slice _ _ (by omega), cut_from]
  have e3 : mBin dIx (mC (.str "10")) (mCall dInt (mCons (mBin dIx (mVar 0) (mVar 1)) mNil)) [some (bs l), some (.int (q : Int))] S = .ok (bs [!l[q]]) S := by
    refine bin_ok (u := bs [true, false]) (by rw [x_mC, bs_10]) (call_ok (one_ok (ix_ok rfl rfl (by omega) hb)) (bs_int _)) ?_
    cases l[q] <;> exact bs_ix (by decide) rfl
  have e4 : mBin dAdd (mSlice (mVar 0) mNo (mPart (mVar 1))) (mBin dIx (mC (.str "10")) (mCall dInt (mCons (mBin dIx (mVar 0) (mVar 1)) mNil))) [some (bs l), some (.int (q : Int))] S = .ok (bs (l.take q ++ [!l[q]])) S :=
    bin_ok (slice_ok (var_ok rfl) rfl (part_ok (var_ok rfl)) e1) e3 (bs_add (by simp; omega))
  rw [← List.append_assoc]
  refine ret_fn hS (bin_ok e4 (slice_ok (var_ok rfl) (part_ok (k := ((q + 1 : Nat) : Int)) (bin_ok (var_ok rfl) rfl x_add)) rfl e2) (bs_add (by simp; omega))) rfl
end
end K81


set_option Elab.async false
set_option linter.all false
set_option maxRecDepth 100000
set_option maxHeartbeats 4000000
namespace K81
open PySem PySem.Spec PyProof.Rows L2 M M.Mk
/-! ### what is lost, plainly -/
def rem (u : U) : List U → List U
  | [] => []
  | a :: l => if a = u then l else a :: rem u l
def cnt (u : U) : List U → Nat
  | [] => 0
  | a :: l => (if a = u then 1 else 0) + cnt u l
theorem mem_cnt {u : U} : ∀ {l : List U}, u ∈ l ↔ 0 < cnt u l
  | [] => by simp [cnt]
  | a :: l => by
    have ih := mem_cnt (u := u) (l := l)
    unfold cnt
    by_cases h : a = u
    · rw [if_pos h]; exact ⟨fun _ => by omega, fun _ => by rw [← h]; simp⟩
    · rw [if_neg h, Nat.zero_add, ← ih, List.mem_cons]
      exact ⟨fun z => z.resolve_left fun e => h e.symm, .inr⟩
theorem cnt_rem {u v : U} : ∀ {l : List U}, u ∈ l → cnt v (rem u l) + (if u = v then 1 else 0) = cnt v l
  | [], h => by simp at h
  | a :: l, h => by
    unfold rem
    by_cases e : a = u
    · subst e; rw [if_pos rfl, cnt]; omega
    · have hm : u ∈ l := (List.mem_cons.mp h).resolve_left fun z => e z.symm
      have ih := cnt_rem (v := v) hm
      rw [if_neg e, cnt, cnt]; omega
theorem rem_len {u : U} : ∀ {l : List U}, u ∈ l → (rem u l).length + 1 = l.length
  | [], h => by simp at h
  | a :: l, h => by
    unfold rem
    by_cases e : a = u
    · rw [if_pos e]; rfl
    · have hm : u ∈ l := (List.mem_cons.mp h).resolve_left fun z => e z.symm
      have ih := rem_len hm
      rw [if_neg e, List.length_cons, List.length_cons, ih]
def lostF : List U → List U → Nat → List Nat
  | [], _, _ => []
  | u :: r, left, k => if u ∈ left then lostF r (rem u left) (k + 1) else k :: lostF r left (k + 1)
theorem lost_len : ∀ (l left : List U) (k : Nat), (∀ v, cnt v left ≤ cnt v l) → (lostF l left k).length + left.length = l.length
  | [], left, k, h => by
    cases left with
    | nil => rfl
    | cons a r => have := h a; simp [cnt] at this
  | u :: r, left, k, h => by
    unfold lostF
    by_cases hm : u ∈ left
    · rw [if_pos hm]
      have := lost_len r (rem u left) (k + 1) fun v => by
        have h1 := cnt_rem (v := v) hm
        have h2 := h v
        rw [cnt] at h2; omega
      have := rem_len hm
      simp only [List.length_cons]; omega
    · rw [if_neg hm]
      have := lost_len r left (k + 1) fun v => by
        have h2 := h v
        rw [cnt] at h2
        by_cases e : u = v
        · subst e
          have : ¬ 0 < cnt u left := fun z => hm (mem_cnt.mpr z)
          omega
        · rw [if_neg e] at h2; omega
      simp only [List.length_cons]; omega
theorem lost_why : ∀ (l left : List U) (k j : Nat), j ∈ lostF l left k → ∃ i v, j = k + i ∧ l[i]? = some v ∧ cnt v left < cnt v l
  | [], left, k, j, h => by simp [lostF] at h
  | u :: r, left, k, j, h => by
    unfold lostF at h
    by_cases hm : u ∈ left
    · rw [if_pos hm] at h
      obtain ⟨i, v, e, h1, h2⟩ := lost_why r (rem u left) (k + 1) j h
      have := cnt_rem (v := v) hm
      exact ⟨i + 1, v, by omega, by simpa using h1, by rw [cnt]; omega⟩
    · rw [if_neg hm] at h
      rcases List.mem_cons.mp h with rfl | h
      · have : ¬ 0 < cnt u left := fun z => hm (mem_cnt.mpr z)
        exact ⟨0, u, rfl, rfl, by rw [cnt, if_pos rfl]; omega⟩
      · obtain ⟨i, v, e, h1, h2⟩ := lost_why r left (k + 1) j h
        exact ⟨i + 1, v, by omega, by simpa using h1, by rw [cnt]; omega⟩
theorem keep_cnt (K : Nat → Bool) (v : U) : ∀ (l : List U) (k : Nat), cnt v (keep K k l) ≤ cnt v l
  | [], k => by simp [keep, cnt]
  | u :: r, k => by
    have ih := keep_cnt K v r (k + 1)
    unfold keep
    split
    · rw [cnt, cnt]; omega
    · rw [cnt]; omega
theorem keep_why (K : Nat → Bool) (v : U) : ∀ (l : List U) (k : Nat), cnt v (keep K k l) < cnt v l → ∃ i, l[i]? = some v ∧ K (k + i) = false
  | [], k, h => by simp [keep, cnt] at h
  | u :: r, k, h => by
    unfold keep at h
    have e : ∀ i, k + (i + 1) = k + 1 + i := fun i => by omega
    cases hK : K k with
    | true =>
      rw [hK, if_pos rfl, cnt, cnt] at h
      obtain ⟨i, h1, h2⟩ := keep_why K v r (k + 1) (by omega)
      exact ⟨i + 1, by simpa using h1, by rw [e]; exact h2⟩
    | false =>
      rw [hK, if_neg (by decide), cnt] at h
      by_cases hv : u = v
      · exact ⟨0, by rw [hv]; rfl, hK⟩
      · rw [if_neg hv, Nat.zero_add] at h
        obtain ⟨i, h1, h2⟩ := keep_why K v r (k + 1) h
        exact ⟨i + 1, by simpa using h1, by rw [e]; exact h2⟩
theorem keep_len (K : Nat → Bool) (a b : Nat) (h : ∀ i, K i = false → i = a ∨ i = b) : ∀ (l : List U) (k : Nat), l.length ≤ (keep K k l).length + (if k ≤ a then 1 else 0) + (if k ≤ b then 1 else 0)
  | [], k => by simp
  | u :: r, k => by
    have ih := keep_len K a b h r (k + 1)
    have m1 : (if k + 1 ≤ a then 1 else 0) ≤ (if k ≤ a then 1 else 0) := by split <;> split <;> omega
    have m2 : (if k + 1 ≤ b then 1 else 0) ≤ (if k ≤ b then 1 else 0) := by split <;> split <;> omega
    unfold keep
    cases hK : K k with
    | true => rw [if_pos rfl]; simp only [List.length_cons]; omega
    | false =>
      rw [if_neg (by decide)]
      simp only [List.length_cons]
      rcases h k hK with e | e
      · have : (if k + 1 ≤ a then 1 else 0) + 1 = (if k ≤ a then 1 else 0) := by rw [if_neg (by omega), if_pos (by omega)]
        omega
      · have : (if k + 1 ≤ b then 1 else 0) + 1 = (if k ≤ b then 1 else 0) := by rw [if_neg (by omega), if_pos (by omega)]
        omega
theorem keep_mem (K : Nat → Bool) : ∀ (l : List U) (k : Nat) (u : U), u ∈ keep K k l → u ∈ l
  | [], k, u, h => by simp [keep] at h
  | v :: r, k, u, h => by
    unfold keep at h
    split at h
    · rcases List.mem_cons.mp h with rfl | h
      · simp
      · exact List.mem_cons_of_mem _ (keep_mem K r _ u h)
    · exact List.mem_cons_of_mem _ (keep_mem K r _ u h)
theorem keep_le (K : Nat → Bool) : ∀ (l : List U) (k : Nat), (keep K k l).length ≤ l.length
  | [], k => by simp [keep]
  | u :: r, k => by
    have ih := keep_le K r (k + 1)
    unfold keep
    split <;> simp only [List.length_cons] <;> omega
theorem find_rem (u : U) : ∀ {l : List U}, u ∈ l → ∃ j, l.findIdx? (fun y => decide (y = u)) = some j ∧ l.eraseIdx j = rem u l
  | [], h => by simp at h
  | a :: l, h => by
    rw [List.findIdx?_cons]
    unfold rem
    by_cases e : a = u
    · rw [decide_eq_true e, if_pos rfl, if_pos e]
      exact ⟨0, rfl, rfl⟩
    · have hm : u ∈ l := (List.mem_cons.mp h).resolve_left fun z => e z.symm
      obtain ⟨j, h1, h2⟩ := find_rem u hm
      rw [decide_eq_false e, if_neg (by decide), h1, if_neg e]
      exact ⟨j + 1, rfl, by rw [List.eraseIdx_cons_succ, h2]⟩
section
variable [Tabs]
variable {S : Store}
def cN : Cd Nat := Cd.of Cd.int (fun n => (n : Int)) (fun x y h => by omega)
def cU : Cd U := Cd.pair cN cB
theorem cU_d (u : U) : cU.d u = uD u := rfl
theorem cU_k : cU.k ≤ 3 := by show 1 ≤ 3; decide
theorem loc_py {n : Nat} {us : List U} (h : S[n]? = some (.lst (us.map uD))) : toPy S (.loc n) = some (.list (us.map cU.p)) := by
  show (match S[n]? with | some (.lst xs) => (toPys0 xs).map PyData.list | _ => none) = _
  rw [h]
  have := cU.toS us
  have e : us.map cU.d = us.map uD := rfl
  rw [e] at this
  simp only [this, Option.map_some]
theorem in_loc {n : Nat} {us : List U} {u : U} (h : S[n]? = some (.lst (us.map uD))) : dIn (uD u) (.loc n) S = some (.bl (decide (u ∈ us))) := by
  have h2 := cU.dIn_lst (Nat.le_trans cU_k (by decide)) u us S
  have e : M.dIn (cU.d u) (.lst (us.map cU.d)) S = M.dIn (uD u) (.loc n) S := by
    rw [dIn_gen (x := uD u) (y := .loc n) (by rintro ⟨a, b, _, z⟩; cases z), dIn_gen (x := cU.d u) (y := .lst (us.map cU.d)) (by rintro ⟨a, b, _, z⟩; cases z), loc_py h]
    have h3 : M.toPy S (.lst (us.map cU.d)) = some (.list (us.map cU.p)) := (Cd.lst cU).toPy S us
    rw [h3]
    rfl
  rw [← e, h2]
  exact congrArg (fun b => some (D.bl b)) (decide_eq_decide.mpr Iff.rfl)
theorem remove_ok {n : Nat} {us : List U} {u : U} (h : S[n]? = some (.lst (us.map uD))) (hu : u ∈ us) (hz : us.length ≤ 1000) : gRemove (.loc n) [uD u] S = some (.non, S.set n (.lst ((rem u us).map uD))) := by
  obtain ⟨j, h1, h2⟩ := find_rem u hu
  have ht : toPys0 (us.map uD) = some (us.map cU.p) := cU.toS us
  have hp : toPy S (uD u) = some (cU.p u) := cU.toPy S u
  have hpl : PyData.plainAll (us.map cU.p) = true := by
    have := PyData.plain_of_canLay0 (.list (us.map cU.p)) (cU.canS us)
    exact this
  have hpp : (cU.p u).plain = true := by
    have := PyData.plain_of_canLay0 (.list ([u].map cU.p)) (cU.canS [u])
    simpa [PyData.plain, PyData.plainAll] using this
  have hd : SeqAt.dataPlace (us.map cU.p) (cU.p u) = some j := by
    unfold SeqAt.dataPlace
    rw [List.findIdx?_map]
    refine Eq.trans ?_ h1
    congr 1
    funext y
    exact cU.eqd y u
  unfold gRemove
  simp only [h, ht, hp]
  rw [if_pos ⟨⟨cU.shp (Nat.le_trans cU_k (by decide)) u, hpl, hpp⟩, sz (by rw [List.length_map]; omega)⟩]
  simp only [hd]
  rw [← h2]
  congr 4
  exact (map_eraseIdx'' us j)
where map_eraseIdx'' : ∀ (us : List U) (j : Nat), (us.map uD).eraseIdx j = (us.eraseIdx j).map uD
  | [], _ => rfl
  | _ :: _, 0 => rfl
  | u :: r, j + 1 => by
    show uD u :: (r.map uD).eraseIdx j = uD u :: (r.eraseIdx j).map uD
    rw [map_eraseIdx'' r j]
abbrev nD (l : List Nat) : List D := l.map fun (k : Nat) => D.int (k : Int)
theorem lost_turn {o0 o1 : Option D} {left : List U} {found : List Nat} {u : U} {k : Nat} (hz : left.length ≤ 1000) (hf : found.length ≤ 1000) :
    l_units_lost_3 [o0, o1, some (.loc S.length), some (.loc (S.length + 1)), some (.int (k : Int)), some (uD u)] (S ++ [OB.lst (left.map uD), OB.lst (nD found)]) =
      some (.nx, [o0, o1, some (.loc S.length), some (.loc (S.length + 1)), some (.int (k : Int)), some (uD u)], S ++ [OB.lst ((if u ∈ left then rem u left else left).map uD), OB.lst (nD (if u ∈ left then found else found ++ [k]))]) := by
  have hg : (S ++ [OB.lst (left.map uD), OB.lst (nD found)])[S.length]? = some (OB.lst (left.map uD)) := by simp
  have hg2 : (S ++ [OB.lst (left.map uD), OB.lst (nD found)])[S.length + 1]? = some (OB.lst (nD found)) := by
    rw [List.getElem?_append_right (by omega), show S.length + 1 - S.length = 1 by omega]; rfl
  have ht : mB (mBin dIn (mVar 5) (mVar 2)) [o0, o1, some (.loc S.length), some (.loc (S.length + 1)), some (.int (k : Int)), some (uD u)] (S ++ [OB.lst (left.map uD), OB.lst (nD found)]) = .ok (decide (u ∈ left)) (S ++ [OB.lst (left.map uD), OB.lst (nD found)]) :=
    b_ok (bin_ok (var_ok rfl) (var_ok rfl) (in_loc hg))
  have rl : ∀ n xs, (S ++ [OB.lst (left.map uD), OB.lst (nD found)])[n]? = some (OB.lst xs) → rcv "list" (S ++ [OB.lst (left.map uD), OB.lst (nD found)]) (.loc n) = true := fun n xs h => by simp [rcv, lstOf, h]
  unfold l_units_lost_3
  by_cases hu : u ∈ left
  · rw [decide_eq_true hu] at ht
    rw [if_pos hu, if_pos hu]
    refine (if_t ht).trans (expr_ok (d := .non) (meth_ok (var_ok rfl) (rl _ _ hg) (one_ok (var_ok rfl)) ((remove_ok hg hu hz).trans ?_)))
    congr 2
    rw [List.set_append_right _ _ (Nat.le_refl _), Nat.sub_self]
    rfl
  · rw [decide_eq_false hu] at ht
    rw [if_neg hu, if_neg hu]
    refine (if_f ht).trans (expr_ok (d := .non) (meth_ok (var_ok rfl) (rl _ _ hg2) (one_ok (var_ok rfl)) ?_))
    unfold gAppend
    simp only [hg2]
    rw [if_pos (Nat.lt_of_lt_of_le (show (nD found).length < 100000 by rw [List.length_map]; omega) (by decide))]
    congr 2
    rw [List.set_append_right _ _ (by omega), show S.length + 1 - S.length = 1 by omega, nD, nD, List.map_append]
    rfl
theorem lost_loop {o0 o1 : Option D} {xs : List D} : ∀ (us left : List U) (found : List Nat) (k : Nat) (o4 o5 : Option D), left.length ≤ 1000 → found.length + us.length ≤ 1000 → ∃ left' o4' o5',
    M.forM ⟨xs, []⟩ (gTup 2 (gCons (gN 4) (gCons (gN 5) gNil))) l_units_lost_3 (enumD k (us.map uD)) [o0, o1, some (.loc S.length), some (.loc (S.length + 1)), o4, o5] (S ++ [OB.lst (left.map uD), OB.lst (nD found)]) =
      some (.nx, [o0, o1, some (.loc S.length), some (.loc (S.length + 1)), o4', o5'], S ++ [OB.lst (List.map uD left'), OB.lst (nD (found ++ lostF us left k))])
  | [], left, found, k, o4, o5, _, _ => ⟨left, o4, o5, by rw [show lostF [] left k = [] from rfl, List.append_nil]; exact for_nil⟩
  | u :: us, left, found, k, o4, o5, hz, hf => by
    simp only [List.length_cons] at hf
    have h1 := lost_turn (S := S) (o0 := o0) (o1 := o1) (left := left) (found := found) (u := u) (k := k) hz (by omega)
    by_cases hu : u ∈ left
    · rw [if_pos hu, if_pos hu] at h1
      have hl := rem_len hu
      obtain ⟨l', a, b, h2⟩ := lost_loop (o0 := o0) (o1 := o1) (xs := xs) us (rem u left) found (k + 1) (some (.int (k : Int))) (some (uD u)) (by omega) (by omega)
      refine ⟨l', a, b, (for_cons rfl h1).trans (h2.trans ?_)⟩
      rw [show lostF (u :: us) left k = lostF us (rem u left) (k + 1) by rw [lostF, if_pos hu]]
    · rw [if_neg hu, if_neg hu] at h1
      obtain ⟨l', a, b, h2⟩ := lost_loop (o0 := o0) (o1 := o1) (xs := xs) us left (found ++ [k]) (k + 1) (some (.int (k : Int))) (some (uD u)) hz (by simp; omega)
      refine ⟨l', a, b, (for_cons rfl h1).trans (h2.trans ?_)⟩
      rw [show lostF (u :: us) left k = k :: lostF us left (k + 1) by rw [lostF, if_neg hu], List.append_assoc]
      rfl
theorem lost_ok (hS : clS S.length S = true) {many : Nat} {u0 : U} {us : List U} {x : List Bool} {left : List U} (h0 : u0.2.length = many) (hm : many ≤ 400) (hr : ∀ S, clS S.length S = true → m_read [bs x, .int (many : Int)] S = .ok (.tup (left.map uD)) S) (hz : left.length ≤ 1000) (hu : us.length ≤ 900) :
    m_units_lost [.tup ((u0 :: us).map uD), bs x] S = .ok (.tup (nD (lostF (u0 :: us) left 0))) S := by
  obtain ⟨l', a, b, h⟩ := lost_loop (S := S) (o0 := some (.tup ((u0 :: us).map uD))) (o1 := some (bs x)) (xs := enumD 0 ((u0 :: us).map uD)) (u0 :: us) left [] 0 none none hz (by simp; omega)
  rw [List.nil_append] at h
  have hc : ∀ l : List Nat, ∀ n, cls n (nD l) = true := fun l n => by
    have : nD l = (l.map fun k : Nat => (k : Int)).map D.int := by rw [List.map_map]; rfl
    rw [this]; exact cls_I _ _
  have e0 : mCall dLen (mCons (mBin dIx (mBin dIx (mVar 0) (mC (.int 0))) (mC (.int 1))) mNil) [some (.tup ((u0 :: us).map uD)), some (bs x), none, none, none, none] S = .ok (.int (many : Int)) S := by
    refine call_ok (one_ok (bin_ok (v := .int ((1 : Nat) : Int)) (bin_ok (var_ok rfl) rfl (ix0 _ _ _)) rfl (ix_tup [.int (u0.1 : Int), bs u0.2] 1 (bs u0.2) S rfl))) ((bs_len (by omega)).trans (by rw [h0]))
  have e1 : (mCallN nList (mCons (mCallF 2 m_read (mCons (mVar 1) (mCons (mCall dLen (mCons (mBin dIx (mBin dIx (mVar 0) (mC (.int 0))) (mC (.int 1))) mNil)) mNil))) mNil)) [some (.tup ((u0 :: us).map uD)), some (bs x), none, none, none, none] S = .ok (left.map uD) S := by
    rw [x_mCallN, one_ok (callF_ok (cons_ok (var_ok rfl) (one_ok e0)) (hr S hS)), Res.bind_ok]
    rfl
  refine (retV_ok (d := .tup (nD (lostF (u0 :: us) left 0))) (d' := .tup (nD (lostF (u0 :: us) left 0))) (S' := S ++ [OB.lst (List.map uD l'), OB.lst (nD (lostF (u0 :: us) left 0))]) (run_rt (e' := [some (.tup ((u0 :: us).map uD)), some (bs x), some (.loc S.length), some (.loc (S.length + 1)), a, b]) ?_) (by simpa using hS) ?_).trans (by simp)
  · show b_units_lost [some (.tup ((u0 :: us).map uD)), some (bs x), none, none, none, none] S = _
    unfold b_units_lost
    have s1 : sPar 2 3 (mCons (asL (mCallN nList (mCons (mCallF 2 m_read (mCons (mVar 1) (mCons (mCall dLen (mCons (mBin dIx (mBin dIx (mVar 0) (mC (.int 0))) (mC (.int 1))) mNil)) mNil))) mNil))) (mCons (asL (mLst mNil)) mNil)) [some (.tup ((u0 :: us).map uD)), some (bs x), none, none, none, none] S =
        some (.nx, [some (.tup ((u0 :: us).map uD)), some (bs x), some (.loc S.length), some (.loc (S.length + 1)), none, none], S ++ [OB.lst (left.map uD), OB.lst (nD [])]) := by
      refine (par_ok (asL_ok e1) (asL_ok (lst_ok rfl (Nat.zero_le _)))).trans ?_
      simp
    refine (seq_nx s1).trans ((seq_nx (for_ok (S1 := S ++ [OB.lst (left.map uD), OB.lst (nD [])]) (xs := enumD 0 ((u0 :: us).map uD)) ?_ h)).trans (ret_ok (call_ok (one_ok (var_ok rfl)) ?_)))
    · rw [x_mSrcA, one_ok (var_ok (d := .tup ((u0 :: us).map uD)) rfl), Res.bind_ok]
      rfl
    · have hg2 : (S ++ [OB.lst (List.map uD l'), OB.lst (nD (lostF (u0 :: us) left 0))])[S.length + 1]? = some (OB.lst (nD (lostF (u0 :: us) left 0))) := by
        rw [List.getElem?_append_right (by omega), show S.length + 1 - S.length = 1 by omega]; rfl
      simp only [dTuple, seqOf, lstOf, hg2, Option.map_some]
  · simp only [fz, cl, hc, if_true]
end
end K81


set_option Elab.async false
set_option linter.all false
set_option maxRecDepth 100000
set_option maxHeartbeats 4000000
namespace K81
open PySem PySem.Spec PyProof.Rows L2 M M.Mk
open PySem.StrLaws PySem.Builtin PySem.Builtin.Str
section
variable [Tabs]
variable {S : Store}
/-! ### how often a mark stands -/
theorem occ_all (x m : List Bool) (hm : m ≠ []) (L : Nat) (hap : ∀ i j, Sat x m i → Sat x m j → i < j → i + m.length ≤ j) : ∀ (n lo : Nat) (st : Array Nat × Nat), st.fst.size + n ≤ L → (∀ i, lo ≤ i → Sat x m i → st.snd ≤ i) →
    (forIn (List.range' lo n) st (occBody (mk (cod x)) (mk (cod m)) (mk (cod x)).length L)).run.fst.size = st.fst.size + ((List.range' lo n).filter fun i => decide (Sat x m i)).length
  | 0, lo, st, _, _ => by simp
  | n + 1, lo, st, hL, hfree => by
    rw [List.range'_succ, List.forIn_cons]
    unfold occBody
    by_cases hs : Sat x m lo
    · have hle := hs.le hm
      rw [if_pos ⟨⟨⟨by omega, hfree lo (Nat.le_refl _) hs⟩, by rw [bs_slen, bs_slen]; exact hle⟩, by rw [sat_sub]; exact decide_eq_true hs⟩]
      show (forIn (List.range' (lo + 1) n) (st.fst.push lo, lo + (mk (cod m)).length) (occBody (mk (cod x)) (mk (cod m)) (mk (cod x)).length L)).run.fst.size = _
      rw [occ_all x m hm L hap n (lo + 1) (st.fst.push lo, lo + (mk (cod m)).length) (by simp; omega) (fun i hi hsi => by
        rw [bs_slen]
        exact hap lo i hs hsi (by omega)), List.filter_cons, if_pos (decide_eq_true hs)]
      simp
      omega
    · rw [if_neg (fun z => hs (by have := z.2; rw [sat_sub] at this; exact of_decide_eq_true this))]
      show (forIn (List.range' (lo + 1) n) st (occBody (mk (cod x)) (mk (cod m)) (mk (cod x)).length L)).run.fst.size = _
      rw [occ_all x m hm L hap n (lo + 1) st (by omega) (fun i hi hsi => hfree i (by omega) hsi), List.filter_cons, if_neg (by simpa using hs)]
theorem filter_mult {P : Nat → Bool} {w n : Nat} (hw : 0 < w) (hP : ∀ p, P p = true ↔ ∃ i, i < n ∧ p = i * w) : ∀ (N : Nat), n * w ≤ N → ((List.range' 0 (N + 1)).filter P).length = n := by
  intro N hN
  have hperm : ((List.range' 0 (N + 1)).filter P).Perm ((List.range n).map (· * w)) := by
    refine (List.perm_ext_iff_of_nodup ((List.nodup_range' (step := 1)).filter _) ?_).mpr fun p => ?_
    · rw [List.nodup_iff_pairwise_ne, List.pairwise_map]
      refine (List.nodup_range (n := n)).imp fun h e => h (Nat.eq_of_mul_eq_mul_right hw e)
    · rw [List.mem_filter, List.mem_range'_1, hP, List.mem_map]
      constructor
      · rintro ⟨_, i, hi, rfl⟩; exact ⟨i, List.mem_range.mpr hi, rfl⟩
      · rintro ⟨i, hi, rfl⟩
        have hi := List.mem_range.mp hi
        have := mul_lt (w := w) hi
        exact ⟨⟨Nat.zero_le _, by omega⟩, i, hi, rfl⟩
  rw [hperm.length_eq, List.length_map, List.length_range]
theorem count_ok {many : Nat} {us : List U} (hu : Unit many us) : hCount (mk (cod (strm (us.map bd)))) [bs mark] S = some (.int (us.length : Int)) := by
  have hsx := sat_x hu
  have hxl := x_len hu
  generalize strm (us.map bd) = x at *
  show some (D.int (Txt.count (mk (cod x)) (mk (cod mark)))) = _
  congr 2
  unfold Txt.count
  rw [occ_eq, Array.length_toList, occ_all x mark (by decide) _ (fun i j hi hj hij => by
    obtain ⟨a, ha, rfl⟩ := (hsx i).mp hi
    obtain ⟨b, hb, rfl⟩ := (hsx j).mp hj
    rcases Nat.lt_or_ge a b with z | z
    · have := mul_lt (w := 9 + bl many) z
      rw [mark_len]; omega
    · have := Nat.mul_le_mul_right (9 + bl many) z
      omega) ((mk (cod x)).length + 1 - 0) 0 (#[], 0) (by simp) (fun i _ _ => Nat.zero_le _)]
  have := filter_mult (P := fun i => decide (Sat x mark i)) (w := 9 + bl many) (n := us.length) (by omega) (fun p => by rw [decide_eq_true_eq]; exact hsx p) (mk (cod x)).length (by rw [bs_slen, hxl]; exact Nat.le_refl _)
  rw [Nat.sub_zero, this]
  simp
/-! ### no eight noughts in a body -/
theorem not_in {l m : List Bool} (hm : m ≠ []) (h : ∀ i, ¬ Sat l m i) : dIn (bs m) (bs l) S = some (.bl false) := by
  show some (D.bl (!(occurrences (mk (cod l)) (mk (cod m)) 0 (mk (cod l)).length 1).isEmpty)) = _
  rcases occ_head_from (mk (cod l)) (mk (cod m)) 0 1 (Nat.le_refl _) with ⟨e, _⟩ | ⟨i, r, e, h1, h2, h3⟩
  · rw [e]; rfl
  · exact absurd ((at_sat hm i).mp h2) (h i)
theorem body_zeros {many : Nat} {c : List Bool} (ho : Ones many c) (i : Nat) : ¬ Sat c (List.replicate 8 false) i := by
  intro hs
  have hle := hs.le (by decide)
  have hb : bl many = 8 * ((many + 22) / 7) := by unfold bl; omega
  rw [ho.1, List.length_replicate, hb] at hle
  have e1 := ho.2 (i / 8) (by omega)
  have e2 := sat_get hs (k := 8 * (i / 8) + 7 - i) (by rw [List.length_replicate]; omega)
  rw [show i + (8 * (i / 8) + 7 - i) = 8 * (i / 8) + 7 by omega, e1, List.getElem?_replicate, if_pos (by omega)] at e2
  cases e2
theorem e_zero8 : (.str "00000000" : D) = bs (List.replicate 8 false) := by
  unfold bs; congr 1
/-! ### units drawn -/
theorem sign_turn (l : List Int) (acc : List U) (o1 o3 o4 o6 o7 : Option D) (m : Int) (kind : Int) (h0 : 0 ≤ kind) (h5 : kind < 5) : ∃ b l', e__law_units_1 [some (.loc 0), o1, some (.int m), o3, o4, some (.int kind), o6, o7] [OB.lst (I l), OB.lst (acc.map uD)] = .ok (bs [b]) [OB.lst (I l'), OB.lst (acc.map uD)] := by
  have hR : clS ([OB.lst (acc.map uD)].length + 1) [OB.lst (acc.map uD)] = true := by simp [clS, clO, cls_U]
  have one : ∀ {e : M.Env} {S1 S2 : Store} {me : ME} {k : Nat}, me e S1 = .ok (.int (k : Int)) S2 → k < 2 → ∃ b, mBin dIx (mC (.str "01")) me e S1 = .ok (bs [b]) S2 := by
    intro e S1 S2 me k h hk
    have : k = 0 ∨ k = 1 := by omega
    rcases this with rfl | rfl
    · exact ⟨false, bin_ok (u := bs [false, true]) (by rw [x_mC, bs_01]) h (bs_ix (i := 0) (by decide) rfl)⟩
    · exact ⟨true, bin_ok (u := bs [false, true]) (by rw [x_mC, bs_01]) h (bs_ix (i := 1) (by decide) rfl)⟩
  obtain ⟨k1, l1, hk1, q1⟩ := take_natG 2 (by decide) l [OB.lst (acc.map uD)] hR
  obtain ⟨k2, l2, hk2, q2⟩ := take_natG 2 (by decide) l1 [OB.lst (acc.map uD)] hR
  obtain ⟨k3, l3, hk3, q3⟩ := take_natG 5 (by decide) l2 [OB.lst (acc.map uD)] hR
  generalize he : ([some (.loc 0), o1, some (.int m), o3, o4, some (.int kind), o6, o7] : M.Env) = e
  have hv0 : e[0]? = some (some (.loc 0)) := by rw [← he]; rfl
  have hv5 : e[5]? = some (some (.int kind)) := by rw [← he]; rfl
  obtain ⟨b1, w1⟩ := one (e := e) (me := mCallF 2 m__law_take (mCons (mVar 0) (mCons (mC (.int 2)) mNil))) (callF_ok (cons_ok (var_ok hv0) (one_ok rfl)) q1) hk1
  obtain ⟨b2, w2⟩ := one (e := e) (me := mCallF 2 m__law_take (mCons (mVar 0) (mCons (mC (.int 2)) mNil))) (callF_ok (cons_ok (var_ok hv0) (one_ok rfl)) q2) hk2
  have w3' : mCall dInt (mCons (mBin dEq (mCallF 2 m__law_take (mCons (mVar 0) (mCons (mC (.int 5)) mNil))) (mC (.int 0))) mNil) e [OB.lst (I l2), OB.lst (acc.map uD)] = .ok (.int ((if (k3 : Int) = 0 then 1 else 0 : Nat) : Int)) [OB.lst (I l3), OB.lst (acc.map uD)] := by
    refine call_ok (one_ok (bin_ok (callF_ok (cons_ok (var_ok hv0) (one_ok rfl)) q3) rfl x_eqI)) ?_
    show some (D.int (if decide ((k3 : Int) = 0) = true then 1 else 0)) = _
    by_cases hk : (k3 : Int) = 0
    · rw [if_pos (decide_eq_true hk), if_pos hk]; rfl
    · rw [if_neg (by simpa using hk), if_neg hk]; rfl
  obtain ⟨b3, w3⟩ := one w3' (by split <;> omega)
  have hl : asV (mLst (mCons (mC (.str "0")) (mCons (mC (.str "1")) (mCons (mBin dIx (mC (.str "01")) (mCallF 2 m__law_take (mCons (mVar 0) (mCons (mC (.int 2)) mNil)))) (mCons (mBin dIx (mC (.str "01")) (mCallF 2 m__law_take (mCons (mVar 0) (mCons (mC (.int 2)) mNil)))) (mCons (mBin dIx (mC (.str "01")) (mCall dInt (mCons (mBin dEq (mCallF 2 m__law_take (mCons (mVar 0) (mCons (mC (.int 5)) mNil))) (mC (.int 0))) mNil))) mNil)))))) e [OB.lst (I l), OB.lst (acc.map uD)] = .ok (.lst [bs [false], bs [true], bs [b1], bs [b2], bs [b3]]) [OB.lst (I l3), OB.lst (acc.map uD)] :=
    asV_ok (lst_ok (cons_ok (by rw [x_mC, bs_0]) (cons_ok (by rw [x_mC, bs_1]) (cons_ok w1 (cons_ok w2 (one_ok w3))))) (by show 5 ≤ sizeLine; decide))
  have hk : ∃ b, dIx (.lst [bs [false], bs [true], bs [b1], bs [b2], bs [b3]]) (.int kind) [OB.lst (I l3), OB.lst (acc.map uD)] = some (bs [b]) := by
    have : kind = 0 ∨ kind = 1 ∨ kind = 2 ∨ kind = 3 ∨ kind = 4 := by omega
    rcases this with rfl | rfl | rfl | rfl | rfl
    · exact ⟨_, ix_lst _ 0 _ _ rfl⟩
    · exact ⟨_, ix_lst _ 1 _ _ rfl⟩
    · exact ⟨_, ix_lst _ 2 _ _ rfl⟩
    · exact ⟨_, ix_lst _ 3 _ _ rfl⟩
    · exact ⟨_, ix_lst _ 4 _ _ rfl⟩
  obtain ⟨b, hb⟩ := hk
  exact ⟨b, l3, bin_ok hl (var_ok hv5) hb⟩
theorem unit_turn (l : List Int) (acc : List U) (o1 o5 o6 o7 : Option D) (many k : Nat) (hk : k < 256) (hm : many ≤ 100) (hz : acc.length ≤ 1000) : ∃ u l' o5' o6', (u : U).1 < 256 ∧ u.2.length = many ∧
    l__law_units_2 [some (.loc 0), o1, some (.int (many : Int)), some (.loc 1), some (.int (k : Int)), o5, o6, o7] [OB.lst (I l), OB.lst (acc.map uD)] = some (.nx, [some (.loc 0), o1, some (.int (many : Int)), some (.loc 1), some (.int (k : Int)), o5', o6', o7], [OB.lst (I l'), OB.lst ((acc ++ [u]).map uD)]) := by
  have hR : clS ([OB.lst (acc.map uD)].length + 1) [OB.lst (acc.map uD)] = true := by simp [clS, clO, cls_U]
  obtain ⟨kind, l1, kd0, kd1, q1⟩ := take_exG 5 (by decide) l [OB.lst (acc.map uD)] hR
  obtain ⟨ys, l2, y1, y2, y3⟩ := lc_run (t := gN 7) (me := e__law_units_1) (e := wipeE [some (.loc 0), o1, some (.int (many : Int)), some (.loc 1), some (.int (k : Int)), some (.int kind), o6, o7] [7]) (xs := rng 0 many) (P := fun y => ∃ b, y = bs [b]) (fun l => [OB.lst (I l), OB.lst (acc.map uD)]) (rng 0 many) l1 (fun d hd l => by
    obtain ⟨b, l', h⟩ := sign_turn l acc o1 (some (.loc 1)) (some (.int (k : Int))) o6 (some d) (many : Int) kind kd0 kd1
    exact ⟨_, bs [b], l', rfl, ⟨b, rfl⟩, h⟩)
  obtain ⟨p, rfl⟩ := bits_of y2
  rw [rng_len, List.length_map] at y1
  obtain ⟨v, l3, hv, q2⟩ := take_natG 256 (by decide) l2 [OB.lst (acc.map uD)] hR
  obtain ⟨s, l4, hs, q3⟩ := take_natG 4 (by decide) l3 [OB.lst (acc.map uD)] hR
  obtain ⟨n, hn, hix⟩ : ∃ n : Nat, n < 256 ∧ dIx (.lst [.int (k : Int), .int (k : Int), .int 0, .int (v : Int)]) (.int (s : Int)) [OB.lst (I l4), OB.lst (acc.map uD)] = some (.int (n : Int)) := by
    have : s = 0 ∨ s = 1 ∨ s = 2 ∨ s = 3 := by omega
    rcases this with rfl | rfl | rfl | rfl
    · exact ⟨k, hk, rfl⟩
    · exact ⟨k, hk, rfl⟩
    · exact ⟨0, by omega, rfl⟩
    · exact ⟨v, hv, rfl⟩
  refine ⟨(n, p), l4, some (.int kind), some (bs p), hn, y1, ?_⟩
  unfold l__law_units_2
  refine (seq_nx (set_ok (callF_ok (cons_ok (var_ok rfl) (one_ok rfl)) q1))).trans ?_
  refine (seq_nx (set_ok (str_ok rfl (x := mk []) rfl (one_ok (asV_ok (ds := p.map fun b => bs [b]) ((x_mLc' (src_rng' many (by omega) (var_ok rfl)) (by rw [rng_len]; omega)).trans y3))) (join1 (by omega))))).trans ?_
  refine expr_ok (d := .non) (meth_ok (var_ok rfl) rfl (one_ok (tup_ok (cons_ok (bin_ok (asV_ok (lst_ok (cons_ok (var_ok rfl) (cons_ok (var_ok rfl) (cons_ok rfl (one_ok (callF_ok (cons_ok (var_ok rfl) (one_ok rfl)) q2))))) (by show 4 ≤ sizeLine; decide))) (callF_ok (cons_ok (var_ok rfl) (one_ok rfl)) q3) hix) (one_ok (var_ok rfl))) (by show 2 ≤ sizeLine; decide))) ?_)
  have := app_last (S := St l4) (xs := acc.map uD) (y := uD (n, p)) (by rw [List.length_map]; omega)
  refine Eq.trans this ?_
  rw [List.map_append]
  rfl
theorem units_ex (count many : Nat) (hc : count ≤ 200) (hm : many ≤ 100) (l : List Int) : ∃ us l', us.length = count ∧ Unit many us ∧ m__law_units [.loc 0, .int (count : Int), .int (many : Int)] (St l) = .ok (.tup (us.map uD)) (St l') := by
  obtain ⟨e', S', ⟨acc, l', o4, o5, o6, o7, rfl, rfl, hlen, hu⟩, hf⟩ := for_ex (xs := rng 0 count) (g := gN 4) (b := l__law_units_2) (fun k e S => ∃ (acc : List U) (l : List Int) (o4 o5 o6 o7 : Option D), e = [some (.loc 0), some (.int (count : Int)), some (.int (many : Int)), some (.loc 1), o4, o5, o6, o7] ∧ S = [OB.lst (I l), OB.lst (acc.map uD)] ∧ acc.length = k ∧ Unit many acc) (rng 0 count) 0
    [some (.loc 0), some (.int (count : Int)), some (.int (many : Int)), some (.loc 1), none, none, none, none] [OB.lst (I l), OB.lst (([] : List U).map uD)] ⟨[], l, none, none, none, none, rfl, rfl, rfl, by simp⟩ (by
      rintro d hd k e S hk ⟨acc, l, o4, o5, o6, o7, rfl, rfl, hlen, hu⟩
      rw [rng_len] at hk
      rw [rng_map] at hd
      obtain ⟨i, hi, rfl⟩ := List.mem_map.mp hd
      have hi := List.mem_range.mp hi
      obtain ⟨u, l', o5', o6', h1, h2, h3⟩ := unit_turn l acc (some (.int (count : Int))) o5 o6 o7 many i (by omega) hm (by omega)
      refine ⟨_, _, _, rfl, h3, acc ++ [u], l', some (.int (i : Int)), o5', o6', o7, rfl, rfl, by simp [hlen], fun x hx => ?_⟩
      rcases List.mem_append.mp hx with hx | hx
      · exact hu x hx
      · rw [List.mem_singleton] at hx; subst hx; exact ⟨h1, h2⟩)
  rw [rng_len, Nat.zero_add] at hlen
  refine ⟨acc, l', hlen, hu, ?_⟩
  refine (retV_ok (d := .tup (acc.map uD)) (d' := .tup (acc.map uD)) (S' := [OB.lst (I l'), OB.lst (acc.map uD)]) (run_rt (e' := [some (.loc 0), some (.int (count : Int)), some (.int (many : Int)), some (.loc 1), o4, o5, o6, o7]) ?_) (clS_St l' _) ?_).trans rfl
  · show b__law_units [some (.loc 0), some (.int (count : Int)), some (.int (many : Int)), none, none, none, none, none] (St l) = _
    unfold b__law_units
    have s0 : sSet (gN 3) (asL (mLst mNil)) [some (.loc 0), some (.int (count : Int)), some (.int (many : Int)), none, none, none, none, none] (St l) = some (.nx, [some (.loc 0), some (.int (count : Int)), some (.int (many : Int)), some (.loc 1), none, none, none, none], [OB.lst (I l), OB.lst []]) := set_ok (asL_ok (S1 := St l) (ds := []) (lst_ok rfl (Nat.zero_le _)))
    have hsrc : mSrcA srcR1 (mCons (mVar 1) mNil) [some (.loc 0), some (.int (count : Int)), some (.int (many : Int)), some (.loc 1), none, none, none, none] [OB.lst (I l), OB.lst []] = .ok ⟨rng 0 count, []⟩ [OB.lst (I l), OB.lst []] := src_rng' count (by omega) (var_ok rfl)
    exact (seq_nx s0).trans ((seq_nx (for_ok hsrc hf)).trans (ret_ok (call_ok (one_ok (var_ok rfl)) rfl)))
  · simp only [fz, cl, cls_U, if_true]
end
end K81


set_option Elab.async false
set_option linter.all false
set_option maxRecDepth 100000
set_option maxHeartbeats 4000000
namespace K81
open PySem PySem.Spec PyProof.Rows L2 M M.Mk
section
variable [Tabs]
variable {S S1 S2 : Store} {e : M.Env} {x y : ME}
theorem or2 {s t : MT} (hs : s e S = .ok false S1) (ht : t e S1 = .ok false S2) : mOr s t e S = .ok false S2 := by rw [x_mOr, hs, Res.bind_ok]; exact ht
theorem and_f {s t : MT} (h : s e S = .ok false S1) : mAnd s t e S = .ok false S1 := by rw [x_mAnd, h]; rfl
theorem and_t {s t : MT} {c : Bool} (h : s e S = .ok true S1) (g : t e S1 = .ok c S2) : mAnd s t e S = .ok c S2 := by rw [x_mAnd, h, Res.bind_ok]; exact g
theorem not_tru (h : x e S = .ok (.bl true) S1) : mNot (mTru x) e S = .ok false S1 := by rw [x_mNot, x_mTru, h]; rfl
theorem c_check (hS : clS S1.length S1 = true) {l : List Bool} (hx : x e S = .ok (bs l) S1) (hl : l.length ≤ 900) : mCallF 1 m_check (mCons x mNil) e S = .ok (bs (sg8 (crc l))) S1 := callF_ok (one_ok hx) (check_ok hS (by omega))
theorem c_sum (hS : clS S.length S = true) {a b : List Bool} (hx : x e S = .ok (bs a) S) (hy : y e S = .ok (bs b) S) (h : a.length = b.length) (hl : a.length ≤ 900) : mCallF 2 m__law_sum (mCons x (mCons y mNil)) e S = .ok (bs (List.zipWith (· ^^ ·) a b)) S := callF_ok (cons_ok hx (one_ok hy)) (sum_ok hS a b h (by omega))
theorem c_turned (hS : clS S.length S = true) {l : List Bool} {q : Nat} (hx : x e S = .ok (bs l) S) (hy : y e S = .ok (.int (q : Int)) S) (hq : q < l.length) (hl : l.length ≤ 900) : mCallF 2 m__law_turned (mCons x (mCons y mNil)) e S = .ok (bs (flp l [q])) S := callF_ok (cons_ok hx (one_ok hy)) (turned_ok hS l q hq (by omega))
theorem c_alike (hS : clS S.length S = true) {d : D} (hx : x e S = .ok d S) (hy : y e S = .ok d S) (h : pl 7 d = true) : mCallF 2 m__law_alike (mCons x (mCons y mNil)) e S = .ok (.bl true) S := callF_ok (cons_ok hx (one_ok hy)) (alike_ok hS d h)
theorem nil_ne {m : MA} (h : m e S = .ok [] S) : mB (mBin dNe (asV m) (asV (mLst mNil))) e S = .ok false S := ne_ff (asV_ok h) (asV_ok (lst_ok rfl (Nat.zero_le _))) (neL (x := []) (y := []) rfl)
theorem neBs {a b : List Bool} (h : a = b) : dNe (bs a) (bs b) S = some (.bl false) := bs_ne.trans (by rw [decide_eq_true h]; rfl)
theorem is_bits_ok (hS : clS S.length S = true) (l : List Bool) : m_is_bits [bs l] S = .ok (.bl true) S := ret_fn hS (callF_ok (one_ok (var_ok rfl)) (are_bits_ok hS)) rfl
theorem not_bits (hS : clS S.length S = true) {d : D} (h : dIsInst [d, .ty "str"] S = some (.bl false)) : m_is_bits [d] S = .ok (.bl false) S := by
  have h1 : m_are_bits [d] S = .ok (.bl false) S := by
    refine ret_fn hS ?_ rfl
    have h2 : (mCall dIsInst (mCons (mVar 0) (mCons (mC (.ty "str")) mNil))) [some d, none] S = .ok (.bl false) S := call_ok (cons_ok (var_ok rfl) (one_ok rfl)) h
    show (mAndV _ _) [some d, none] S = _
    rw [x_mAndV, h2, Res.bind_ok]
    rfl
  exact ret_fn hS (callF_ok (one_ok (var_ok rfl)) h1) rfl
theorem bits_012 (hS : clS S.length S = true) : m_is_bits [.str "012"] S = .ok (.bl false) S := by
  have h1 : m_are_bits [.str "012"] S = .ok (.bl false) S := by
    refine ret_fn hS ?_ rfl
    have h2 : (mCall dIsInst (mCons (mVar 0) (mCons (mC (.ty "str")) mNil))) [some (.str "012"), none] S = .ok (.bl true) S := call_ok (cons_ok (var_ok rfl) (one_ok rfl)) rfl
    show (mAndV _ _) [some (.str "012"), none] S = _
    rw [x_mAndV, h2, Res.bind_ok]
    have hi : strItems ("012" : PySem.Str) = [("0" : PySem.Str), "1", "2"].map D.str := by rfl
    have hc : ∀ z : PySem.Str, z ∈ [("0" : PySem.Str), "1", "2"] → dIn (.str z) (.str "01") S = some (.bl (decide (z ≠ "2"))) := by
      intro z hz
      have k0 : Txt.contains ("01" : PySem.Str) "0" = true := by decide +kernel
      have k1 : Txt.contains ("01" : PySem.Str) "1" = true := by decide +kernel
      have k2 : Txt.contains ("01" : PySem.Str) "2" = false := by decide +kernel
      simp only [List.mem_cons, List.not_mem_nil, or_false] at hz
      rcases hz with rfl | rfl | rfl
      · show some (D.bl (Txt.contains ("01" : PySem.Str) "0")) = _
        rw [k0]; rfl
      · show some (D.bl (Txt.contains ("01" : PySem.Str) "1")) = _
        rw [k1]; rfl
      · show some (D.bl (Txt.contains ("01" : PySem.Str) "2")) = _
        rw [k2]; rfl
    show (mAll false (mSrc (mVar 0)) (gN 1) e_are_bits_1 [1]) [some (.str "012"), none] S = _
    refine all_ok (xs := [("0" : PySem.Str), "1", "2"].map D.str) ?_ ((all_mapB D.str (fun z => decide (z ≠ "2")) [("0" : PySem.Str), "1", "2"] fun z hz => ⟨_, rfl, bin_ok (var_ok rfl) rfl (hc z hz)⟩).trans ?_)
    · rw [x_mSrc, var_ok (d := .str "012") rfl, Res.bind_ok, ← hi]; rfl
    · rfl
  exact ret_fn hS (callF_ok (one_ok (var_ok rfl)) h1) rfl
theorem flp_crc {l : List Bool} {p : Nat} (hp : p < l.length) : crc (flp l [p]) ≠ crc l := by
  rw [crc_flp]
  intro h
  refine odd_ne (l := ind l.length [p]) ?_ ?_
  · rw [par_ind _ [p] (by simp) (by intro x hx; rw [List.mem_singleton] at hx; subst hx; exact hp)]; rfl
  · have : crc l ^^^ (crc l ^^^ crc (ind l.length [p])) = crc l ^^^ crc l := by rw [h]
    rw [← BitVec.xor_assoc, BitVec.xor_self, BitVec.zero_xor] at this
    exact this
theorem flp_crc2 {l : List Bool} {p s : Nat} (hp : p < l.length) (hs : s < l.length) (hne : p ≠ s) (h1 : p < s + 127) (h2 : s < p + 127) : crc (flp (flp l [p]) [s]) ≠ crc l := by
  rw [crc_flp, crc_flp, flp_len]
  intro h
  refine pair_ne hne hp hs h1 h2 ?_
  rw [ind_cons l.length p [s] (by simpa using hne), crc_xor _ _ (by rw [ind_len, ind_len])]
  have : crc l ^^^ (crc l ^^^ crc (ind l.length [p]) ^^^ crc (ind l.length [s])) = crc l ^^^ crc l := by rw [h]
  rw [BitVec.xor_assoc, ← BitVec.xor_assoc, BitVec.xor_self, BitVec.zero_xor] at this
  exact this
theorem bits_draw {N : Nat} (hN : N ≤ 1000) (h1 : e[1]? = some (some (.loc 0))) (h3 : e[3]? = some (some (.int (N : Int)))) (h6 : 6 < e.length) (l : List Int) : ∃ p l', p.length = N ∧ e_law_2 e (St l) = .ok (bs p) (St l') := by
  have w1 : ∀ d : D, ((wipeE e [6]).set 6 (some d))[1]? = some (some (.loc 0)) := fun d => by simp [wipeE, h1]
  obtain ⟨ys, l2, y1, y2, y3⟩ := lc_run (t := gN 6) (me := e_law_1) (e := wipeE e [6]) (xs := rng 0 N) (P := fun y => ∃ b, y = bs [b]) St (rng 0 N) l (fun d hd l => by
    obtain ⟨k, l', hk, q⟩ := take_natG 2 (by decide) l [] rfl
    have : k = 0 ∨ k = 1 := by omega
    rcases this with rfl | rfl
    · exact ⟨_, bs [false], l', rfl, ⟨_, rfl⟩, bin_ok (u := bs [false, true]) (by rw [x_mC, bs_01]) (callF_ok (cons_ok (var_ok (w1 d)) (one_ok rfl)) q) (bs_ix (i := 0) (by decide) rfl)⟩
    · exact ⟨_, bs [true], l', rfl, ⟨_, rfl⟩, bin_ok (u := bs [false, true]) (by rw [x_mC, bs_01]) (callF_ok (cons_ok (var_ok (w1 d)) (one_ok rfl)) q) (bs_ix (i := 1) (by decide) rfl)⟩)
  obtain ⟨p, rfl⟩ := bits_of y2
  rw [rng_len, List.length_map] at y1
  exact ⟨p, l2, y1, str_ok rfl (x := mk []) rfl (one_ok (asV_ok (ds := p.map fun b => bs [b]) ((x_mLc' (src_rng' N (by omega) (var_ok h3)) (by rw [rng_len]; omega)).trans y3))) (join1 (by omega))⟩
theorem fm_units {many : Nat} : ∀ (us : List U), Unit many us → (us.map bd).filterMap (parse many) = us
  | [], _ => rfl
  | u :: us, h => by
    have h1 := h u (by simp)
    have ih := fm_units us fun v hv => h v (List.mem_cons_of_mem _ hv)
    have : parse many (bd u) = some u := by unfold bd; rw [← h1.2]; exact parse_bdy h1.1 _
    rw [List.map_cons, List.filterMap_cons, this, ih]
theorem strm_app (A B : List (List Bool)) : strm (A ++ B) = strm A ++ strm B := by simp [strm]
theorem pls_units (n : Nat) (us : List U) : pls (n + 1) (us.map uD) = true := by
  induction us with
  | nil => simp [pls]
  | cons u us ih =>
    simp only [List.map_cons, pls, ih, Bool.and_true]
    simp [uD, pl, pls, bs]
theorem pl_units {us : List U} (h : us.length ≤ 100000) : pl 7 (.tup (us.map uD)) = true := by
  have := pls_units 5 us
  simp [pl, this, h]
theorem neU {a b : List U} (h : a = b) : dNe (.tup (a.map uD)) (.tup (b.map uD)) S = some (.bl false) := ((Cd.tup cU).dNe (by show 2 ≤ 64; decide) a b S).trans (by rw [decide_eq_true h]; rfl)
theorem inU (u : U) (l : List U) : dIn (uD u) (.tup (l.map uD)) S = some (.bl (decide (u ∈ l))) := (cU.dIn_tup (Nat.le_trans cU_k (by decide)) u l S).trans (congrArg (fun b => some (D.bl b)) (decide_eq_decide.mpr Iff.rfl))
theorem inUl (u : U) (l : List U) : dIn (uD u) (.lst (l.map uD)) S = some (.bl (decide (u ∈ l))) := (cU.dIn_lst (Nat.le_trans cU_k (by decide)) u l S).trans (congrArg (fun b => some (D.bl b)) (decide_eq_decide.mpr Iff.rfl))
theorem notin {x y : D} {c : Bool} (h : dIn x y S = some (.bl c)) : dNotIn x y S = some (.bl (!c)) := by
  unfold dNotIn
  rw [h]
  rfl
theorem inUs (a : List U) (l : List (List U)) (h : a ∈ l) : dIn (.tup (a.map uD)) (.lst (l.map fun a => D.tup (a.map uD))) S = some (.bl true) := ((Cd.tup cU).dIn_lst (by show 2 ≤ 63; decide) a l S).trans (by simp [h])
theorem cut1 (d : D) (ds : List D) : dSlice (.tup (d :: ds)) (some 1) none S = some (.tup ds) := by
  show some (D.tup (cutD (d :: ds) (some 1) none)) = _
  have := cutD_map id (d :: ds) (some 1) none
  simp only [List.map_id] at this
  rw [this]
  unfold cutG
  have e1 : HT.sIx (d :: ds).length 0 (some 1) = 1 := by simp [HT.sIx]
  have e2 : HT.sIx (d :: ds).length (d :: ds).length none = (d :: ds).length := rfl
  rw [e1, e2]
  simp
theorem cut_last (us : List U) (hne : us ≠ []) : dSlice (.tup (us.map uD)) none (some (-1)) S = some (.tup (us.dropLast.map uD)) := by
  show some (D.tup (cutD (us.map uD) none (some (-1)))) = _
  rw [cutD_map]
  congr 2
  unfold cutG
  have h1 : 0 < us.length := List.length_pos_iff.mpr hne
  have e2 : HT.sIx us.length us.length (some (-1)) = us.length - 1 := by
    simp [HT.sIx]
    omega
  have e1 : HT.sIx us.length 0 none = 0 := rfl
  rw [e1, e2, List.dropLast_eq_take]
  simp
end
end K81


set_option Elab.async false
set_option linter.all false
set_option maxRecDepth 100000
set_option maxHeartbeats 4000000
namespace K81
open PySem PySem.Spec PyProof.Rows L2 M M.Mk
abbrev KK (many q : Nat) : Nat → Bool := fun j => decide (q < j * (9 + bl many) ∨ (j + 1) * (9 + bl many) + 9 ≤ q)
theorem kk_false {many q i : Nat} (h : KK many q i = false) : i = q / (9 + bl many) ∨ i + 1 = q / (9 + bl many) := by
  have h := of_decide_eq_false h
  have hb : 9 ≤ bl many := by unfold bl; omega
  have e1 : (i + 1) * (9 + bl many) = i * (9 + bl many) + (9 + bl many) := Nat.succ_mul _ _
  have e2 : (i + 2) * (9 + bl many) = (i + 1) * (9 + bl many) + (9 + bl many) := Nat.succ_mul _ _
  have h1 : i ≤ q / (9 + bl many) := (Nat.le_div_iff_mul_le (by omega)).mpr (by omega)
  have h2 : q / (9 + bl many) < i + 2 := (Nat.div_lt_iff_lt_mul (by omega)).mpr (by omega)
  omega
section
variable [Tabs]
theorem lost_ok2 {S : Store} (hS : clS S.length S = true) {many : Nat} {us : List U} {x : List Bool} {left : List U} (hne : us ≠ []) (h0 : ∀ u ∈ us, u.2.length = many) (hm : many ≤ 400) (hr : ∀ S, clS S.length S = true → m_read [bs x, .int (many : Int)] S = .ok (.tup (left.map uD)) S) (hz : left.length ≤ 1000) (hu : us.length ≤ 900) :
    m_units_lost [.tup (us.map uD), bs x] S = .ok (.tup (nD (lostF us left 0))) S := by
  obtain ⟨u0, ut, rfl⟩ := List.exists_cons_of_ne_nil hne
  exact lost_ok hS (h0 u0 (by simp)) hm hr hz (by simp only [List.length_cons] at hu; omega)
theorem units_part {o0 o2 o3 o4 o5 o6 o7 o8 o9 o11 o16 o17 o18 o19 : Option D} {many : Nat} (h1 : 1 ≤ many) (h4 : many ≤ 30) {us ms : List U} (hu : Unit many us) (hm : Unit many ms) (hne : us ≠ []) (hl : us.length ≤ 4) (hml : ms.length ≤ 2) (o10 o15 : Option D) (l : List Int) (p1 p2 p3 p4 p5 p6 p7 p8 p9 : MS)
    (e1 : p1 = sSet (gN 15) (mCallF 1 m_write (mCons (mVar 13) mNil)))
    (e2 : p2 = sIf (mOr (mB (mBin dNe (mCallF 1 m_write (mCons (mBin dAdd (mVar 13) (mVar 14)) mNil)) (mBin dAdd (mVar 15) (mCallF 1 m_write (mCons (mVar 14) mNil))))) (mOr (mNot (mTru (mCallF 2 m__law_alike (mCons (mCallF 2 m_read (mCons (mBin dAdd (mVar 15) (mCallF 1 m_write (mCons (mVar 14) mNil))) (mCons (mVar 12) mNil))) (mCons (mBin dAdd (mVar 13) (mVar 14)) mNil))))) (mB (mBin dNe (mCall dLen (mCons (mVar 15) mNil)) (mBin dMul (mCall dLen (mCons (mVar 13) mNil)) (mBin dAdd (mCall dLen (mCons (mC (.str "000000001")) mNil)) (mCallF 1 m_body_length (mCons (mVar 12) mNil)))))))) (sRet (mC (.bl false))) sSkip)
    (e3 : p3 = sIf (mB (mBin dNe (asV (mLc (mSrc (mVar 13)) (gN 16) t_law_4 (mVar 16) [16])) (asV (mLst mNil)))) (sRet (mC (.bl false))) sSkip)
    (e4 : p4 = sIf (mOr (mB (mBin dNe (mMeth "str" (gStr hCount) (mVar 15) (mCons (mC (.str "000000001")) mNil)) (mCall dLen (mCons (mVar 13) mNil)))) (mB (mBin dNe (asV (mLc (mSrcA srcR1 (mCons (mCall dLen (mCons (mVar 13) mNil)) mNil)) (gN 6) t_law_5 (mVar 6) [6])) (asV (mLst mNil))))) (sRet (mC (.bl false))) sSkip)
    (e5 : p5 = sSet (gN 10) (mCallF 2 m__law_take (mCons (mVar 1) (mCons (mCall dLen (mCons (mVar 15) mNil)) mNil))))
    (e6 : p6 = sSet (gN 17) (mCallF 2 m__law_turned (mCons (mVar 15) (mCons (mVar 10) mNil))))
    (e7 : p7 = sSet (gN 18) (mCallF 2 m_read (mCons (mVar 17) (mCons (mVar 12) mNil))))
    (e8 : p8 = sIf (mOr (mB (mBin dNe (asV (mLc (mSrc (mVar 18)) (gN 16) t_law_6 (mVar 16) [16])) (asV (mLst mNil)))) (mOr (mB (mBin dLt (mCall dLen (mCons (mVar 18) mNil)) (mBin dSub (mCall dLen (mCons (mVar 13) mNil)) (mC (.int 2))))) (mB (mBin dNe (mCall dLen (mCons (mCallF 2 m_units_lost (mCons (mVar 13) (mCons (mVar 17) mNil))) mNil)) (mBin dSub (mCall dLen (mCons (mVar 13) mNil)) (mCall dLen (mCons (mVar 18) mNil))))))) (sRet (mC (.bl false))) sSkip)
    (e9 : p9 = sSeq (sSet (gN 19) (mBin dFdiv (mVar 10) (mBin dAdd (mCall dLen (mCons (mC (.str "000000001")) mNil)) (mCallF 1 m_body_length (mCons (mVar 12) mNil))))) (sSeq (sIf (mB (mBin dNe (asV (mLc (mSrc (mCallF 2 m_units_lost (mCons (mVar 13) (mCons (mVar 17) mNil)))) (gN 6) t_law_7 (mVar 6) [6])) (asV (mLst mNil)))) (sRet (mC (.bl false))) sSkip) (sIf (mOr (mB (mBin dNe (mCallF 2 m_read (mCons (mSlice (mVar 15) (mPart (mC (.int 1))) mNo) (mCons (mVar 12) mNil))) (mSlice (mVar 13) (mPart (mC (.int 1))) mNo))) (mB (mBin dNotIn (mCallF 2 m_read (mCons (mBin dAdd (mVar 15) (mC (.str "0"))) (mCons (mVar 12) mNil))) (asV (mLst (mCons (mSlice (mVar 13) mNo (mPart (mUn dNeg (mC (.int 1))))) (mCons (mVar 13) mNil))))))) (sRet (mC (.bl false))) sSkip))) :
    ∃ e' l', e'.length = 20 ∧ e'[0]? = some o0 ∧ e'[1]? = some (some (.loc 0)) ∧ sSeq p1 (sSeq p2 (sSeq p3 (sSeq p4 (sSeq p5 (sSeq p6 (sSeq p7 (sSeq p8 p9))))))) [o0, some (.loc 0), o2, o3, o4, o5, o6, o7, o8, o9, o10, o11, some (.int (many : Int)), some (.tup (us.map uD)), some (.tup (ms.map uD)), o15, o16, o17, o18, o19] (St l) = some (.nx, e', St l') := by
  subst e1 e2 e3 e4 e5 e6 e7 e8 e9
  have hS : ∀ l : List Int, clS (St l).length (St l) = true := fun l => clS_St l _
  have hb : bl many ≤ 60 ∧ 9 ≤ bl many := by unfold bl; omega
  have hxl := x_len hu
  have hul : ∀ u ∈ us, u.2.length ≤ 400 := fun u h => by have := (hu u h).2; omega
  have hmsl : ∀ u ∈ ms, u.2.length ≤ 400 := fun u h => by have := (hm u h).2; omega
  have hw := write_ok (hS l) us hul (by omega)
  have hwm := write_ok (hS l) ms hmsl (by omega)
  have hum : Unit many (us ++ ms) := fun u h => by
    rcases List.mem_append.mp h with h | h
    · exact hu u h
    · exact hm u h
  have hwum := write_ok (hS l) (us ++ ms) (fun u h => by have := (hum u h).2; omega) (by rw [List.length_append]; omega)
  have hmx := x_len hm
  have hxz : (strm (us.map bd)).length ≤ 300 := by rw [hxl]; have := Nat.mul_le_mul hl (show 9 + bl many ≤ 69 by omega); omega
  have hmz : (strm (ms.map bd)).length ≤ 300 := by rw [hmx]; have := Nat.mul_le_mul hml (show 9 + bl many ≤ 69 by omega); omega
  have happ : strm ((us ++ ms).map bd) = strm (us.map bd) ++ strm (ms.map bd) := by rw [List.map_append, strm_app]
  have hread := fun S (h : clS S.length S = true) => read_ok (S := S) h many ((us ++ ms).map bd) h1 (by omega) hum.ones (by rw [List.length_map, List.length_append]; omega)
  have h1n : 1 ≤ us.length := List.length_pos_iff.mpr hne
  have hxpos : 0 < (strm (us.map bd)).length := by rw [hxl]; have := Nat.mul_le_mul_right (9 + bl many) h1n; omega
  obtain ⟨q, l2, hq, qd⟩ := take_natG (strm (us.map bd)).length hxpos l [] rfl
  have hbent := read_bent hu hq
  have hcount := count_ok (S := St l) hu
  have hrx := fun (S : Store) (h : clS S.length S = true) => read_gen (S := S) h many (flp (strm (us.map bd)) [q]) h1 (by omega) (by rw [flp_len]; omega)
  obtain ⟨u0, ut, eus⟩ := List.exists_cons_of_ne_nil hne
  have htail : rd many ((strm (us.map bd)).drop 1) (((strm (us.map bd)).drop 1).length + 1) (fstAt ((strm (us.map bd)).drop 1) mark 0) = ut := by
    have hu' := hu
    rw [eus] at hu' ⊢
    exact read_tail hu'
  have hmore := read_more hu hne
  have hrt := read_gen (S := St l2) (hS l2) many ((strm (us.map bd)).drop 1) h1 (by omega) (by rw [List.length_drop]; omega)
  have hrm := read_gen (S := St l2) (hS l2) many (strm (us.map bd) ++ [false]) h1 (by omega) (by simp; omega)
  rw [htail] at hrt
  rw [hmore] at hrm
  rw [hbent] at hrx
  rw [happ] at hwum hread
  rw [fm_units _ hum] at hread
  have hsx := sat_x hu
  have hmb : ∀ S : Store, clS S.length S = true → m_body_length [.int (many : Int)] S = .ok (.int (bl many : Int)) S := fun S h => body_length_ok h many
  generalize hF : keep (KK many q) 0 us = F at hrx
  have hFm : ∀ u ∈ F, u ∈ us := fun u h => by rw [← hF] at h; exact keep_mem _ _ _ u h
  have hFl : F.length ≤ us.length := by rw [← hF]; exact keep_le _ _ _
  have hF2 : us.length ≤ F.length + 2 := by
    have := keep_len (KK many q) (q / (9 + bl many)) (q / (9 + bl many) - 1) (fun i hi => by have := kk_false hi; omega) us 0
    rw [hF] at this
    split at this <;> split at this <;> omega
  have hlost := lost_len us F 0 fun v => by rw [← hF]; exact keep_cnt _ v us 0
  have hwhy : ∀ k ∈ lostF us F 0, ∃ v i, us[k]? = some v ∧ us[i]? = some v ∧ (i = q / (9 + bl many) ∨ i + 1 = q / (9 + bl many)) := by
    intro k hk
    obtain ⟨i, v, e, g1, g2⟩ := lost_why us F 0 k hk
    rw [← hF] at g2
    obtain ⟨j, g3, g4⟩ := keep_why (KK many q) v us 0 g2
    rw [Nat.zero_add] at e g4
    subst e
    exact ⟨v, j, g1, g3, kk_false g4⟩
  have ha : q / (9 + bl many) < us.length := (Nat.div_lt_iff_lt_mul (by omega)).mpr (by rw [← hxl]; exact hq)
  generalize hA : q / (9 + bl many) = a at *
  have hlu : ∀ S : Store, clS S.length S = true → m_units_lost [.tup (us.map uD), bs (flp (strm (us.map bd)) [q])] S = .ok (.tup (nD (lostF us F 0))) S := by
    intro S h
    exact lost_ok2 h hne (fun u hmem => (hu u hmem).2) (by omega) hrx (by omega) (by omega)
  have hxb := hxz
  generalize hx : strm (us.map bd) = x at *
  have hlm : ∀ (e : M.Env) (S : Store), mCall dLen (mCons (mC (.str "000000001")) mNil) e S = .ok (.int 9) S := fun e S => call_ok (one_ok (d := bs mark) (by rw [x_mC, bs_mark])) (bs_len (by decide))
  have hwd : ∀ (e : M.Env) (l : List Int), e[12]? = some (some (.int (many : Int))) → mBin dAdd (mCall dLen (mCons (mC (.str "000000001")) mNil)) (mCallF 1 m_body_length (mCons (mVar 12) mNil)) e (St l) = .ok (.int ((9 + bl many : Nat) : Int)) (St l) := fun e l h =>
    bin_ok (hlm _ _) (callF_ok (one_ok (var_ok h)) (hmb _ (hS l))) (x_add.trans (congrArg (fun z => some (D.int z)) (by omega)))
  have lenU : ∀ (e : M.Env) (S : Store), e[13]? = some (some (.tup (us.map uD))) → mCall dLen (mCons (mVar 13) mNil) e S = .ok (.int (us.length : Int)) S := fun e S h => call_ok (one_ok (var_ok h)) (len_tup.trans (by rw [List.length_map]))
  refine ⟨[o0, some (.loc 0), o2, o3, o4, o5, o6, o7, o8, o9, some (.int (q : Int)), o11, some (.int (many : Int)), some (.tup (us.map uD)), some (.tup (ms.map uD)), some (bs x), o16, some (bs (flp x [q])), some (.tup (F.map uD)), some (.int (a : Int))], l2, rfl, rfl, rfl, ?_⟩
  refine (seq_nx (set_ok (callF_ok (one_ok (var_ok rfl)) hw))).trans ?_
  have catU : dAdd (.tup (us.map uD)) (.tup (ms.map uD)) (St l) = some (.tup ((us ++ ms).map uD)) := by
    rw [List.map_append]
    exact cat_tup (by rw [List.length_map, List.length_map]; omega)
  have sw : ∀ e : M.Env, e[15]? = some (some (bs x)) → e[14]? = some (some (.tup (ms.map uD))) → mBin dAdd (mVar 15) (mCallF 1 m_write (mCons (mVar 14) mNil)) e (St l) = .ok (bs (x ++ strm (ms.map bd))) (St l) := fun e h h' => bin_ok (var_ok h) (callF_ok (one_ok (var_ok h')) hwm) (bs_add (by omega))
  refine (seq_nx (if_skip (or_ff ?_ (or_ff ?_ ?_)))).trans ?_
  · exact ne_ff (callF_ok (one_ok (bin_ok (var_ok rfl) (var_ok rfl) catU)) hwum) (sw _ rfl rfl) (neBs rfl)
  · exact not_tru (c_alike (hS l) (callF_ok (cons_ok (sw _ rfl rfl) (one_ok (var_ok rfl))) (hread _ (hS l))) (bin_ok (var_ok rfl) (var_ok rfl) catU) (pl_units (by rw [List.length_append]; omega)))
  · refine ne_ff (call_ok (one_ok (var_ok rfl)) (bs_len (by omega))) (bin_ok (lenU _ _ rfl) (hwd _ l rfl) (x_mul (.inl (by omega)))) (neI ?_)
    rw [hxl]
    exact Int.natCast_mul _ _
  refine (seq_nx (if_skip (nil_ne ((x_mLc' (src_tup (xs := us.map uD) (var_ok rfl)) (by rw [List.length_map]; omega)).trans (lcM_none _ fun d hd => ?_))))).trans ?_
  · obtain ⟨u, hmem, rfl⟩ := List.mem_map.mp hd
    have hu1 := hu u hmem
    have hbody : ∀ e : M.Env, e[16]? = some (some (uD u)) → mCallF 2 m_body (mCons (mBin dIx (mVar 16) (mC (.int 0))) (mCons (mBin dIx (mVar 16) (mC (.int 1))) mNil)) e (St l) = .ok (bs (bd u)) (St l) := fun e h =>
      callF_ok (cons_ok (bin_ok (v := .int ((0 : Nat) : Int)) (var_ok h) rfl (ix_tup [.int (u.1 : Int), bs u.2] 0 _ _ rfl)) (one_ok (bin_ok (v := .int ((1 : Nat) : Int)) (var_ok h) rfl (ix_tup [.int (u.1 : Int), bs u.2] 1 _ _ rfl)))) (body_ok (hS l) u.1 u.2 (by omega))
    have hbl : (bd u).length = bl many := by unfold bd; rw [bdy_len, hu1.2]
    refine ⟨_, rfl, or_ff (ne_ff (call_ok (one_ok (hbody _ rfl)) (bs_len (by omega))) (callF_ok (one_ok (var_ok rfl)) (hmb _ (hS l))) (neI (by rw [hbl]))) ?_⟩
    exact b_ok (bin_ok (u := bs (List.replicate 8 false)) (by rw [x_mC, e_zero8]) (hbody _ rfl) (not_in (by decide) (body_zeros (unit_parse hu hmem).1)))
  refine (seq_nx (if_skip (or_ff ?_ ?_))).trans ?_
  · exact ne_ff (str_ok rfl (x := mk (cod x)) (var_ok rfl) (one_ok (d := bs mark) (by rw [x_mC, bs_mark])) hcount) (lenU _ _ rfl) (neI rfl)
  · refine nil_ne ((x_mLc' (src_rng us.length (by omega) (lenU _ _ rfl)) (by rw [rng_len]; omega)).trans (lcM_none _ fun d hd => ?_))
    rw [rng_map] at hd
    obtain ⟨i, hi, rfl⟩ := List.mem_map.mp hd
    have hi := List.mem_range.mp hi
    have hs := (hsx (i * (9 + bl many))).mpr ⟨i, hi, rfl⟩
    refine ⟨_, rfl, ?_⟩
    have hm1 : dMul (.int (i : Int)) (.int ((9 + bl many : Nat) : Int)) (St l) = some (.int ((i * (9 + bl many) : Nat) : Int)) := (x_mul (.inl (by omega))).trans (congrArg (fun z => some (D.int z)) (Int.natCast_mul _ _).symm)
    refine ne_ff (slice_ok (d := bs (x.drop (i * (9 + bl many)))) (slice_ok (var_ok rfl) (part_ok (bin_ok (var_ok rfl) (hwd _ l rfl) hm1)) rfl ((bs_slice _ _ (by omega)).trans (by rw [cut_from]))) rfl (part_ok (k := ((9 : Nat) : Int)) (hlm _ _)) ((bs_slice _ _ (by rw [List.length_drop]; omega)).trans (by rw [cut_to]))) (v := bs mark) (by rw [x_mC, bs_mark]) (neBs ?_)
    exact hs
  refine (seq_nx (set_ok (callF_ok (cons_ok (var_ok rfl) (one_ok (call_ok (one_ok (var_ok rfl)) (bs_len (by omega))))) qd))).trans ?_
  refine (seq_nx (set_ok (c_turned (hS l2) (var_ok rfl) (var_ok rfl) hq (by omega)))).trans ?_
  refine (seq_nx (set_ok (callF_ok (cons_ok (var_ok rfl) (one_ok (var_ok rfl))) (hrx _ (hS l2))))).trans ?_
  refine (seq_nx (if_skip (or_ff ?_ (or_ff ?_ ?_)))).trans ?_
  · refine nil_ne ((x_mLc' (src_tup (xs := F.map uD) (var_ok rfl)) (by rw [List.length_map]; omega)).trans (lcM_none _ fun d hd => ?_))
    obtain ⟨u, hmem, rfl⟩ := List.mem_map.mp hd
    exact ⟨_, rfl, b_ok (bin_ok (var_ok rfl) (var_ok rfl) (notin ((inU u us).trans (by rw [decide_eq_true (hFm u hmem)]))))⟩
  · refine b_ok (bin_ok (call_ok (one_ok (var_ok rfl)) len_tup) (bin_ok (lenU _ _ rfl) rfl x_sub) (x_lt.trans ?_))
    rw [decide_eq_false (by rw [List.length_map]; omega)]
  · refine ne_ff (call_ok (one_ok (callF_ok (cons_ok (var_ok rfl) (one_ok (var_ok rfl))) (hlu _ (hS l2)))) len_tup) (bin_ok (lenU _ _ rfl) (call_ok (one_ok (var_ok rfl)) len_tup) x_sub) (neI ?_)
    rw [List.length_map, List.length_map]
    omega
  have hdiv : dFdiv (.int (q : Int)) (.int ((9 + bl many : Nat) : Int)) (St l2) = some (.int (a : Int)) := (x_fdiv ⟨by omega, by omega⟩).trans (by rw [← hA]; exact congrArg (fun z => some (D.int z)) (Int.natCast_ediv _ _).symm)
  refine (seq_nx (set_ok (bin_ok (var_ok rfl) (hwd _ l2 rfl) hdiv))).trans ?_
  refine (seq_nx (if_skip (nil_ne ((x_mLc' (src_tup (xs := nD (lostF us F 0)) (callF_ok (cons_ok (var_ok rfl) (one_ok (var_ok rfl))) (hlu _ (hS l2)))) (by rw [List.length_map]; omega)).trans (lcM_none _ fun d hd => ?_))))).trans ?_
  · obtain ⟨k, hk, rfl⟩ := List.mem_map.mp hd
    obtain ⟨v, i, g1, g2, g3⟩ := hwhy k hk
    refine ⟨_, rfl, ?_⟩
    unfold t_law_7
    have hua : us[a]? = some us[a] := List.getElem?_eq_getElem ha
    have hub : us[a - 1]? = some us[a - 1] := List.getElem?_eq_getElem (by omega)
    have c1 := Cd.int.dIn_lst (by show 0 ≤ 63; decide) (k : Int) [(a : Int) - 1, (a : Int)] (St l2)
    have hmax : dMax [.int 0, .int ((a : Int) - 1)] (St l2) = some (.int ((a - 1 : Nat) : Int)) := by
      show some (D.int (if (a : Int) - 1 > 0 then (a : Int) - 1 else 0)) = _
      congr 2
      split <;> omega
    have c2 : dNotIn (uD v) (.lst [uD us[a], uD us[a - 1]]) (St l2) = some (.bl false) := by
      refine notin (c := true) ((inUl v [us[a], us[a - 1]]).trans ?_)
      rw [decide_eq_true]
      rcases g3 with e | e
      · subst e
        rw [hua] at g2
        cases g2
        simp
      · have : i = a - 1 := by omega
        subst this
        rw [hub] at g2
        cases g2
        simp
    have t2 : ∀ e : M.Env, e[6]? = some (some (.int (k : Int))) → e[13]? = some (some (.tup (us.map uD))) → e[19]? = some (some (.int (a : Int))) → mB (mBin dNotIn (mBin dIx (mVar 13) (mVar 6)) (asV (mLst (mCons (mBin dIx (mVar 13) (mVar 19)) (mCons (mBin dIx (mVar 13) (mCall dMax (mCons (mC (.int 0)) (mCons (mBin dSub (mVar 19) (mC (.int 1))) mNil)))) mNil))))) e (St l2) = .ok false (St l2) := fun e h6 h13 h19 =>
      b_ok (bin_ok (bin_ok (var_ok h13) (var_ok h6) (ix_tup _ k (uD v) _ (by rw [List.getElem?_map, g1]; rfl))) (asV_ok (lst_ok (cons_ok (bin_ok (var_ok h13) (var_ok h19) (ix_tup _ a (uD us[a]) _ (by rw [List.getElem?_map, hua]; rfl))) (one_ok (bin_ok (var_ok h13) (call_ok (cons_ok rfl (one_ok (bin_ok (var_ok h19) rfl x_sub))) hmax) (ix_tup _ (a - 1) (uD us[a - 1]) _ (by rw [List.getElem?_map, hub]; rfl))))) (by show 2 ≤ sizeLine; decide))) c2)
    have t1 : ∀ e : M.Env, e[6]? = some (some (.int (k : Int))) → e[19]? = some (some (.int (a : Int))) → mB (mBin dNotIn (mVar 6) (asV (mLst (mCons (mBin dSub (mVar 19) (mC (.int 1))) (mCons (mVar 19) mNil))))) e (St l2) = .ok (!decide ((k : Int) ∈ [(a : Int) - 1, (a : Int)])) (St l2) := fun e h6 h19 =>
      b_ok (bin_ok (var_ok h6) (asV_ok (lst_ok (cons_ok (bin_ok (var_ok h19) rfl x_sub) (one_ok (var_ok h19))) (by show 2 ≤ sizeLine; decide))) (notin c1))
    cases hc : (!decide ((k : Int) ∈ [(a : Int) - 1, (a : Int)])) with
    | false => exact and_f ((t1 _ rfl rfl).trans (by rw [hc]))
    | true => exact and_t ((t1 _ rfl rfl).trans (by rw [hc])) (t2 _ rfl rfl rfl)
  refine if_skip (or_ff ?_ ?_)
  · refine ne_ff (callF_ok (cons_ok (slice_ok (var_ok rfl) (part_ok (k := ((1 : Nat) : Int)) rfl) rfl ((bs_slice _ _ (by omega)).trans (by rw [cut_from]))) (one_ok (var_ok rfl))) hrt) (slice_ok (r := .tup (ut.map uD)) (var_ok rfl) (part_ok rfl) rfl ?_) (neU rfl)
    rw [eus]
    exact cut1 _ _
  · refine b_ok (bin_ok (callF_ok (cons_ok (bin_ok (v := bs [false]) (var_ok rfl) (by rw [x_mC, bs_0]) (bs_add (by simp; omega))) (one_ok (var_ok rfl))) hrm) (asV_ok (lst_ok (cons_ok (slice_ok (var_ok rfl) rfl (part_ok (k := -1) rfl) (cut_last us hne)) (one_ok (var_ok rfl))) (by show 2 ≤ sizeLine; decide))) (notin (c := true) ?_))
    exact inUs us.dropLast [us.dropLast, us] (by simp)
end
end K81


set_option Elab.async false
set_option linter.all false
set_option maxRecDepth 100000
set_option maxHeartbeats 4000000
namespace K81
open PySem PySem.Spec PyProof.Rows L2 M M.Mk
theorem list20 {α : Type} : ∀ (e : List α), e.length = 20 → ∃ a0 a1 a2 a3 a4 a5 a6 a7 a8 a9 a10 a11 a12 a13 a14 a15 a16 a17 a18 a19, e = [a0, a1, a2, a3, a4, a5, a6, a7, a8, a9, a10, a11, a12, a13, a14, a15, a16, a17, a18, a19]
  | [a0, a1, a2, a3, a4, a5, a6, a7, a8, a9, a10, a11, a12, a13, a14, a15, a16, a17, a18, a19], _ => ⟨_, _, _, _, _, _, _, _, _, _, _, _, _, _, _, _, _, _, _, _, rfl⟩
theorem two {P : D → Prop} : ∀ {ys : List D}, ys.length = 2 → (∀ y ∈ ys, P y) → ∃ a b, ys = [a, b] ∧ P a ∧ P b
  | [a, b], _, h => ⟨a, b, rfl, h a (by simp), h b (by simp)⟩
section
variable [Tabs]
theorem turn (o0 o2 : Option D) (l : List Int) (o3 o4 o5 o6 o7 o8 o9 o10 o11 o12 o13 o14 o15 o16 o17 o18 o19 : Option D) :
    ∃ e' l', e'.length = 20 ∧ e'[0]? = some o0 ∧ e'[1]? = some (some (.loc 0)) ∧ l_law_8 [o0, some (.loc 0), o2, o3, o4, o5, o6, o7, o8, o9, o10, o11, o12, o13, o14, o15, o16, o17, o18, o19] (St l) = some (.nx, e', St l') := by
  have hS : ∀ l : List Int, clS (St l).length (St l) = true := fun l => clS_St l _
  obtain ⟨k0, l1, hk0, q0⟩ := take_natG 60 (by decide) l [] rfl
  generalize hN : 1 + k0 = N
  have s1 : sSet (gN 3) (mBin dAdd (mC (.int 1)) (mCallF 2 m__law_take (mCons (mVar 1) (mCons (mC (.int 60)) mNil)))) [o0, some (.loc 0), o2, o3, o4, o5, o6, o7, o8, o9, o10, o11, o12, o13, o14, o15, o16, o17, o18, o19] (St l) =
      some (.nx, [o0, some (.loc 0), o2, some (.int (N : Int)), o4, o5, o6, o7, o8, o9, o10, o11, o12, o13, o14, o15, o16, o17, o18, o19], St l1) := by
    refine set_ok (bin_ok rfl (callF_ok (cons_ok (var_ok rfl) (one_ok rfl)) q0) (x_add.trans ?_))
    congr 2
    omega
  obtain ⟨ys, l2, y1, y2, y3⟩ := lc_run (t := gN 7) (me := e_law_2) (e := wipeE [o0, some (.loc 0), o2, some (.int (N : Int)), o4, o5, o6, o7, o8, o9, o10, o11, o12, o13, o14, o15, o16, o17, o18, o19] [7]) (xs := rng 0 2) (P := fun y => ∃ p : List Bool, y = bs p ∧ p.length = N) St (rng 0 2) l1 (fun d hd l => by
    obtain ⟨p, l', hp, h⟩ := bits_draw (e := [o0, some (.loc 0), o2, some (.int (N : Int)), o4, o5, o6, some d, o8, o9, o10, o11, o12, o13, o14, o15, o16, o17, o18, o19]) (N := N) (by omega) rfl rfl (by simp) l
    exact ⟨_, bs p, l', rfl, ⟨p, rfl, hp⟩, h⟩)
  rw [rng_len] at y1
  obtain ⟨_, _, rfl, ⟨A, rfl, hA⟩, ⟨B, rfl, hB⟩⟩ := two y1 y2
  have s2 : sSet (gLst 2 (gCons (gN 4) (gCons (gN 5) gNil))) (asV (mLc (mSrcA srcR1 (mCons (mC (.int 2)) mNil)) (gN 7) mYes e_law_2 [7])) [o0, some (.loc 0), o2, some (.int (N : Int)), o4, o5, o6, o7, o8, o9, o10, o11, o12, o13, o14, o15, o16, o17, o18, o19] (St l1) =
      some (.nx, [o0, some (.loc 0), o2, some (.int (N : Int)), some (bs A), some (bs B), o6, o7, o8, o9, o10, o11, o12, o13, o14, o15, o16, o17, o18, o19], St l2) :=
    setg_ok (asV_ok ((x_mLc' (src_rng 2 (by decide) rfl) (by rw [rng_len]; decide)).trans y3)) rfl
  obtain ⟨k1, l3, hk1, q1⟩ := take_natG 9 (by decide) l2 [] rfl
  obtain ⟨p, l4, hp, q2⟩ := take_natG N (by omega) l3 [] rfl
  obtain ⟨s, l5, hs, q3⟩ := take_natG N (by omega) l4 [] rfl
  obtain ⟨k3, l6, hk3, q4⟩ := take_natG 30 (by decide) l5 [] rfl
  obtain ⟨k4, l7, hk4, q5⟩ := take_natG 4 (by decide) l6 [] rfl
  generalize hmany : 1 + k3 = many
  obtain ⟨us, l8, hul, hu, q6⟩ := units_ex (1 + k4) many (by omega) (by omega) l7
  obtain ⟨k5, l9, hk5, q7⟩ := take_natG 3 (by decide) l8 [] rfl
  obtain ⟨ms, l10, hml, hm, q8⟩ := units_ex k5 many (by omega) (by omega) l9
  have hA9 : A.length ≤ 900 := by omega
  have hpA : p < A.length := by omega
  have hsA : s < A.length := by omega
  have hne : us ≠ [] := by intro h; subst h; simp at hul; omega
  obtain ⟨e', l', g1, g2, g3, g4⟩ := units_part (o0 := o0) (o2 := o2) (o3 := some (.int (N : Int))) (o4 := some (bs A)) (o5 := some (bs B)) (o6 := o6) (o7 := o7) (o8 := some (bs (sg8 (crc A)))) (o9 := o9) (o11 := some (.int (s : Int))) (o16 := o16) (o17 := o17) (o18 := o18) (o19 := o19) (many := many) (by omega) (by omega) hu hm hne (by omega) (by omega) (some (.int (p : Int))) o15 l10 _ _ _ _ _ _ _ _ _ rfl rfl rfl rfl rfl rfl rfl rfl rfl
  refine ⟨e', l', g1, g2, g3, ?_⟩
  unfold l_law_8
  refine (seq_nx s1).trans ((seq_nx s2).trans ?_)
  refine (seq_nx (set_ok (c_check (hS l2) (var_ok rfl) hA9))).trans ?_
  have hz1 : mBin dAdd (mC (.int 1)) (mCallF 2 m__law_take (mCons (mVar 1) (mCons (mC (.int 9)) mNil))) [o0, some (.loc 0), o2, some (.int (N : Int)), some (bs A), some (bs B), o6, o7, some (bs (sg8 (crc A))), o9, o10, o11, o12, o13, o14, o15, o16, o17, o18, o19] (St l2) = .ok (.int ((1 + k1 : Nat) : Int)) (St l3) := by
    refine bin_ok rfl (callF_ok (cons_ok (var_ok rfl) (one_ok rfl)) q1) (x_add.trans (congrArg (fun z => some (D.int z)) (by omega)))
  refine (seq_nx (if_skip (or2 (S1 := St l2) ?_ (or2 (S1 := St l2) (S2 := St l3) ?_ ?_)))).trans ?_
  · refine not_tru (c_alike (hS l2) (d := bs (sg8 (crc A))) (var_ok rfl) (callF_ok (one_ok (var_ok rfl)) (rest_ok (hS l2) A hA9)) rfl)
  · refine ne_ff (c_check (hS l2) (c_sum (hS l2) (var_ok rfl) (var_ok rfl) (by omega) hA9) (by simp; omega)) (c_sum (hS l2) (var_ok rfl) (c_check (hS l2) (var_ok rfl) (by omega)) rfl (by rw [sg8_len]; omega)) (neBs ?_)
    rw [crc_xor A B (by omega), sg8_xor]
  · refine b_ok (bin_ok (c_check (hS l3) (bin_ok (bin_ok (u := bs [false]) (by rw [x_mC, bs_0]) hz1 (bs_mul0 _ (by omega))) (var_ok rfl) (bs_add (by simp; omega))) (by simp; omega)) (var_ok rfl) (neBs ?_))
    rw [crc_zeros_app]
  have hsum : mBin dAdd (mVar 4) (mVar 8) [o0, some (.loc 0), o2, some (.int (N : Int)), some (bs A), some (bs B), o6, o7, some (bs (sg8 (crc A))), o9, o10, o11, o12, o13, o14, o15, o16, o17, o18, o19] (St l3) = .ok (bs (A ++ sg8 (crc A))) (St l3) := bin_ok (var_ok rfl) (var_ok rfl) (bs_add (by rw [sg8_len]; omega))
  refine (seq_nx (if_skip (or_ff ?_ (or_ff ?_ ?_)))).trans ?_
  · refine ne_ff (c_check (hS l3) hsum (by simp [sg8_len]; omega)) (v := bs (List.replicate 8 false)) (by rw [x_mC, e_zero8]) (neBs ?_)
    rw [crc_own, sg8_zero]
  · refine ne_ff (c_check (hS l3) (bin_ok (u := bs [false]) (by rw [x_mC, bs_0]) (var_ok rfl) (bs_mul0 N (by omega))) (by simp; omega)) (v := bs (List.replicate 8 false)) (by rw [x_mC, e_zero8]) (neBs ?_)
    rw [crc, run_zeros0, sg8_zero]
  · exact b_ok (bin_ok (callF_ok (one_ok hsum) (is_bits_ok (hS l3) _)) rfl rfl)
  refine (seq_nx (if_skip (or_ff ?_ ?_))).trans ?_
  · refine nil_ne ((x_mLc' (src_lst (xs := [.non, .str "012", .int 5, .tup [.str "0"], .lst [.str "1"]]) (asV_ok (lst_ok (cons_ok rfl (cons_ok rfl (cons_ok rfl (cons_ok (tup_ok (one_ok rfl) (by show 1 ≤ sizeLine; decide)) (one_ok (asV_ok (lst_ok (one_ok rfl) (by show 1 ≤ sizeLine; decide)))))))) (by show 5 ≤ sizeLine; decide)))) (by simp)).trans (lcM_none _ fun d hd => ?_))
    have hb : m_is_bits [d] (St l3) = .ok (.bl false) (St l3) := by
      simp only [List.mem_cons, List.not_mem_nil, or_false] at hd
      rcases hd with rfl | rfl | rfl | rfl | rfl
      · exact not_bits (hS l3) rfl
      · exact bits_012 (hS l3)
      · exact not_bits (hS l3) rfl
      · exact not_bits (hS l3) rfl
      · exact not_bits (hS l3) rfl
    exact ⟨_, rfl, b_ok (bin_ok (callF_ok (one_ok (var_ok rfl)) hb) rfl rfl)⟩
  · exact b_ok (bin_ok (callF_ok (one_ok (d := bs []) (by rw [x_mC, bs_nil])) (is_bits_ok (hS l3) [])) rfl rfl)
  refine (seq_nx (set_ok (callF_ok (cons_ok (var_ok rfl) (one_ok (var_ok rfl))) q2))).trans ?_
  refine (seq_nx (if_skip (S1 := St l4) ?_)).trans ?_
  · refine b_ok (bin_ok (c_check (hS l4) (c_turned (hS l4) (var_ok rfl) (var_ok rfl) hpA hA9) (by rw [flp_len]; omega)) (var_ok rfl) (bs_eq.trans ?_))
    rw [decide_eq_false (fun h => flp_crc hpA (sg8_inj _ _ h))]
  refine (seq_nx (set_ok (callF_ok (cons_ok (var_ok rfl) (one_ok (var_ok rfl))) q3))).trans ?_
  refine (seq_nx (if_skip (S1 := St l5) ?_)).trans ?_
  · by_cases hps : (s : Int) = (p : Int)
    · refine and_f (b_ok (bin_ok (var_ok rfl) (var_ok rfl) (neI hps)))
    · refine and_t (b_ok (bin_ok (var_ok rfl) (var_ok rfl) (x_neI.trans (by rw [decide_eq_false hps]; rfl)))) ?_
      by_cases hd : (if (s : Int) - (p : Int) < 0 then -((s : Int) - (p : Int)) else (s : Int) - (p : Int)) < 127
      · refine and_t (b_ok (bin_ok (call_ok (one_ok (bin_ok (var_ok rfl) (var_ok rfl) x_sub)) x_abs) rfl (x_lt.trans (by rw [decide_eq_true hd])))) ?_
        refine b_ok (bin_ok (c_check (hS l5) (c_turned (hS l5) (c_turned (hS l5) (var_ok rfl) (var_ok rfl) hpA hA9) (var_ok rfl) (by rw [flp_len]; exact hsA) (by rw [flp_len]; omega)) (by rw [flp_len, flp_len]; omega)) (var_ok rfl) (bs_eq.trans ?_))
        have h1 : p < s + 127 ∧ s < p + 127 := by split at hd <;> omega
        rw [decide_eq_false (fun h => flp_crc2 hpA hsA (fun e => hps (by rw [e])) h1.1 h1.2 (sg8_inj _ _ h))]
      · exact and_f (b_ok (bin_ok (call_ok (one_ok (bin_ok (var_ok rfl) (var_ok rfl) x_sub)) x_abs) rfl (x_lt.trans (by rw [decide_eq_false hd]))))
  have s12 : sSet (gN 12) (mBin dAdd (mC (.int 1)) (mCallF 2 m__law_take (mCons (mVar 1) (mCons (mC (.int 30)) mNil)))) [o0, some (.loc 0), o2, some (.int (N : Int)), some (bs A), some (bs B), o6, o7, some (bs (sg8 (crc A))), o9, some (.int (p : Int)), some (.int (s : Int)), o12, o13, o14, o15, o16, o17, o18, o19] (St l5) =
      some (.nx, [o0, some (.loc 0), o2, some (.int (N : Int)), some (bs A), some (bs B), o6, o7, some (bs (sg8 (crc A))), o9, some (.int (p : Int)), some (.int (s : Int)), some (.int (many : Int)), o13, o14, o15, o16, o17, o18, o19], St l6) := by
    refine set_ok (bin_ok rfl (callF_ok (cons_ok (var_ok rfl) (one_ok rfl)) q4) (x_add.trans (congrArg (fun z => some (D.int z)) (by omega))))
  refine (seq_nx s12).trans ?_
  have c4 : mBin dAdd (mC (.int 1)) (mCallF 2 m__law_take (mCons (mVar 1) (mCons (mC (.int 4)) mNil))) [o0, some (.loc 0), o2, some (.int (N : Int)), some (bs A), some (bs B), o6, o7, some (bs (sg8 (crc A))), o9, some (.int (p : Int)), some (.int (s : Int)), some (.int (many : Int)), o13, o14, o15, o16, o17, o18, o19] (St l6) = .ok (.int ((1 + k4 : Nat) : Int)) (St l7) :=
    bin_ok rfl (callF_ok (cons_ok (var_ok rfl) (one_ok rfl)) q5) (x_add.trans (congrArg (fun z => some (D.int z)) (by omega)))
  have u1 : mCallF 3 m__law_units (mCons (mVar 1) (mCons (mBin dAdd (mC (.int 1)) (mCallF 2 m__law_take (mCons (mVar 1) (mCons (mC (.int 4)) mNil)))) (mCons (mVar 12) mNil))) [o0, some (.loc 0), o2, some (.int (N : Int)), some (bs A), some (bs B), o6, o7, some (bs (sg8 (crc A))), o9, some (.int (p : Int)), some (.int (s : Int)), some (.int (many : Int)), o13, o14, o15, o16, o17, o18, o19] (St l6) = .ok (.tup (us.map uD)) (St l8) :=
    callF_ok (cons_ok (var_ok rfl) (cons_ok c4 (one_ok (var_ok rfl)))) q6
  have c3 : mCallF 2 m__law_take (mCons (mVar 1) (mCons (mC (.int 3)) mNil)) [o0, some (.loc 0), o2, some (.int (N : Int)), some (bs A), some (bs B), o6, o7, some (bs (sg8 (crc A))), o9, some (.int (p : Int)), some (.int (s : Int)), some (.int (many : Int)), o13, o14, o15, o16, o17, o18, o19] (St l8) = .ok (.int (k5 : Int)) (St l9) := callF_ok (cons_ok (var_ok rfl) (one_ok rfl)) q7
  have u2 : mCallF 3 m__law_units (mCons (mVar 1) (mCons (mCallF 2 m__law_take (mCons (mVar 1) (mCons (mC (.int 3)) mNil))) (mCons (mVar 12) mNil))) [o0, some (.loc 0), o2, some (.int (N : Int)), some (bs A), some (bs B), o6, o7, some (bs (sg8 (crc A))), o9, some (.int (p : Int)), some (.int (s : Int)), some (.int (many : Int)), o13, o14, o15, o16, o17, o18, o19] (St l8) = .ok (.tup (ms.map uD)) (St l10) :=
    callF_ok (cons_ok (var_ok rfl) (cons_ok c3 (one_ok (var_ok rfl)))) q8
  have s13 : sSet (gTup 2 (gCons (gN 13) (gCons (gN 14) gNil))) (mTup (mCons (mCallF 3 m__law_units (mCons (mVar 1) (mCons (mBin dAdd (mC (.int 1)) (mCallF 2 m__law_take (mCons (mVar 1) (mCons (mC (.int 4)) mNil)))) (mCons (mVar 12) mNil)))) (mCons (mCallF 3 m__law_units (mCons (mVar 1) (mCons (mCallF 2 m__law_take (mCons (mVar 1) (mCons (mC (.int 3)) mNil))) (mCons (mVar 12) mNil)))) mNil)))
      [o0, some (.loc 0), o2, some (.int (N : Int)), some (bs A), some (bs B), o6, o7, some (bs (sg8 (crc A))), o9, some (.int (p : Int)), some (.int (s : Int)), some (.int (many : Int)), o13, o14, o15, o16, o17, o18, o19] (St l6) =
      some (.nx, [o0, some (.loc 0), o2, some (.int (N : Int)), some (bs A), some (bs B), o6, o7, some (bs (sg8 (crc A))), o9, some (.int (p : Int)), some (.int (s : Int)), some (.int (many : Int)), some (.tup (us.map uD)), some (.tup (ms.map uD)), o15, o16, o17, o18, o19], St l10) :=
    setg_ok (tup_ok (cons_ok u1 (one_ok u2)) (by show 2 ≤ sizeLine; decide)) rfl
  refine (seq_nx s13).trans ?_
  exact g4
theorem plain_law (ns : List Int) (hl : ns.length ≤ 63) (hb : ∀ z ∈ ns, Builtin.Int.intBits z ≤ 1048576) : ∃ S', m_law [.fro (ns.map D.int)] [] = .ok (.bl true) S' := by
  obtain ⟨l, hd⟩ := draws_ex ns hl
  obtain ⟨e', S', ⟨l', _, h0, _, rfl⟩, hf⟩ := for_ex (xs := rng 0 5) (g := gN 2) (b := l_law_8) (fun _ e S => ∃ l, e.length = 20 ∧ e[0]? = some (some (.fro (I ns))) ∧ e[1]? = some (some (.loc 0)) ∧ S = St l) (rng 0 5) 0
    [some (.fro (I ns)), some (.loc 0), none, none, none, none, none, none, none, none, none, none, none, none, none, none, none, none, none, none] (St l) ⟨l, rfl, rfl, rfl, rfl⟩ (by
      rintro d hd k e S hk ⟨l, hlen, h0, h1, rfl⟩
      obtain ⟨a0, a1, a2, a3, a4, a5, a6, a7, a8, a9, a10, a11, a12, a13, a14, a15, a16, a17, a18, a19, rfl⟩ := list20 e hlen
      cases h0
      cases h1
      obtain ⟨e', l', k1, k2, k3, k4⟩ := turn (some (.fro (I ns))) (some d) l a3 a4 a5 a6 a7 a8 a9 a10 a11 a12 a13 a14 a15 a16 a17 a18 a19
      exact ⟨_, e', St l', rfl, k4, l', k1, k2, k3, rfl⟩)
  refine ⟨(St l').take 0, (retV_ok (d := .bl true) (S' := St l') (run_rt (e' := e') ?_) rfl rfl)⟩
  refine (seq_nx (set_ok (callF_ok (one_ok (var_ok rfl)) hd))).trans ?_
  exact (seq_nx (for_ok (src_rng 5 (by decide) rfl) hf)).trans (ret_ok rfl)
end
end K81


set_option Elab.async false
set_option linter.all false
set_option maxRecDepth 100000
set_option maxHeartbeats 4000000
namespace M
open PySem PySem.Spec PyProof.Rows L2
theorem tabB_of {base : Heap} {mg : Str → Option Value} {c P : Addr} (t : LamX.TabB base mg c P) : GxR.TabB base mg c P := ⟨t.code, t.bm, t.gP⟩
theorem cx_false {P : Program} {w : World} {H : Hp} {s s' : Shared} {e : Value} (h : L2.CX P w [] H s (fun _ _ _ => False) e s') : False := by
  obtain ⟨a, B, H', cls, d, rfl, fl, h1, h2, h3, h4, h5, z⟩ := h
  exact z
theorem code_ref {K : PySem.W.Frag} {x : Str} {params : Arguments} {body : List Stmt} {scope : Scope} {fd : FuncData} (F : FunD K x x params body scope [] [] (He.fAd K (x, none)) fd) : fd.code = .ref (He.codeOf K (x, none)) := by
  obtain ⟨oc, od, dV, kV, doc, pm, an, cdv, ct, osl, rfl, lk, hcd, _, _⟩ := F.ex
  obtain ⟨c, rfl⟩ := He.codeIn_ref hcd
  show Value.ref c = _
  rw [He.codeOf_eq lk rfl]
theorem spM_start {K : PySem.W.Frag} {mg : Str → Option Value} {H : Hp} {a : Addr} {ns : List Int} {m : List D → Store → Res D} {S' : Store} (e : m [.fro (ns.map D.int)] [] = .ok (.bl true) S') {cs : List (Addr × Addr)}
    (hT : ∀ p ∈ cs, H p.2 = some (.tbl #[])) (hS : SqL K H a (ns.map V.int)) : @spM ⟨cs.map (·.2)⟩ K mg 1 m [.ref a] H (fun v _ => v = .bl true) fun _ _ _ => False := by
  letI : Tabs := ⟨cs.map (·.2)⟩
  refine ⟨⟨[], []⟩, [.fro (ns.map D.int)], [], rfl, .cons ?_ .nil, ⟨rfl, List.nodup_nil, fun n o a e => by simp at e, fun a h => by simp at h, fun b hb => ?_⟩, ?_⟩
  · rcases hS with h | h
    · exact .fro h (by simp) (by simp) (RepDs.of_ints ns)
    · exact .frk h (RepDs.of_ints ns)
  · obtain ⟨p, hp, rfl⟩ := List.mem_map.mp hb
    exact ⟨#[], hT p hp, trivial, fun pos cv hc => by simp [codeAmong] at hc⟩
  · rw [e]
    exact fun ρ' H' f R' v r => r.inj_bl
end M


set_option Elab.async false
set_option linter.all false
set_option maxRecDepth 100000
set_option maxHeartbeats 0
namespace K81
open PySem PySem.Spec PyProof.Rows L2 M
def d__law_draws : He.DefD := ⟨("_law_draws", none), "_law_draws", "_law_draws", defArgs s__law_draws, defBody s__law_draws, defScope s__law_draws, [], []⟩
def d__law_take : He.DefD := ⟨("_law_take", none), "_law_take", "_law_take", defArgs s__law_take, defBody s__law_take, defScope s__law_take, [], []⟩
def d_written : He.DefD := ⟨("written", none), "written", "written", defArgs s_written, defBody s_written, defScope s_written, [], []⟩
def d_check : He.DefD := ⟨("check", none), "check", "check", defArgs s_check, defBody s_check, defScope s_check, [], []⟩
def d__law_alike : He.DefD := ⟨("_law_alike", none), "_law_alike", "_law_alike", defArgs s__law_alike, defBody s__law_alike, defScope s__law_alike, [], []⟩
def d__law_check : He.DefD := ⟨("_law_check", none), "_law_check", "_law_check", defArgs s__law_check, defBody s__law_check, defScope s__law_check, [], []⟩
def d__law_sum : He.DefD := ⟨("_law_sum", none), "_law_sum", "_law_sum", defArgs s__law_sum, defBody s__law_sum, defScope s__law_sum, [], []⟩
def d_are_bits : He.DefD := ⟨("are_bits", none), "are_bits", "are_bits", defArgs s_are_bits, defBody s_are_bits, defScope s_are_bits, [], []⟩
def d_is_bits : He.DefD := ⟨("is_bits", none), "is_bits", "is_bits", defArgs s_is_bits, defBody s_is_bits, defScope s_is_bits, [], []⟩
def d__law_turned : He.DefD := ⟨("_law_turned", none), "_law_turned", "_law_turned", defArgs s__law_turned, defBody s__law_turned, defScope s__law_turned, [], []⟩
def d__law_units : He.DefD := ⟨("_law_units", none), "_law_units", "_law_units", defArgs s__law_units, defBody s__law_units, defScope s__law_units, [], []⟩
def d_data_length : He.DefD := ⟨("data_length", none), "data_length", "data_length", defArgs s_data_length, defBody s_data_length, defScope s_data_length, [], []⟩
def d_body : He.DefD := ⟨("body", none), "body", "body", defArgs s_body, defBody s_body, defScope s_body, [], []⟩
def d_write : He.DefD := ⟨("write", none), "write", "write", defArgs s_write, defBody s_write, defScope s_write, [], []⟩
def d_is_number : He.DefD := ⟨("is_number", none), "is_number", "is_number", defArgs s_is_number, defBody s_is_number, defScope s_is_number, [], []⟩
def d_body_length : He.DefD := ⟨("body_length", none), "body_length", "body_length", defArgs s_body_length, defBody s_body_length, defScope s_body_length, [], []⟩
def d_read_number : He.DefD := ⟨("read_number", none), "read_number", "read_number", defArgs s_read_number, defBody s_read_number, defScope s_read_number, [], []⟩
def d_unit_in : He.DefD := ⟨("unit_in", none), "unit_in", "unit_in", defArgs s_unit_in, defBody s_unit_in, defScope s_unit_in, [], []⟩
def d_read : He.DefD := ⟨("read", none), "read", "read", defArgs s_read, defBody s_read, defScope s_read, [], []⟩
def d_units_lost : He.DefD := ⟨("units_lost", none), "units_lost", "units_lost", defArgs s_units_lost, defBody s_units_lost, defScope s_units_lost, [], []⟩
def d_law : He.DefD := ⟨("law", none), "law", "law", defArgs s_law, defBody s_law, defScope s_law, [], []⟩
def fnl : List He.DefD := [d__law_draws, d__law_take, d_written, d_check, d__law_alike, d__law_check, d__law_sum, d_are_bits, d_is_bits, d__law_turned, d__law_units, d_data_length, d_body, d_write, d_is_number, d_body_length, d_read_number, d_unit_in, d_read, d_units_lost, d_law]
def fal : List He.Fa := [.glo "_law_draws", .glo "_law_take", .glo "written", .glo "check", .glo "_law_alike", .glo "_law_check", .glo "_law_sum", .glo "are_bits", .glo "is_bits", .glo "_law_turned", .glo "_law_units", .glo "data_length", .glo "body", .glo "write", .glo "is_number", .glo "body_length", .glo "read_number", .glo "unit_in", .glo "read", .glo "units_lost", .glo "law", .int "CHECK" 8, .int "DEGREE" 8, .int "GROUP" 7, .int "LOWER" 7, .str "MARK" "000000001", .int "MOST_PAYLOAD" 400, .int "NUMBER" 8, .free "abs", .free "all", .free "bool", .free "enumerate", .free "int", .free "isinstance", .free "len", .free "list", .free "max", .free "range", .free "reversed", .free "str", .free "tuple"]
def tfl : List He.Defn := [("are_bits", none), ("unit_in", none)]
abbrev Rw : PySem.W.OpenRow := PySem.W.OpenLaw.row PySem.Challenge.rw_lostastold_k81_whole_checks_and_bodies_b
abbrev hk : PySem.W.Hook := He.hookX 4 fal fnl [] tfl (fun _ => true)
def ob (s : PySem.W.SharedT) : He.AlX := He.obsX 4 fal fnl [] tfl (fun _ => true) (HandSHeadRun.getT s)
theorem ob_eq (s : PySem.W.SharedT) : ob s = hk.obs s.abs := He.obsX_eq (HandSHeadRun.getT_eq s)
def loose : List PySem.Str := ["is_number", "are_bits", "written", "read_number", "DEGREE", "LOWER", "is_bits", "check", "LostError", "OutOfRange", "Malformed", "MARK", "GROUP", "NUMBER", "CHECK", "MOST_PAYLOAD", "data_length", "body_length", "body", "write", "unit_in", "read", "units_lost", "_law_draws", "_law_take", "_law_alike", "_law_check", "_law_units", "_law_sum", "_law_turned"]
theorem run (w : World) : HandSHeadRun.RunEq Rw (PySem.W.view Rw.prog [35]) hk ob 6000 loose w := by
  intro os
  kernel_rfl
theorem facts {P : Program} {w : World} {K : PySem.W.Frag} {h : Heap} {mg : Str → Option Value} {f : Addr} (X : K.In h) (G : h.Ns mainGlobals mg) (hfa : mg ("law" : Str) = some (.ref f)) (c : He.SaysX fal fnl [] tfl (fun _ => true) w h K) {l : PySem.W.OpenLaw} :
    LamX.LawAtS l w K (L2.CX l.prog w) 11 63 "script" mg f h := by
  have D := c.t.d
  obtain ⟨fd__law_draws, F__law_draws⟩ := D.def_ 0 (d := d__law_draws) rfl
  obtain ⟨fd__law_take, F__law_take⟩ := D.def_ 1 (d := d__law_take) rfl
  obtain ⟨fd_written, F_written⟩ := D.def_ 2 (d := d_written) rfl
  obtain ⟨fd_check, F_check⟩ := D.def_ 3 (d := d_check) rfl
  obtain ⟨fd__law_alike, F__law_alike⟩ := D.def_ 4 (d := d__law_alike) rfl
  obtain ⟨fd__law_check, F__law_check⟩ := D.def_ 5 (d := d__law_check) rfl
  obtain ⟨fd__law_sum, F__law_sum⟩ := D.def_ 6 (d := d__law_sum) rfl
  obtain ⟨fd_are_bits, F_are_bits⟩ := D.def_ 7 (d := d_are_bits) rfl
  obtain ⟨fd_is_bits, F_is_bits⟩ := D.def_ 8 (d := d_is_bits) rfl
  obtain ⟨fd__law_turned, F__law_turned⟩ := D.def_ 9 (d := d__law_turned) rfl
  obtain ⟨fd__law_units, F__law_units⟩ := D.def_ 10 (d := d__law_units) rfl
  obtain ⟨fd_data_length, F_data_length⟩ := D.def_ 11 (d := d_data_length) rfl
  obtain ⟨fd_body, F_body⟩ := D.def_ 12 (d := d_body) rfl
  obtain ⟨fd_write, F_write⟩ := D.def_ 13 (d := d_write) rfl
  obtain ⟨fd_is_number, F_is_number⟩ := D.def_ 14 (d := d_is_number) rfl
  obtain ⟨fd_body_length, F_body_length⟩ := D.def_ 15 (d := d_body_length) rfl
  obtain ⟨fd_read_number, F_read_number⟩ := D.def_ 16 (d := d_read_number) rfl
  obtain ⟨fd_unit_in, F_unit_in⟩ := D.def_ 17 (d := d_unit_in) rfl
  obtain ⟨fd_read, F_read⟩ := D.def_ 18 (d := d_read) rfl
  obtain ⟨fd_units_lost, F_units_lost⟩ := D.def_ 19 (d := d_units_lost) rfl
  obtain ⟨fd_law, F_law⟩ := D.def_ 20 (d := d_law) rfl
  have g__law_draws := He.glo_ok X G (D.fact 0 (f := .glo "_law_draws") rfl)
  have g__law_take := He.glo_ok X G (D.fact 1 (f := .glo "_law_take") rfl)
  have g_written := He.glo_ok X G (D.fact 2 (f := .glo "written") rfl)
  have g_check := He.glo_ok X G (D.fact 3 (f := .glo "check") rfl)
  have g__law_alike := He.glo_ok X G (D.fact 4 (f := .glo "_law_alike") rfl)
  have g__law_check := He.glo_ok X G (D.fact 5 (f := .glo "_law_check") rfl)
  have g__law_sum := He.glo_ok X G (D.fact 6 (f := .glo "_law_sum") rfl)
  have g_are_bits := He.glo_ok X G (D.fact 7 (f := .glo "are_bits") rfl)
  have g_is_bits := He.glo_ok X G (D.fact 8 (f := .glo "is_bits") rfl)
  have g__law_turned := He.glo_ok X G (D.fact 9 (f := .glo "_law_turned") rfl)
  have g__law_units := He.glo_ok X G (D.fact 10 (f := .glo "_law_units") rfl)
  have g_data_length := He.glo_ok X G (D.fact 11 (f := .glo "data_length") rfl)
  have g_body := He.glo_ok X G (D.fact 12 (f := .glo "body") rfl)
  have g_write := He.glo_ok X G (D.fact 13 (f := .glo "write") rfl)
  have g_is_number := He.glo_ok X G (D.fact 14 (f := .glo "is_number") rfl)
  have g_body_length := He.glo_ok X G (D.fact 15 (f := .glo "body_length") rfl)
  have g_read_number := He.glo_ok X G (D.fact 16 (f := .glo "read_number") rfl)
  have g_unit_in := He.glo_ok X G (D.fact 17 (f := .glo "unit_in") rfl)
  have g_read := He.glo_ok X G (D.fact 18 (f := .glo "read") rfl)
  have g_units_lost := He.glo_ok X G (D.fact 19 (f := .glo "units_lost") rfl)
  have g_law := He.glo_ok X G (D.fact 20 (f := .glo "law") rfl)
  obtain ⟨t_CHECK, g_CHECK⟩ := He.int_ok X G (D.fact 21 (f := .int "CHECK" 8) rfl)
  obtain ⟨t_DEGREE, g_DEGREE⟩ := He.int_ok X G (D.fact 22 (f := .int "DEGREE" 8) rfl)
  obtain ⟨t_GROUP, g_GROUP⟩ := He.int_ok X G (D.fact 23 (f := .int "GROUP" 7) rfl)
  obtain ⟨t_LOWER, g_LOWER⟩ := He.int_ok X G (D.fact 24 (f := .int "LOWER" 7) rfl)
  obtain ⟨t_MARK, g_MARK⟩ := He.str_ok X G (D.fact 25 (f := .str "MARK" "000000001") rfl)
  obtain ⟨t_MOST_PAYLOAD, g_MOST_PAYLOAD⟩ := He.int_ok X G (D.fact 26 (f := .int "MOST_PAYLOAD" 400) rfl)
  obtain ⟨t_NUMBER, g_NUMBER⟩ := He.int_ok X G (D.fact 27 (f := .int "NUMBER" 8) rfl)
  have n_abs := He.free_ok X G (D.fact 28 (f := .free "abs") rfl)
  have n_all := He.free_ok X G (D.fact 29 (f := .free "all") rfl)
  have n_bool := He.free_ok X G (D.fact 30 (f := .free "bool") rfl)
  have n_enumerate := He.free_ok X G (D.fact 31 (f := .free "enumerate") rfl)
  have n_int := He.free_ok X G (D.fact 32 (f := .free "int") rfl)
  have n_isinstance := He.free_ok X G (D.fact 33 (f := .free "isinstance") rfl)
  have n_len := He.free_ok X G (D.fact 34 (f := .free "len") rfl)
  have n_list := He.free_ok X G (D.fact 35 (f := .free "list") rfl)
  have n_max := He.free_ok X G (D.fact 36 (f := .free "max") rfl)
  have n_range := He.free_ok X G (D.fact 37 (f := .free "range") rfl)
  have n_reversed := He.free_ok X G (D.fact 38 (f := .free "reversed") rfl)
  have n_str := He.free_ok X G (D.fact 39 (f := .free "str") rfl)
  have n_tuple := He.free_ok X G (D.fact 40 (f := .free "tuple") rfl)
  have b__law_draws : Binds K fd__law_draws ["script"] [] := F__law_draws.bindsN fun _ _ _ _ _ _ us hl => match us, hl with | [_], _ => rfl
  have b__law_take : Binds K fd__law_take ["draws", "bound"] [] := F__law_take.bindsN fun _ _ _ _ _ _ us hl => match us, hl with | [_, _], _ => rfl
  have b_written : Binds K fd_written ["number", "many"] [] := F_written.bindsN fun _ _ _ _ _ _ us hl => match us, hl with | [_, _], _ => rfl
  have b_check : Binds K fd_check ["bits"] [] := F_check.bindsN fun _ _ _ _ _ _ us hl => match us, hl with | [_], _ => rfl
  have b__law_alike : Binds K fd__law_alike ["found", "due"] [] := F__law_alike.bindsN fun _ _ _ _ _ _ us hl => match us, hl with | [_, _], _ => rfl
  have b__law_check : Binds K fd__law_check ["bits"] [] := F__law_check.bindsN fun _ _ _ _ _ _ us hl => match us, hl with | [_], _ => rfl
  have b__law_sum : Binds K fd__law_sum ["one", "other"] [] := F__law_sum.bindsN fun _ _ _ _ _ _ us hl => match us, hl with | [_, _], _ => rfl
  have b_are_bits : Binds K fd_are_bits ["value"] [] := F_are_bits.bindsN fun _ _ _ _ _ _ us hl => match us, hl with | [_], _ => rfl
  have b_is_bits : Binds K fd_is_bits ["value"] [] := F_is_bits.bindsN fun _ _ _ _ _ _ us hl => match us, hl with | [_], _ => rfl
  have b__law_turned : Binds K fd__law_turned ["bits", "place"] [] := F__law_turned.bindsN fun _ _ _ _ _ _ us hl => match us, hl with | [_, _], _ => rfl
  have b__law_units : Binds K fd__law_units ["draws", "count", "payload_bits"] [] := F__law_units.bindsN fun _ _ _ _ _ _ us hl => match us, hl with | [_, _, _], _ => rfl
  have b_data_length : Binds K fd_data_length ["payload_bits"] [] := F_data_length.bindsN fun _ _ _ _ _ _ us hl => match us, hl with | [_], _ => rfl
  have b_body : Binds K fd_body ["number", "payload"] [] := F_body.bindsN fun _ _ _ _ _ _ us hl => match us, hl with | [_, _], _ => rfl
  have b_write : Binds K fd_write ["units"] [] := F_write.bindsN fun _ _ _ _ _ _ us hl => match us, hl with | [_], _ => rfl
  have b_is_number : Binds K fd_is_number ["value", "least", "most"] [] := F_is_number.bindsN fun _ _ _ _ _ _ us hl => match us, hl with | [_, _, _], _ => rfl
  have b_body_length : Binds K fd_body_length ["payload_bits"] [] := F_body_length.bindsN fun _ _ _ _ _ _ us hl => match us, hl with | [_], _ => rfl
  have b_read_number : Binds K fd_read_number ["bits"] [] := F_read_number.bindsN fun _ _ _ _ _ _ us hl => match us, hl with | [_], _ => rfl
  have b_unit_in : Binds K fd_unit_in ["bits", "place", "payload_bits"] [] := F_unit_in.bindsN fun _ _ _ _ _ _ us hl => match us, hl with | [_, _, _], _ => rfl
  have b_read : Binds K fd_read ["bits", "payload_bits"] [] := F_read.bindsN fun _ _ _ _ _ _ us hl => match us, hl with | [_, _], _ => rfl
  have b_units_lost : Binds K fd_units_lost ["units", "bits"] [] := F_units_lost.bindsN fun _ _ _ _ _ _ us hl => match us, hl with | [_, _], _ => rfl
  have b_law : Binds K fd_law ["script"] [] := F_law.bindsN fun _ _ _ _ _ _ us hl => match us, hl with | [_], _ => rfl
  have hc_are_bits : fd_are_bits.code = .ref (He.codeOf K ("are_bits", none)) := code_ref F_are_bits
  have hc_unit_in : fd_unit_in.code = .ref (He.codeOf K ("unit_in", none)) := code_ref F_unit_in
  letI : Tabs := ⟨(tfl.map (He.cT K)).map (·.2)⟩
  have e := hfa.symm.trans g_law
  cases e
  have bA := FunD.bindsA (ps := ["script"]) F_law fun _ _ _ _ _ _ us hl => match us, hl with | [_], _ => rfl
  refine ⟨fd_law, tfl.map (He.cT K), spM K mg 1 m_law, ?_, ?_, ?_, fun s u => bA s [u] rfl, ?_, ?_⟩
  · intro p hp
    obtain ⟨q, hq, rfl⟩ := List.mem_map.mp hp
    exact c.empty q hq
  · intro p hp
    obtain ⟨q, hq, rfl⟩ := List.mem_map.mp hp
    exact c.out q hq
  · intro p hp
    obtain ⟨q, hq, rfl⟩ := List.mem_map.mp hp
    exact PySem.W.codeHd_of_K X (c.hd q hq)
  · intro H a ns hl hbits hT hS
    obtain ⟨S', e⟩ := plain_law ns hl hbits
    exact spM_start e hT hS
  · intro base KB GB TB
    exact fn_law (P := l.prog) (w := w) (K := K) (mg := mg) (base := base) ⟨fd__law_draws, F__law_draws, g__law_draws, b__law_draws, fd__law_take, F__law_take, g__law_take, b__law_take, fd_written, F_written, g_written, b_written, fd_check, F_check, g_check, b_check, fd__law_alike, F__law_alike, g__law_alike, b__law_alike, fd__law_check, F__law_check, g__law_check, b__law_check, fd__law_sum, F__law_sum, g__law_sum, b__law_sum, fd_are_bits, F_are_bits, g_are_bits, b_are_bits, He.codeOf K ("are_bits", none), (He.cT K ("are_bits", none)).2, hc_are_bits, tabB_of (TB (He.cT K ("are_bits", none)) (List.mem_map.mpr ⟨_, by simp [tfl], rfl⟩)), List.mem_map.mpr ⟨_, List.mem_map.mpr ⟨("are_bits", none), by simp [tfl], rfl⟩, rfl⟩, fd_is_bits, F_is_bits, g_is_bits, b_is_bits, fd__law_turned, F__law_turned, g__law_turned, b__law_turned, fd__law_units, F__law_units, g__law_units, b__law_units, fd_data_length, F_data_length, g_data_length, b_data_length, fd_body, F_body, g_body, b_body, fd_write, F_write, g_write, b_write, fd_is_number, F_is_number, g_is_number, b_is_number, fd_body_length, F_body_length, g_body_length, b_body_length, fd_read_number, F_read_number, g_read_number, b_read_number, fd_unit_in, F_unit_in, g_unit_in, b_unit_in, He.codeOf K ("unit_in", none), (He.cT K ("unit_in", none)).2, hc_unit_in, tabB_of (TB (He.cT K ("unit_in", none)) (List.mem_map.mpr ⟨_, by simp [tfl], rfl⟩)), List.mem_map.mpr ⟨_, List.mem_map.mpr ⟨("unit_in", none), by simp [tfl], rfl⟩, rfl⟩, fd_read, F_read, g_read, b_read, fd_units_lost, F_units_lost, g_units_lost, b_units_lost, fd_law, F_law, g_law, b_law, _, g_CHECK, ⟨t_CHECK, rfl⟩, _, g_DEGREE, ⟨t_DEGREE, rfl⟩, _, g_GROUP, ⟨t_GROUP, rfl⟩, _, g_LOWER, ⟨t_LOWER, rfl⟩, _, g_MARK, ⟨t_MARK, rfl⟩, _, g_MOST_PAYLOAD, ⟨t_MOST_PAYLOAD, rfl⟩, _, g_NUMBER, ⟨t_NUMBER, rfl⟩, n_abs, n_all, n_bool, n_enumerate, n_int, n_isinstance, n_len, n_list, n_max, n_range, n_reversed, n_str, n_tuple⟩
end K81
open PySem PySem.W PySem.Calls PyProof.Rows
theorem PySem.Challenge.cw_lostastold_k81_whole_checks_and_bodies_b_holds : PySem.Challenge.rw_lostastold_k81_whole_checks_and_bodies_b.Holds := by
  w_on; o_law
  refine HandSHeadRun.head_any (r := OpenLaw.row PySem.Challenge.rw_lostastold_k81_whole_checks_and_bodies_b) (q := view (OpenLaw.row PySem.Challenge.rw_lostastold_k81_whole_checks_and_bodies_b).prog [35]) (H := K81.hk) (ob := K81.ob) (M := 6000) (loose := K81.loose) (d := HandSHeadRun.topDef (OpenLaw.row PySem.Challenge.rw_lostastold_k81_whole_checks_and_bodies_b).prog 35) (kwd := []) K81.ob_eq
    (by kernel_rfl) (fun s => by kernel_rfl) K81.run (by kernel_rfl) (by kernel_rfl) (by kernel_rfl) (by rfl) (by first | assumption | decide +kernel) (by decide +kernel) ⟨rfl, rfl, rfl, rfl, rfl, by decide +kernel⟩ ?hw ?hc
  case hw => w_witness2
  case hc =>
    refine LamX.walk_ofTsE (l := PySem.Challenge.rw_lostastold_k81_whole_checks_and_bodies_b) (n := 63) (k := 11) (x := "script") (CX := fun w => L2.CX PySem.Challenge.rw_lostastold_k81_whole_checks_and_bodies_b.prog w) rfl (by decide) (by kernel_rfl) ⟨rfl, by decide, by decide⟩ ?F (fun w H s e s' z => M.cx_false z)
    intro w mg fa h Y G hmg0
    obtain ⟨K, KX, c⟩ := Y
    have hmg : mg ("law" : PySem.Str) = some (.ref fa) := by
      have e : (HandSHeadRun.topDef (OpenLaw.row PySem.Challenge.rw_lostastold_k81_whole_checks_and_bodies_b).prog 35).name = ("law" : PySem.Str) := by kernel_rfl
      rw [← e]
      exact hmg0
    exact ⟨K, KX, K81.facts (P := PySem.Challenge.rw_lostastold_k81_whole_checks_and_bodies_b.prog) KX G hmg c⟩

