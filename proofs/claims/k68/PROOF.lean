import PyProof.Rows.All
import Wide.All
import OpenK.AllK
import Wide.FinOn
import HandS.ForMost
import HandS.ForExc
import HandS.Evl
import HandS.AnyAll
import HandS.TupAny
import HandS.TupMul
import HandS.IsInst
import HandS.Style
import HandS.Conv
import HandS.StrMore
import HandS.Codes
import HandS.Deep
import HandS.SortInts
import HandS.Wide
import HandS.Zip
import HandS.Rev
import PyProof.P3In
import HandS.Text
import PyProof.WalksMore
import HandS.More
import HandS.Walk
import HandS.TryOnly
import HandS.Flow
import HandS.GenList
import HandS.Lambda
import HandS.RevTup
import HandS.Defaults
import HandS.HeadWalk
import HandS.HeadHook4
import HandS.SortRule
import HandS.Star
import HandS.Head2
import PySem.Challenge.RW_lostastold_k68_whole_fronts_as_sums_and
set_option Elab.async false
set_option linter.all false
set_option maxRecDepth 100000
/-! The value layer: data, store, what stands for what, results, judgements. -/
namespace M
open PySem PySem.Spec PyProof.Rows L2

/-- data: immutable values (lst: a list that nobody changes; fro: one that is locked from outside, as the script), and loc n: the n-th mutable object of the store -/
inductive D where
  | non | bl (b : Bool) | int (i : Int) | str (x : Str) | tup (xs : List D) | lst (xs : List D) | fro (xs : List D) | loc (n : Nat) | ref (a : Addr) | ty (n : String)
  deriving Inhabited
/-- a mutable object -/
inductive OB where
  | lst (xs : List D)
abbrev Store := List OB
abbrev Env := List (Option D)
/-- where the objects of the store stand; what is hidden: lists that are being made -/
structure Rh where
  l : List Addr
  h : List Addr
/-- the tables of code objects of the defs -/
class Tabs where
  t : List Addr
variable [Tabs]

/-- a list of the head's -/
def KL (K : PySem.W.Frag) (a : Addr) (xs : List V) : Prop := ∃ (o : Obj) (its : Array Value) (n : Nat), K.lookup a = some o ∧ o.cls = .type "list" ∧ o.dict = none ∧ o.data = .seq its n ∧ its.size ≤ sizeLine ∧ Vals xs its.toList
mutual
inductive RepD (K : PySem.W.Frag) (ρ : Rh) (H : Hp) : D → V → Prop
  | non : RepD K ρ H .non .non
  | bl (b : Bool) : RepD K ρ H (.bl b) (.bl b)
  | int (i : Int) : RepD K ρ H (.int i) (.int i)
  | str (x : Str) : RepD K ρ H (.str x) (.str x)
  | tup {a : Addr} {vs : List V} {ds : List D} : SqT K H a vs → RepDs K ρ H ds vs → RepD K ρ H (.tup ds) (.ref a)
  | lst {a : Addr} {vs : List V} {ds : List D} : H a = some (.lst vs) → a ∉ ρ.l → a ∉ ρ.h → RepDs K ρ H ds vs → RepD K ρ H (.lst ds) (.ref a)
  | fro {a : Addr} {vs : List V} {ds : List D} : Rd H a (.lst vs) → a ∉ ρ.l → a ∉ ρ.h → RepDs K ρ H ds vs → RepD K ρ H (.fro ds) (.ref a)
  | frk {a : Addr} {vs : List V} {ds : List D} : KL K a vs → RepDs K ρ H ds vs → RepD K ρ H (.fro ds) (.ref a)
  | loc {n : Nat} {a : Addr} : ρ.l[n]? = some a → RepD K ρ H (.loc n) (.ref a)
  | ref (a : Addr) : RepD K ρ H (.ref a) (.ref a)
  | ty (n : String) : RepD K ρ H (.ty n) (.ty n)
inductive RepDs (K : PySem.W.Frag) (ρ : Rh) (H : Hp) : List D → List V → Prop
  | nil : RepDs K ρ H [] []
  | cons {d : D} {ds : List D} {v : V} {vs : List V} : RepD K ρ H d v → RepDs K ρ H ds vs → RepDs K ρ H (d :: ds) (v :: vs)
end

/-- an object of the store stands at a -/
def ObRel (K : PySem.W.Frag) (ρ : Rh) (H : Hp) (a : Addr) : OB → Prop
  | .lst ds => ∃ vs, H a = some (.lst vs) ∧ RepDs K ρ H ds vs
/-- the object at c is a code object whose table stands at P -/
def CodeX (c P : Addr) : HO := .ext fun h => PySem.W.CodeHd h c P
/-- a table of code objects, each with its own table -/
def TabN (H : Hp) (P : Addr) : Prop := ∃ ps : Array Value, H P = some (.tbl ps) ∧ TriplesOk ps.toList ∧ ∀ (pos : Pos) (cv : Value), codeAmong pos ps.toList = some cv → ∃ c P' qs, cv = .ref c ∧ H c = some (CodeX c P') ∧ H P' = some (.tbl qs) ∧ TriplesOk qs.toList
theorem tabN_upd {H : Hp} {a p : Addr} {o : HO} (t : TabN H a) (hp : ∀ o', H p = some o' → ∃ vs, o' = .lst vs) : TabN (upd H p o) a := by
  obtain ⟨ps, e, k, d⟩ := t
  have ne : ∀ b u, H b = some u → (∀ vs, u ≠ .lst vs) → b ≠ p := fun b u e n z => by
    rw [z] at e
    obtain ⟨vs, q⟩ := hp u e
    exact n vs q
  refine ⟨ps, by rw [upd_ne (ne a _ e fun _ z => by cases z)]; exact e, k, fun pos cv hc => ?_⟩
  obtain ⟨c, P', qs, h1, h2, h3, h4⟩ := d pos cv hc
  exact ⟨c, P', qs, h1, by rw [upd_ne (ne c _ h2 fun _ z => by cases z)]; exact h2, by rw [upd_ne (ne P' _ h3 fun _ z => by cases z)]; exact h3, h4⟩
/-- H' b is no table -/
abbrev NT (o : HO) : Prop := ∀ ps, o ≠ .tbl ps
structure Rel (K : PySem.W.Frag) (ρ : Rh) (H : Hp) (S : Store) : Prop where
  len : ρ.l.length = S.length
  nd : ρ.l.Nodup
  at_ : ∀ (n : Nat) (o : OB) (a : Addr), S[n]? = some o → ρ.l[n]? = some a → ObRel K ρ H a o
  hid : ∀ a ∈ ρ.h, ∃ vs, H a = some (.lst vs)
  tab : ∀ a ∈ Tabs.t, TabN H a
/-- the heap has grown; only what ρ tells of may have changed -/
structure Fr (ρ : Rh) (H : Hp) (ρ' : Rh) (H' : Hp) : Prop where
  new : ∃ l, ρ' = ⟨ρ.l ++ l, ρ.h⟩ ∧ ∀ a ∈ l, H a = none
  keep : ∀ a o, H a = some o → a ∉ ρ.l → NT o → H' a = some o
  live : ∀ a o, H a = some o → ∃ o', H' a = some o'
def EnvRel (K : PySem.W.Frag) (ρ : Rh) (H : Hp) (σ : L2.St) (e : Env) : Prop :=
  σ.length = e.length ∧ ∀ (i : Nat) (d : D), e[i]? = some (some d) → ∃ v, σ[i]? = some (some v) ∧ RepD K ρ H d v

theorem Fr.refl (ρ : Rh) (H : Hp) : Fr ρ H ρ H := ⟨⟨[], by simp, by simp⟩, fun _ _ h _ _ => h, fun a o h => ⟨o, h⟩⟩
theorem Fr.trans {ρ ρ1 ρ2 : Rh} {H H1 H2 : Hp} (f : Fr ρ H ρ1 H1) (g : Fr ρ1 H1 ρ2 H2) : Fr ρ H ρ2 H2 := by
  obtain ⟨l, rfl, hl⟩ := f.new
  obtain ⟨k, rfl, hk⟩ := g.new
  refine ⟨⟨l ++ k, by simp, fun a m => ?_⟩, fun a o h n nt => g.keep a o (f.keep a o h n nt) (fun m => ?_) nt, fun a o h => ?_⟩
  · rcases List.mem_append.mp m with m | m
    · exact hl a m
    · cases q : H a with
      | none => rfl
      | some o =>
        obtain ⟨o', z⟩ := f.live a o q
        rw [hk a m] at z; cases z
  · rcases List.mem_append.mp m with m | m
    · exact n m
    · rw [hl a m] at h; cases h
  · obtain ⟨o', z⟩ := f.live a o h
    exact g.live a o' z
/-- a new object that the store does not tell of -/
theorem Fr.laid {ρ : Rh} {H : Hp} {p : Addr} {o : HO} (h : H p = none) : Fr ρ H ρ (upd H p o) :=
  ⟨⟨[], by simp, by simp⟩, fun a u e _ _ => by rw [upd_ne (ne_of_none e h)]; exact e, fun a u e => ⟨u, by rw [upd_ne (ne_of_none e h)]; exact e⟩⟩
/-- .. that it tells of from now on -/
theorem Fr.laidL {ρ : Rh} {H : Hp} {p : Addr} {o : HO} (h : H p = none) : Fr ρ H ⟨ρ.l ++ [p], ρ.h⟩ (upd H p o) :=
  ⟨⟨[p], rfl, by simpa using h⟩, fun a u e _ _ => by rw [upd_ne (ne_of_none e h)]; exact e, fun a u e => ⟨u, by rw [upd_ne (ne_of_none e h)]; exact e⟩⟩
/-- an object of the store is changed -/
theorem Fr.put {ρ : Rh} {H : Hp} {p : Addr} {o : HO} (h : p ∈ ρ.l) : Fr ρ H ρ (upd H p o) :=
  ⟨⟨[], by simp, by simp⟩, fun a u e n _ => by
    have z : a ≠ p := fun z => n (by rw [z]; exact h)
    rw [upd_ne z]; exact e, fun a u e => by
    by_cases z : a = p
    · exact ⟨o, by rw [z, upd_same]⟩
    · exact ⟨u, by rw [upd_ne z]; exact e⟩⟩
theorem Fr.at_ {ρ ρ' : Rh} {H H' : Hp} (f : Fr ρ H ρ' H') {n : Nat} {a : Addr} (h : ρ.l[n]? = some a) : ρ'.l[n]? = some a := by
  obtain ⟨l, rfl, _⟩ := f.new
  show (ρ.l ++ l)[n]? = some a
  rw [List.getElem?_append_left (List.getElem?_eq_some_iff.mp h).1]; exact h

theorem Fr.hid {ρ ρ' : Rh} {H H' : Hp} (f : Fr ρ H ρ' H') : ρ'.h = ρ.h := by obtain ⟨l, rfl, _⟩ := f.new; rfl
/-- what ρ tells of is no tuple -/
def Free (ρ : Rh) (H : Hp) : Prop := ∀ a ∈ ρ.l, ∃ vs, H a = some (.lst vs)
theorem Rel.free {K : PySem.W.Frag} {ρ : Rh} {H : Hp} {S : Store} (r : Rel K ρ H S) : Free ρ H := fun a m => by
  obtain ⟨n, hn, e⟩ := List.mem_iff_getElem.mp m
  have e1 : ρ.l[n]? = some a := List.getElem?_eq_some_iff.mpr ⟨hn, e⟩
  have hs : n < S.length := by rw [← r.len]; exact hn
  have q := r.at_ n S[n] a (List.getElem?_eq_getElem hs) e1
  cases h : S[n] with
  | lst ds => rw [h] at q; obtain ⟨vs, z, _⟩ := q; exact ⟨vs, z⟩
theorem sqt_fr {K : PySem.W.Frag} {ρ ρ' : Rh} {H H' : Hp} (F : Free ρ H) (f : Fr ρ H ρ' H') {a : Addr} {vs : List V} (h : SqT K H a vs) : SqT K H' a vs := by
  have key : ∀ o, H a = some o → (∀ ws, o ≠ .lst ws) → NT o → H' a = some o := fun o e ne nt => f.keep a o e (fun m => by
    obtain ⟨ws, z⟩ := F a m
    rw [e] at z
    exact ne ws (Option.some.inj z)) nt
  rcases h with (h | ⟨o, h⟩) | h
  · exact .inl (.inl (key _ h (fun ws z => by cases z) fun ps z => by cases z))
  · exact .inl (.inr ⟨o, key _ h (fun ws z => by cases z) fun ps z => by cases z⟩)
  · exact .inr h
theorem rd_fr {ρ ρ' : Rh} {H H' : Hp} (f : Fr ρ H ρ' H') {a : Addr} {ws : List V} (h : Rd H a (.lst ws)) (n : a ∉ ρ.l) : Rd H' a (.lst ws) ∧ a ∉ ρ'.l := by
  obtain ⟨l, rfl, hl⟩ := f.new
  have nn : ∀ o, H a = some o → a ∉ ρ.l ++ l := fun o e m => by
    rcases List.mem_append.mp m with m | m
    · exact n m
    · rw [hl a m] at e; cases e
  rcases h with h | ⟨o, h⟩
  · exact ⟨.inl (f.keep a _ h n fun ps z => by cases z), nn _ h⟩
  · exact ⟨.inr ⟨o, f.keep a _ h n fun ps z => by cases z⟩, nn _ h⟩
mutual
theorem RepD.fr {K : PySem.W.Frag} {ρ ρ' : Rh} {H H' : Hp} (F : Free ρ H) (f : Fr ρ H ρ' H') : ∀ (d : D) (v : V), RepD K ρ H d v → RepD K ρ' H' d v
  | .non, _, h => by cases h; exact .non
  | .bl b, _, h => by cases h; exact .bl b
  | .int i, _, h => by cases h; exact .int i
  | .str x, _, h => by cases h; exact .str x
  | .tup ds, _, h => by
    cases h with
    | tup hs hd => exact .tup (sqt_fr F f hs) (RepDs.fr F f ds _ hd)
  | .lst ds, _, h => by
    cases h with
    | lst hs hn hh hd =>
      obtain ⟨_, b⟩ := rd_fr f (Rd.of hs) hn
      exact .lst (f.keep _ _ hs hn fun ps z => by cases z) b (by rw [f.hid]; exact hh) (RepDs.fr F f ds _ hd)
  | .fro ds, _, h => by
    cases h with
    | fro hs hn hh hd =>
      obtain ⟨a, b⟩ := rd_fr f hs hn
      exact .fro a b (by rw [f.hid]; exact hh) (RepDs.fr F f ds _ hd)
    | frk hk hd => exact .frk hk (RepDs.fr F f ds _ hd)
  | .loc n, _, h => by
    cases h with
    | loc e => exact .loc (f.at_ e)
  | .ref a, _, h => by cases h; exact .ref a
  | .ty n, _, h => by cases h; exact .ty n
theorem RepDs.fr {K : PySem.W.Frag} {ρ ρ' : Rh} {H H' : Hp} (F : Free ρ H) (f : Fr ρ H ρ' H') : ∀ (ds : List D) (vs : List V), RepDs K ρ H ds vs → RepDs K ρ' H' ds vs
  | [], _, h => by cases h; exact .nil
  | d :: ds, _, h => by
    cases h with
    | cons h1 h2 => exact .cons (RepD.fr F f d _ h1) (RepDs.fr F f ds _ h2)
end
theorem EnvRel.fr {K : PySem.W.Frag} {ρ ρ' : Rh} {H H' : Hp} {σ : L2.St} {e : Env} (F : Free ρ H) (f : Fr ρ H ρ' H') (h : EnvRel K ρ H σ e) : EnvRel K ρ' H' σ e :=
  ⟨h.1, fun i d q => let ⟨v, a, b⟩ := h.2 i d q; ⟨v, a, RepD.fr F f d v b⟩⟩
section
variable {K : PySem.W.Frag} {ρ : Rh} {H : Hp} {ds es : List D} {vs ws : List V}
theorem RepDs.length : ∀ {ds : List D} {vs : List V}, RepDs K ρ H ds vs → ds.length = vs.length
  | [], _, h => by cases h; rfl
  | _ :: ds, _, h => by
    cases h with
    | cons h1 h2 => simp [RepDs.length h2]
theorem RepDs.get : ∀ {ds : List D} {vs : List V} {i : Nat} {d : D}, RepDs K ρ H ds vs → ds[i]? = some d → ∃ v, vs[i]? = some v ∧ RepD K ρ H d v
  | [], _, _, _, h, e => by simp at e
  | d :: ds, _, 0, _, h, e => by
    cases h with
    | cons h1 h2 => simp at e; subst e; exact ⟨_, rfl, h1⟩
  | d :: ds, _, i + 1, _, h, e => by
    cases h with
    | cons h1 h2 =>
      obtain ⟨v, a, b⟩ := RepDs.get (i := i) h2 (by simpa using e)
      exact ⟨v, by simpa using a, b⟩
theorem RepDs.getV : ∀ {ds : List D} {vs : List V} {i : Nat} {v : V}, RepDs K ρ H ds vs → vs[i]? = some v → ∃ d, ds[i]? = some d ∧ RepD K ρ H d v := fun {ds vs i v} h e => by
  have hl := h.length
  have hi : i < ds.length := by rw [hl]; exact (List.getElem?_eq_some_iff.mp e).1
  obtain ⟨w, a, b⟩ := h.get (List.getElem?_eq_getElem hi)
  rw [e] at a; cases a
  exact ⟨_, List.getElem?_eq_getElem hi, b⟩
theorem RepDs.append : ∀ {ds es : List D} {vs ws : List V}, RepDs K ρ H ds vs → RepDs K ρ H es ws → RepDs K ρ H (ds ++ es) (vs ++ ws)
  | [], _, _, _, h, g => by cases h; exact g
  | _ :: _, _, _, _, h, g => by
    cases h with
    | cons h1 h2 => exact .cons h1 (RepDs.append h2 g)
theorem RepDs.take : ∀ {ds : List D} {vs : List V} (n : Nat), RepDs K ρ H ds vs → RepDs K ρ H (ds.take n) (vs.take n)
  | _, _, 0, _ => by simp; exact .nil
  | [], _, n + 1, h => by cases h; exact .nil
  | _ :: _, _, n + 1, h => by
    cases h with
    | cons h1 h2 => exact .cons h1 (RepDs.take n h2)
theorem RepDs.drop : ∀ {ds : List D} {vs : List V} (n : Nat), RepDs K ρ H ds vs → RepDs K ρ H (ds.drop n) (vs.drop n)
  | _, _, 0, h => by simpa using h
  | [], _, n + 1, h => by cases h; exact .nil
  | _ :: _, _, n + 1, h => by
    cases h with
    | cons h1 h2 => exact RepDs.drop n h2
theorem RepDs.set {d : D} {v : V} (r : RepD K ρ H d v) : ∀ {ds : List D} {vs : List V} (i : Nat), RepDs K ρ H ds vs → RepDs K ρ H (ds.set i d) (vs.set i v)
  | [], _, _, h => by cases h; exact .nil
  | _ :: _, _, 0, h => by
    cases h with
    | cons h1 h2 => exact .cons r h2
  | _ :: _, _, i + 1, h => by
    cases h with
    | cons h1 h2 => exact .cons h1 (RepDs.set r i h2)
theorem RepDs.of_get : ∀ {ds : List D} {vs : List V}, ds.length = vs.length → (∀ (i : Nat) (d : D) (v : V), ds[i]? = some d → vs[i]? = some v → RepD K ρ H d v) → RepDs K ρ H ds vs
  | [], [], _, _ => .nil
  | [], _ :: _, h, _ => by simp at h
  | _ :: _, [], h, _ => by simp at h
  | d :: ds, v :: vs, h, q => .cons (q 0 d v rfl rfl) (RepDs.of_get (by simpa using h) fun i e w a b => q (i + 1) e w (by simpa using a) (by simpa using b))
theorem RepDs.reverse (h : RepDs K ρ H ds vs) : RepDs K ρ H ds.reverse vs.reverse := by
  have hl := h.length
  refine .of_get (by simp [hl]) fun i d v a b => ?_
  have hi : i < ds.length := by have := (List.getElem?_eq_some_iff.mp a).1; simpa using this
  rw [List.getElem?_reverse hi] at a
  rw [List.getElem?_reverse (by omega)] at b
  obtain ⟨w, c, r⟩ := h.get a
  rw [hl, b] at c; cases c
  exact r
theorem RepD.inj_int {i : Int} {v : V} (h : RepD K ρ H (.int i) v) : v = .int i := by cases h; rfl
theorem RepD.inj_str {x : Str} {v : V} (h : RepD K ρ H (.str x) v) : v = .str x := by cases h; rfl
theorem RepD.inj_bl {b : Bool} {v : V} (h : RepD K ρ H (.bl b) v) : v = .bl b := by cases h; rfl
theorem RepD.inj_non {v : V} (h : RepD K ρ H .non v) : v = .non := by cases h; rfl
theorem RepDs.ints : ∀ {ns : List Int} {vs : List V}, RepDs K ρ H (ns.map D.int) vs → vs = ns.map V.int
  | [], _, h => by cases h; rfl
  | n :: ns, _, h => by
    cases h with
    | cons h1 h2 => rw [h1.inj_int, RepDs.ints h2]; rfl
theorem RepDs.strs : ∀ {ns : List Str} {vs : List V}, RepDs K ρ H (ns.map D.str) vs → vs = ns.map V.str
  | [], _, h => by cases h; rfl
  | n :: ns, _, h => by
    cases h with
    | cons h1 h2 => rw [h1.inj_str, RepDs.strs h2]; rfl
theorem RepDs.of_ints : ∀ (ns : List Int), RepDs K ρ H (ns.map D.int) (ns.map V.int)
  | [] => .nil
  | n :: ns => .cons (.int n) (RepDs.of_ints ns)
theorem RepDs.of_strs : ∀ (ns : List Str), RepDs K ρ H (ns.map D.str) (ns.map V.str)
  | [] => .nil
  | n :: ns => .cons (.str n) (RepDs.of_strs ns)
end

/-! ### the relation under the heap's steps -/
section
variable {K : PySem.W.Frag} {ρ : Rh} {H : Hp} {S : Store}
theorem ObRel.fr {ρ' : Rh} {H' : Hp} {a : Addr} {o : OB} (F : Free ρ H) (f : Fr ρ H ρ' H') (h : ObRel K ρ H a o) (k : ∀ u, H a = some u → H' a = some u) : ObRel K ρ' H' a o := by
  cases o with
  | lst ds => obtain ⟨vs, e, r⟩ := h; exact ⟨vs, k _ e, RepDs.fr F f ds vs r⟩
theorem tabG_laid {a p : Addr} {o : HO} (t : TabN H a) (h : H p = none) : TabN (upd H p o) a := tabN_upd t fun o' e => by rw [h] at e; cases e
theorem Rel.laid (r : Rel K ρ H S) {p : Addr} {o : HO} (h : H p = none) : Rel K ρ (upd H p o) S :=
  ⟨r.len, r.nd, fun n u a e1 e2 => (r.at_ n u a e1 e2).fr r.free (Fr.laid h) fun w q => by rw [upd_ne (ne_of_none q h)]; exact q, fun a m => let ⟨vs, z⟩ := r.hid a m; ⟨vs, by rw [upd_ne (ne_of_none z h)]; exact z⟩, fun a m => tabG_laid (r.tab a m) h⟩
theorem Rel.lt (r : Rel K ρ H S) {n : Nat} {o : OB} (e : S[n]? = some o) : ∃ a, ρ.l[n]? = some a ∧ a ∈ ρ.l ∧ ObRel K ρ H a o := by
  have hn : n < ρ.l.length := by rw [r.len]; exact (List.getElem?_eq_some_iff.mp e).1
  exact ⟨ρ.l[n], List.getElem?_eq_getElem hn, List.getElem_mem hn, r.at_ n o _ e (List.getElem?_eq_getElem hn)⟩
theorem Rel.laidL (r : Rel K ρ H S) {p : Addr} {vs : List V} {ds : List D} (h : H p = none) (q : RepDs K ρ H ds vs) : Rel K ⟨ρ.l ++ [p], ρ.h⟩ (upd H p (.lst vs)) (S ++ [.lst ds]) := by
  have np : p ∉ ρ.l := fun m => by obtain ⟨ws, z⟩ := r.free p m; rw [h] at z; cases z
  have f : Fr ρ H ⟨ρ.l ++ [p], ρ.h⟩ (upd H p (.lst vs)) := Fr.laidL h
  refine ⟨by simp [r.len], ?_, fun n u a e1 e2 => ?_, fun a m => let ⟨vs, z⟩ := r.hid a m; ⟨vs, by rw [upd_ne (ne_of_none z h)]; exact z⟩, fun a m => tabG_laid (r.tab a m) h⟩
  · show (ρ.l ++ [p]).Nodup
    rw [List.nodup_append]
    exact ⟨r.nd, by simp, fun a ha b hb => by simp at hb; subst hb; rintro rfl; exact np ha⟩
  · have e2 : (ρ.l ++ [p])[n]? = some a := e2
    by_cases hn : n < S.length
    · rw [List.getElem?_append_left hn] at e1
      rw [List.getElem?_append_left (by rw [r.len]; exact hn)] at e2
      exact (r.at_ n u a e1 e2).fr r.free f fun w q => by rw [upd_ne (ne_of_none q h)]; exact q
    · rw [List.getElem?_append_right (by omega)] at e1
      rw [List.getElem?_append_right (by rw [r.len]; omega)] at e2
      rw [r.len] at e2
      have h0 : n - S.length = 0 := by
        rcases Nat.eq_zero_or_pos (n - S.length) with z | z
        · exact z
        · rw [List.getElem?_eq_none (by simp; omega)] at e1; cases e1
      rw [h0] at e1 e2
      simp at e1 e2
      subst e1 e2
      exact ⟨vs, upd_same, RepDs.fr r.free f ds vs q⟩
theorem Rel.put (r : Rel K ρ H S) {n : Nat} {p : Addr} {vs : List V} {ds : List D} (hp : ρ.l[n]? = some p) (q : RepDs K ρ H ds vs) : Rel K ρ (upd H p (.lst vs)) (S.set n (.lst ds)) := by
  have hn : n < ρ.l.length := (List.getElem?_eq_some_iff.mp hp).1
  have mp : p ∈ ρ.l := List.mem_of_getElem? hp
  have f : Fr ρ H ρ (upd H p (.lst vs)) := Fr.put mp
  refine ⟨by simp [r.len], r.nd, fun m u a e1 e2 => ?_, fun a m => let ⟨ws, z⟩ := r.hid a m; by
    by_cases e : a = p
    · exact ⟨vs, by rw [e, upd_same]⟩
    · exact ⟨ws, by rw [upd_ne e]; exact z⟩, fun a m => by
    refine tabN_upd (r.tab a m) fun o' e => ?_
    obtain ⟨ws, q⟩ := r.free p mp
    rw [q] at e
    exact ⟨ws, (Option.some.inj e).symm⟩⟩
  by_cases hm : m = n
  · subst hm
    rw [hp] at e2; cases e2
    rw [List.getElem?_set_self (by rw [← r.len]; exact hn)] at e1
    cases e1
    exact ⟨vs, upd_same, RepDs.fr r.free f ds vs q⟩
  · rw [List.getElem?_set_ne (Ne.symm hm)] at e1
    have na : a ≠ p := fun z => hm (by
      subst z
      obtain ⟨h1, z1⟩ := List.getElem?_eq_some_iff.mp e2
      obtain ⟨h2, z2⟩ := List.getElem?_eq_some_iff.mp hp
      exact (List.getElem_inj r.nd).mp (z1.trans z2.symm))
    exact (r.at_ m u a e1 e2).fr r.free f fun w q => by rw [upd_ne na]; exact q
end

/-- with one more hidden -/
abbrev Rh.hide (ρ : Rh) (p : Addr) : Rh := ⟨ρ.l, p :: ρ.h⟩
/-! ### hidden lists -/
/-- what ρ' sees too -/
structure Sees (H : Hp) (ρ ρ' : Rh) : Prop where
  loc : ∀ (n : Nat) (a : Addr), ρ.l[n]? = some a → ρ'.l[n]? = some a
  out : ∀ (a : Addr) (vs : List V), Rd H a (.lst vs) → a ∉ ρ.l → a ∉ ρ.h → a ∉ ρ'.l ∧ a ∉ ρ'.h
mutual
theorem RepD.sees {K : PySem.W.Frag} {ρ ρ' : Rh} {H : Hp} (s : Sees H ρ ρ') : ∀ (d : D) (v : V), RepD K ρ H d v → RepD K ρ' H d v
  | .non, _, h => by cases h; exact .non
  | .bl b, _, h => by cases h; exact .bl b
  | .int i, _, h => by cases h; exact .int i
  | .str x, _, h => by cases h; exact .str x
  | .tup ds, _, h => by
    cases h with
    | tup hs hd => exact .tup hs (RepDs.sees s ds _ hd)
  | .lst ds, _, h => by
    cases h with
    | lst hs hn hh hd =>
      obtain ⟨a, b⟩ := s.out _ _ (Rd.of hs) hn hh
      exact .lst hs a b (RepDs.sees s ds _ hd)
  | .fro ds, _, h => by
    cases h with
    | fro hs hn hh hd =>
      obtain ⟨a, b⟩ := s.out _ _ hs hn hh
      exact .fro hs a b (RepDs.sees s ds _ hd)
    | frk hk hd => exact .frk hk (RepDs.sees s ds _ hd)
  | .loc n, _, h => by
    cases h with
    | loc e => exact .loc (s.loc _ _ e)
  | .ref a, _, h => by cases h; exact .ref a
  | .ty n, _, h => by cases h; exact .ty n
theorem RepDs.sees {K : PySem.W.Frag} {ρ ρ' : Rh} {H : Hp} (s : Sees H ρ ρ') : ∀ (ds : List D) (vs : List V), RepDs K ρ H ds vs → RepDs K ρ' H ds vs
  | [], _, h => by cases h; exact .nil
  | d :: ds, _, h => by
    cases h with
    | cons h1 h2 => exact .cons (RepD.sees s d _ h1) (RepDs.sees s ds _ h2)
end
theorem EnvRel.sees {K : PySem.W.Frag} {ρ ρ' : Rh} {H : Hp} {σ : L2.St} {e : Env} (s : Sees H ρ ρ') (h : EnvRel K ρ H σ e) : EnvRel K ρ' H σ e :=
  ⟨h.1, fun i d q => let ⟨v, a, b⟩ := h.2 i d q; ⟨v, a, RepD.sees s d v b⟩⟩
theorem ObRel.sees {K : PySem.W.Frag} {ρ ρ' : Rh} {H : Hp} {a : Addr} {o : OB} (s : Sees H ρ ρ') (h : ObRel K ρ H a o) : ObRel K ρ' H a o := by
  cases o with
  | lst ds => obtain ⟨vs, e, r⟩ := h; exact ⟨vs, e, RepDs.sees s ds vs r⟩
section
variable {K : PySem.W.Frag} {ρ : Rh} {H : Hp} {S : Store} {p : Addr}
theorem rd_some {a : Addr} {u : HO} (h : Rd H a u) : H a ≠ none := by
  rcases h with h | ⟨o, h⟩ <;> (rw [h]; exact fun z => nomatch z)
theorem Sees.hide (h : H p = none) : Sees H ρ (ρ.hide p) := ⟨fun _ _ e => e, fun a vs r n m => ⟨n, fun z => by
  rcases List.mem_cons.mp z with z | z
  · rw [z] at r; exact rd_some r h
  · exact m z⟩⟩
theorem Sees.unhide : Sees H (ρ.hide p) ρ := ⟨fun _ _ e => e, fun a vs r n m => ⟨n, fun z => m (List.mem_cons_of_mem _ z)⟩⟩
theorem Sees.shown : Sees H (ρ.hide p) ⟨ρ.l ++ [p], ρ.h⟩ := ⟨fun n a e => by
    show (ρ.l ++ [p])[n]? = some a
    rw [List.getElem?_append_left (List.getElem?_eq_some_iff.mp e).1]; exact e,
  fun a vs r n m => ⟨fun z => by
    rcases List.mem_append.mp z with z | z
    · exact n z
    · rw [List.mem_singleton] at z
      exact m (by rw [z]; exact List.mem_cons_self), fun z => m (List.mem_cons_of_mem _ z)⟩⟩
/-- a new list is laid, hidden -/
theorem Rel.laidH (r : Rel K ρ H S) (h : H p = none) {vs : List V} : Rel K (ρ.hide p) (upd H p (.lst vs)) S := by
  have r2 := r.laid (o := .lst vs) h
  have np : p ∉ ρ.l := fun m => by obtain ⟨ws, z⟩ := r.free p m; rw [h] at z; cases z
  refine ⟨r.len, r.nd, fun n o a e1 e2 => ?_, fun a m => ?_, r2.tab⟩
  · have q := (r.at_ n o a e1 e2).sees (Sees.hide (p := p) h)
    have F : Free (ρ.hide p) H := r.free
    exact q.fr F (Fr.laid h) fun w q => by rw [upd_ne (ne_of_none q h)]; exact q
  · rcases List.mem_cons.mp m with m | m
    · exact ⟨vs, by rw [m, upd_same]⟩
    · exact r2.hid a m
theorem RepDs.laidH (r : Rel K ρ H S) (h : H p = none) {vs ws : List V} {ds : List D} (q : RepDs K ρ H ds ws) : RepDs K (ρ.hide p) (upd H p (.lst vs)) ds ws :=
  RepDs.fr (ρ := ρ.hide p) (show Free (ρ.hide p) H from r.free) (Fr.laid h) _ _ (RepDs.sees (Sees.hide h) _ _ q)
theorem EnvRel.laidH (r : Rel K ρ H S) (h : H p = none) {vs : List V} {σ : L2.St} {e : Env} (q : EnvRel K ρ H σ e) : EnvRel K (ρ.hide p) (upd H p (.lst vs)) σ e :=
  EnvRel.fr (ρ := ρ.hide p) (show Free (ρ.hide p) H from r.free) (Fr.laid h) (q.sees (Sees.hide h))
theorem Rel.unhide (r : Rel K (ρ.hide p) H S) : Rel K ρ H S := ⟨r.len, r.nd, fun n o a e1 e2 => (r.at_ n o a e1 e2).sees Sees.unhide, fun a m => r.hid a (List.mem_cons_of_mem _ m), r.tab⟩
theorem Rel.newh (r : Rel K ρ H S) (h : H p = none) : p ∉ ρ.l ∧ p ∉ ρ.h := by
  refine ⟨fun m => ?_, fun m => ?_⟩
  · obtain ⟨ws, z⟩ := r.free p m
    rw [h] at z; cases z
  · obtain ⟨ws, z⟩ := r.hid p m
    rw [h] at z; cases z
/-- a hidden list is shown: an object of the store from now on -/
theorem Rel.shown (r : Rel K (ρ.hide p) H S) (hp : p ∉ ρ.l) {vs : List V} {ds : List D} (e : H p = some (.lst vs)) (q : RepDs K (ρ.hide p) H ds vs) : Rel K ⟨ρ.l ++ [p], ρ.h⟩ H (S ++ [.lst ds]) := by
  refine ⟨by simpa using r.len, ?_, fun n u a e1 e2 => ?_, fun a m => r.hid a (List.mem_cons_of_mem _ m), r.tab⟩
  · show (ρ.l ++ [p]).Nodup
    rw [List.nodup_append]
    exact ⟨r.nd, by simp, fun a ha b hb => by simp at hb; subst hb; rintro rfl; exact hp ha⟩
  · have e2 : (ρ.l ++ [p])[n]? = some a := e2
    have hl : ρ.l.length = S.length := r.len
    by_cases hn : n < S.length
    · rw [List.getElem?_append_left hn] at e1
      rw [List.getElem?_append_left (by rw [hl]; exact hn)] at e2
      exact (r.at_ n u a e1 e2).sees Sees.shown
    · rw [List.getElem?_append_right (by omega)] at e1
      rw [List.getElem?_append_right (by rw [hl]; omega), hl] at e2
      have h0 : n - S.length = 0 := by
        rcases Nat.eq_zero_or_pos (n - S.length) with z | z
        · exact z
        · rw [List.getElem?_eq_none (by simp; omega)] at e1; cases e1
      rw [h0] at e1 e2
      simp at e1 e2
      subst e1 e2
      exact ⟨vs, e, RepDs.sees Sees.shown ds vs q⟩
theorem Fr.shown {ρ' : Rh} {H' : Hp} (f : Fr ρ H ρ' H') (h : H p = none) : Fr ρ H ⟨ρ'.l ++ [p], ρ'.h⟩ H' := by
  obtain ⟨l, rfl, hl⟩ := f.new
  refine ⟨⟨l ++ [p], by simp, fun a m => ?_⟩, f.keep, f.live⟩
  rcases List.mem_append.mp m with m | m
  · exact hl a m
  · rw [List.mem_singleton.mp m]; exact h
end

/-! ### results -/
inductive Res (α : Type) where
  | ok (a : α) (S : Store) | ex (c : Str) (S : Store) | bad
def Res.bind {α β : Type} (r : Res α) (f : α → Store → Res β) : Res β := match r with
  | .ok a S => f a S
  | .ex c S => .ex c S
  | .bad => .bad
@[simp] theorem Res.bind_ok {α β : Type} (a : α) (S : Store) (f : α → Store → Res β) : (Res.ok a S).bind f = f a S := rfl
@[simp] theorem Res.bind_ex {α β : Type} (c : Str) (S : Store) (f : α → Store → Res β) : (Res.ex c S : Res α).bind f = .ex c S := rfl
@[simp] theorem Res.bind_bad {α β : Type} (f : α → Store → Res β) : (Res.bad : Res α).bind f = .bad := rfl
abbrev ME := Env → Store → Res D
abbrev MT := Env → Store → Res Bool
abbrev MA := Env → Store → Res (List D)
inductive Fl where
  | nx | rt (d : D) | bk | ct | ex (c : Str)
/-- a statement: how it ends, the slots, the store; none: nothing is known -/
abbrev MS := Env → Store → Option (Fl × Env × Store)

/-! ### readings -/
section
variable (K : PySem.W.Frag) (mg : Str → Option Value) (W : WX)
/-- what a result must lead to: P of the value, the store, what ρ tells and the heap -/
def Post {α : Type} (P : α → Store → Rh → Hp → Prop) (ρ : Rh) (H : Hp) (σ : L2.St) : Res α → Prop
  | .ok a S' => ∀ ρ' H', Fr ρ H ρ' H' → Rel K ρ' H' S' → P a S' ρ' H'
  | .ex c S' => ∀ ρ' H' C, Fr ρ H ρ' H' → Rel K ρ' H' S' → mg c = some (.ref C) → W (.ref C) none σ H'
  | .bad => False
abbrev PostE (ρ : Rh) (H : Hp) (σ : L2.St) (Q : VK) : Res D → Prop := Post K mg W (fun d _ ρ' H' => ∀ v, RepD K ρ' H' d v → Q v H') ρ H σ
abbrev PostT (ρ : Rh) (H : Hp) (σ : L2.St) (Q : Bool → Hp → Prop) : Res Bool → Prop := Post K mg W (fun b _ _ H' => Q b H') ρ H σ
abbrev PostA (ρ : Rh) (H : Hp) (σ : L2.St) (Q : List V → Hp → Prop) : Res (List D) → Prop := Post K mg W (fun ds _ ρ' H' => ∀ vs, RepDs K ρ' H' ds vs → Q vs H') ρ H σ
def PostN (ρ : Rh) (H : Hp) (σ : L2.St) (Q : VK) : Res (List D) → Prop
  | .ok ds S' => ∀ ρ' H' p vs, Fr ρ H ρ' H' → Rel K (ρ'.hide p) H' S' → H p = none → p ∉ ρ'.l → H' p = some (.lst vs) → RepDs K (ρ'.hide p) H' ds vs → Q (.ref p) H'
  | .ex c S' => ∀ ρ' H' C, Fr ρ H ρ' H' → Rel K ρ' H' S' → mg c = some (.ref C) → W (.ref C) none σ H'
  | .bad => False
def PostS (ρ : Rh) (H : Hp) (Dn : Ends) : Option (Fl × Env × Store) → Prop
  | none => False
  | some (.nx, e', S') => ∀ ρ' H' σ', Fr ρ H ρ' H' → Rel K ρ' H' S' → EnvRel K ρ' H' σ' e' → Dn.nx σ' H'
  | some (.rt d, _, S') => ∀ ρ' H' v, Fr ρ H ρ' H' → Rel K ρ' H' S' → RepD K ρ' H' d v → Dn.rt v H'
  | some (.bk, e', S') => ∀ ρ' H' σ', Fr ρ H ρ' H' → Rel K ρ' H' S' → EnvRel K ρ' H' σ' e' → Dn.bk σ' H'
  | some (.ct, e', S') => ∀ ρ' H' σ', Fr ρ H ρ' H' → Rel K ρ' H' S' → EnvRel K ρ' H' σ' e' → Dn.ct σ' H'
  | some (.ex c, e', S') => ∀ ρ' H' σ' C, Fr ρ H ρ' H' → Rel K ρ' H' S' → EnvRel K ρ' H' σ' e' → mg c = some (.ref C) → W (.ref C) none σ' H'
def tE (m : ME) : TE := fun σ H Q => ∃ ρ e S, EnvRel K ρ H σ e ∧ Rel K ρ H S ∧ PostE K mg W ρ H σ Q (m e S)
def tN (m : MA) : TE := fun σ H Q => ∃ ρ e S, EnvRel K ρ H σ e ∧ Rel K ρ H S ∧ PostN K mg W ρ H σ Q (m e S)
def tT (m : MT) : TT := fun σ H Q => ∃ ρ e S, EnvRel K ρ H σ e ∧ Rel K ρ H S ∧ PostT K mg W ρ H σ Q (m e S)
def tA (m : MA) : TA := fun σ H Q => ∃ ρ e S, EnvRel K ρ H σ e ∧ Rel K ρ H S ∧ PostA K mg W ρ H σ Q (m e S)
def tS (m : MS) : TS := fun Dn σ H => ∃ ρ e S, EnvRel K ρ H σ e ∧ Rel K ρ H S ∧ PostS K mg W ρ H Dn (m e S)
end
section
variable {K : PySem.W.Frag} {mg : Str → Option Value} {W : WX} {ρ ρ1 : Rh} {H H1 : Hp} {σ : L2.St}
theorem Post.fr {α : Type} {P : α → Store → Rh → Hp → Prop} (f : Fr ρ H ρ1 H1) : ∀ {r : Res α}, Post K mg W P ρ H σ r → Post K mg W P ρ1 H1 σ r
  | .ok _ _, h => fun ρ' H' g => h ρ' H' (f.trans g)
  | .ex _ _, h => fun ρ' H' C g => h ρ' H' C (f.trans g)
  | .bad, h => h
theorem Post.mono {α : Type} {P P' : α → Store → Rh → Hp → Prop} : ∀ {r : Res α}, Post K mg W P ρ H σ r → (∀ a S ρ' H', Fr ρ H ρ' H' → Rel K ρ' H' S → P a S ρ' H' → P' a S ρ' H') → Post K mg W P' ρ H σ r
  | .ok _ _, h, k => fun ρ' H' g R => k _ _ _ _ g R (h ρ' H' g R)
  | .ex _ _, h, _ => h
  | .bad, h, _ => h
/-- one behind the other -/
theorem Post.bind {α β : Type} {P : β → Store → Rh → Hp → Prop} {f : α → Store → Res β} : ∀ {r : Res α}, Post K mg W P ρ H σ (r.bind f) → Post K mg W (fun a S1 ρ1 H1 => Post K mg W P ρ1 H1 σ (f a S1)) ρ H σ r
  | .ok _ _, h => fun ρ' H' g R => Post.fr g h
  | .ex _ _, h => h
  | .bad, h => h
theorem PostN.fr {Q : VK} (f : Fr ρ H ρ1 H1) : ∀ {r : Res (List D)}, PostN K mg W ρ H σ Q r → PostN K mg W ρ1 H1 σ Q r
  | .ok _ _, h => fun ρ' H' p vs g R n => h ρ' H' p vs (f.trans g) R (by
      cases q : H p with
      | none => rfl
      | some o => obtain ⟨o', z⟩ := f.live p o q; rw [n] at z; cases z)
  | .ex _ _, h => fun ρ' H' C g => h ρ' H' C (f.trans g)
  | .bad, h => h
theorem PostS.fr {Dn : Ends} (f : Fr ρ H ρ1 H1) : ∀ {r : Option (Fl × Env × Store)}, PostS K mg W ρ H Dn r → PostS K mg W ρ1 H1 Dn r
  | none, h => h
  | some (.nx, _, _), h => fun ρ' H' σ' g => h ρ' H' σ' (f.trans g)
  | some (.rt _, _, _), h => fun ρ' H' v g => h ρ' H' v (f.trans g)
  | some (.bk, _, _), h => fun ρ' H' σ' g => h ρ' H' σ' (f.trans g)
  | some (.ct, _, _), h => fun ρ' H' σ' g => h ρ' H' σ' (f.trans g)
  | some (.ex _, _, _), h => fun ρ' H' σ' C g => h ρ' H' σ' C (f.trans g)
end

/-! ### judgements -/
section
variable (X : Cx) (W : WX)
abbrev EM (e : Expr) (m : ME) : Prop := PE X e (tE X.K X.mg W m)
abbrev NM (e : Expr) (m : MA) : Prop := PE X e (tN X.K X.mg W m)
abbrev TM (e : Expr) (m : MT) : Prop := PT X e (tT X.K X.mg W m)
abbrev WM (e : Expr) (m : MT) : Prop := PW X e (tT X.K X.mg W m)
abbrev AM (es : List Expr) (m : MA) : Prop := PA X es (tA X.K X.mg W m)
abbrev SM (s : Stmt) (m : MS) : Prop := PS X s (tS X.K X.mg W m)
abbrev BM (b : List Stmt) (m : MS) : Prop := PSs X b (tS X.K X.mg W m)
end
section
variable {X : Cx} {e : Expr} {es : List Expr} {st : Stmt} {sts : List Stmt}
theorem pe_imp {t t' : TE} (h : PE X e t) (i : ∀ σ H Q, t' σ H Q → t σ H Q) : PE X e t' := ⟨fun pins s σ H Q I q => h.run pins s σ H Q I (i _ _ _ q)⟩
theorem pt_imp {t t' : TT} (h : PT X e t) (i : ∀ σ H Q, t' σ H Q → t σ H Q) : PT X e t' := ⟨fun pins s σ H Q I q => h.run pins s σ H Q I (i _ _ _ q)⟩
theorem pw_imp {t t' : TT} (h : PW X e t) (i : ∀ σ H Q, t' σ H Q → t σ H Q) : PW X e t' := ⟨fun wh pins s σ H Q I q => h.run wh pins s σ H Q I (i _ _ _ q)⟩
theorem pa_imp {t t' : TA} (h : PA X es t) (i : ∀ σ H Q, t' σ H Q → t σ H Q) : PA X es t' := ⟨fun pos pins s σ H Q I q => h.run pos pins s σ H Q I (i _ _ _ q)⟩
theorem ps_imp {t t' : TS} (h : PS X st t) (i : ∀ D σ H, t' D σ H → t D σ H) : PS X st t' := ⟨fun pins s σ H D I q => h.run pins s σ H D I (i _ _ _ q)⟩
theorem pss_imp {t t' : TS} (h : PSs X sts t) (i : ∀ D σ H, t' D σ H → t D σ H) : PSs X sts t' := ⟨fun pins s σ H D I q => h.run pins s σ H D I (i _ _ _ q)⟩
end
end M


set_option Elab.async false
set_option linter.all false
set_option maxRecDepth 100000
set_option maxHeartbeats 2000000
namespace M
open PySem PySem.Spec PyProof.Rows L2
variable [Tabs]

/-! ### reading lists -/
/-- the items of a list or of a tuple -/
def lstOf (S : Store) : D → Option (List D)
  | .lst xs => some xs
  | .fro xs => some xs
  | .loc n => match S[n]? with
    | some (.lst xs) => some xs
    | _ => none
  | _ => none
/-- .. of a list that is not locked -/
def lstOf' (S : Store) : D → Option (List D)
  | .lst xs => some xs
  | .loc n => match S[n]? with
    | some (.lst xs) => some xs
    | _ => none
  | _ => none
def seqOf (S : Store) : D → Option (List D)
  | .tup xs => some xs
  | d => lstOf S d
section
variable {K : PySem.W.Frag} {ρ : Rh} {H : Hp} {S : Store} {d : D} {v : V} {xs : List D}
theorem lstOf'_rep (R : Rel K ρ H S) (h : RepD K ρ H d v) (e : lstOf' S d = some xs) : ∃ a vs, v = .ref a ∧ H a = some (.lst vs) ∧ RepDs K ρ H xs vs := by
  cases d <;> simp only [lstOf'] at e <;> try cases e
  case lst => cases h with | lst a b b' c => exact ⟨_, _, rfl, a, c⟩
  case loc n =>
    cases h with
    | loc ha =>
      split at e
      · rename_i ys hs
        cases e
        obtain ⟨vs, q, r⟩ := R.at_ n _ _ hs ha
        exact ⟨_, vs, rfl, q, r⟩
      · cases e
theorem lstOf_rep (R : Rel K ρ H S) (h : RepD K ρ H d v) (e : lstOf S d = some xs) : ∃ a vs, v = .ref a ∧ SqL K H a vs ∧ RepDs K ρ H xs vs := by
  cases d <;> simp only [lstOf] at e <;> try cases e
  case lst => cases h with | lst a b b' c => exact ⟨_, _, rfl, .inl (Rd.of a), c⟩
  case fro => cases h with
    | fro a b b' c => exact ⟨_, _, rfl, .inl a, c⟩
    | frk a c => exact ⟨_, _, rfl, .inr a, c⟩
  case loc n =>
    cases h with
    | loc ha =>
      split at e
      · rename_i ys hs
        cases e
        obtain ⟨vs, q, r⟩ := R.at_ n _ _ hs ha
        exact ⟨_, vs, rfl, .inl (Rd.of q), r⟩
      · cases e
theorem seqOf_rep (R : Rel K ρ H S) (h : RepD K ρ H d v) (e : seqOf S d = some xs) : ∃ a vs, v = .ref a ∧ (SqL K H a vs ∨ SqT K H a vs) ∧ RepDs K ρ H xs vs := by
  by_cases ht : ∃ ys, d = .tup ys
  · obtain ⟨ys, rfl⟩ := ht
    simp only [seqOf] at e
    cases e
    cases h with | tup a b => exact ⟨_, _, rfl, .inr a, b⟩
  · have e' : lstOf S d = some xs := by
      cases d <;> first | exact e | exact absurd ⟨_, rfl⟩ ht
    obtain ⟨a, vs, h1, h2, h3⟩ := lstOf_rep R h e'
    exact ⟨a, vs, h1, .inl h2, h3⟩
end

/-! ### what a pure operation comes to -/
def PostV (K : PySem.W.Frag) (ρ : Rh) (H : Hp) (S : Store) (Q : VK) : Option D → Prop
  | some d => ∀ ρ' H', Fr ρ H ρ' H' → Rel K ρ' H' S → ∀ v, RepD K ρ' H' d v → Q v H'
  | none => False
def Res.of {α : Type} (o : Option α) (S : Store) : Res α := match o with
  | some d => .ok d S
  | none => .bad
@[simp] theorem Res.of_some {α : Type} (d : α) (S : Store) : Res.of (some d) S = .ok d S := rfl
@[simp] theorem Res.of_none {α : Type} (S : Store) : Res.of (none : Option α) S = .bad := rfl
section
variable {K : PySem.W.Frag} {mg : Str → Option Value} {W : WX} {ρ : Rh} {H : Hp} {S : Store} {σ : L2.St} {Q : VK}
theorem PostE.of {o : Option D} (h : PostE K mg W ρ H σ Q (Res.of o S)) : PostV K ρ H S Q o := by
  cases o with
  | none => exact h
  | some d => exact h
/-- a value that is there -/
theorem PostV.use (R : Rel K ρ H S) {d : D} {v : V} (r : RepD K ρ H d v) (h : PostV K ρ H S Q (some d)) : Q v H := h ρ H (Fr.refl _ _) R v r
/-- a new tuple, a new list by value -/
theorem PostV.newT (R : Rel K ρ H S) {ds : List D} {vs : List V} (r : RepDs K ρ H ds vs) (h : PostV K ρ H S Q (some (.tup ds))) : ∀ p, H p = none → Q (.ref p) (upd H p (.tup vs)) := fun p hp =>
  h ρ _ (Fr.laid hp) (R.laid hp) _ (.tup (SqT.of upd_same) (RepDs.fr R.free (Fr.laid hp) _ _ r))
theorem PostV.newL (R : Rel K ρ H S) {ds : List D} {vs : List V} (r : RepDs K ρ H ds vs) (h : PostV K ρ H S Q (some (.lst ds))) : ∀ p, H p = none → Q (.ref p) (upd H p (.lst vs)) := fun p hp =>
  h ρ _ (Fr.laid hp) (R.laid hp) _ (.lst upd_same (R.newh hp).1 (R.newh hp).2 (RepDs.fr R.free (Fr.laid hp) _ _ r))
end
/-- two values, a pure operation on them -/
abbrev DOp := D → D → Store → Option D
def OpD (X : Cx) (f : Value → Value → Sem Value) (g : DOp) : Prop :=
  ∀ (pins : List (Addr × Obj)) (s : Shared) (σ : L2.St) (ρ : Rh) (H : Hp) (S : Store) (dx dy : D) (vx vy : V) (ux uy : Value) (Q : VK), Inv X pins σ H s → Rel X.K ρ H S → RepD X.K ρ H dx vx → RepD X.K ρ H dy vy → RelV vx ux → RelV vy uy →
    PostV X.K ρ H S Q (g dx dy S) → wpAny (model X.prog X.w) X.A (f ux uy) (EP X pins σ Q) X.xe s
def rOpD (K : PySem.W.Frag) (g : DOp) : R2 := fun x y H Q => ∃ ρ S dx dy, Rel K ρ H S ∧ RepD K ρ H dx x ∧ RepD K ρ H dy y ∧ PostV K ρ H S Q (g dx dy S)
theorem OpD.r {X : Cx} {f : Value → Value → Sem Value} {g : DOp} (o : OpD X f g) : OpR X f (rOpD X.K g) := fun pins s σ H x y v u Q I rx ry ⟨ρ, S, dx, dy, R, r1, r2, q⟩ => o pins s σ ρ H S dx dy x y v u Q I R r1 r2 rx ry q

/-! ### expressions -/
def mVar (i : Nat) : ME := fun e S => match e[i]? with
  | some (some d) => .ok d S
  | _ => .bad
def mC (d : D) : ME := fun _ S => .ok d S
def mBin (g : DOp) (a b : ME) : ME := fun e S => (a e S).bind fun x S1 => (b e S1).bind fun y S2 => .of (g x y S2) S2
section
variable {X : Cx} {W : WX} {a b c : Expr} {ma mb mc : ME} {pos : Pos}
theorem em_var {e : Expr} {i : Nat} (h : PE X e (tVar i)) : EM X W e (mVar i) := pe_imp h fun σ H Q ⟨ρ, e, S, he, R, q⟩ => by
  unfold mVar at q
  split at q
  · rename_i d hd
    obtain ⟨v, h1, h2⟩ := he.2 i d hd
    exact ⟨v, h1, q ρ H (Fr.refl _ _) R v h2⟩
  · exact q.elim
theorem em_c {e : Expr} {v : V} {d : D} (h : PE X e (tC v)) (r : ∀ ρ H, RepD X.K ρ H d v) : EM X W e (mC d) := pe_imp h fun σ H Q ⟨ρ, e, S, he, R, q⟩ => q ρ H (Fr.refl _ _) R v (r ρ H)
theorem em_int {i : Int} {j pos} : EM X W (.Constant (.int i) j pos) (mC (.int i)) := em_c pe_int fun _ _ => .int i
theorem em_str {x : Str} {j pos} : EM X W (.Constant (.str x) j pos) (mC (.str x)) := em_c pe_str fun _ _ => .str x
theorem em_bl {b : Bool} {j pos} : EM X W (.Constant (.bool b) j pos) (mC (.bl b)) := em_c pe_bl fun _ _ => .bl b
theorem em_non {j pos} : EM X W (.Constant .none j pos) (mC .non) := em_c pe_non fun _ _ => .non
/-- two in a row -/
theorem tE_bin {g : D → D → Store → Res D} {r : R2} (hr : ∀ ρ H S dx dy vx vy Q σ, Rel X.K ρ H S → RepD X.K ρ H dx vx → RepD X.K ρ H dy vy → PostE X.K X.mg W ρ H σ Q (g dx dy S) → r vx vy H Q) {σ : L2.St} {H : Hp} {Q : VK}
    (h : tE X.K X.mg W (fun e S => (ma e S).bind fun x S1 => (mb e S1).bind fun y S2 => g x y S2) σ H Q) : tOp r (tE X.K X.mg W ma) (tE X.K X.mg W mb) σ H Q := by
  obtain ⟨ρ, e, S, he, R, q⟩ := h
  refine ⟨ρ, e, S, he, R, (Post.bind q).mono fun x S1 ρ1 H1 f1 R1 q v rx => ?_⟩
  refine ⟨ρ1, e, S1, he.fr R.free f1, R1, (Post.bind q).mono fun y S2 ρ2 H2 f2 R2 q v2 ry => ?_⟩
  exact hr ρ2 H2 S2 x y v v2 Q σ R2 (RepD.fr R1.free f2 _ _ rx) ry q
theorem em_bin {op : Operator} {g : DOp} (o : OpD X (binaryOp op) g) (ha : EM X W a ma) (hb : EM X W b mb) : EM X W (.BinOp a op b pos) (mBin g ma mb) :=
  pe_imp (pe_op o.r ha hb) fun σ H Q h => tE_bin (fun ρ H S dx dy vx vy Q σ R rx ry q => ⟨ρ, S, dx, dy, R, rx, ry, q.of⟩) h
/-- a comparison as a value -/
theorem em_cmp {op : CmpOp} {g : DOp} (o : OpD X (compareOp op) g) (ha : EM X W a ma) (hb : EM X W b mb) (hm : behindInMarks op b = false) : EM X W (.Compare a [op] [b] pos) (mBin g ma mb) :=
  pe_imp (pe_cmpR o.r ha hb hm) fun σ H Q h => tE_bin (fun ρ H S dx dy vx vy Q σ R rx ry q => ⟨ρ, S, dx, dy, R, rx, ry, q.of⟩) h
/-- the truth value of a value that is one -/
def bOf : D → Option Bool
  | .bl b => some b
  | _ => none
def mB (m : ME) : MT := fun e S => (m e S).bind fun d S1 => .of (bOf d) S1
theorem tE_test {m : ME} {σ : L2.St} {H : Hp} {Q : Bool → Hp → Prop} (h : tT X.K X.mg W (mB m) σ H Q) : tE X.K X.mg W m σ H fun x H' => ∃ k, x = .bl k ∧ Q k H' := by
  obtain ⟨ρ, e, S, he, R, q⟩ := h
  refine ⟨ρ, e, S, he, R, (Post.bind q).mono fun x S1 ρ1 H1 f1 R1 q v rx => ?_⟩
  cases x with
  | bl b => cases rx; exact ⟨b, rfl, q ρ1 H1 (Fr.refl _ _) R1⟩
  | _ => exact q.elim
theorem tOp_mono {r : R2} {ta tb : TE} {σ : L2.St} {H : Hp} {Q : VK} (h : tOp r ta tb σ H Q) : tOp r ta tb σ H Q := h
theorem tm_cmp {op : CmpOp} {g : DOp} (o : OpD X (compareOp op) g) (ha : EM X W a ma) (hb : EM X W b mb) (hm : behindInMarks op b = false) : TM X W (.Compare a [op] [b] pos) (mB (mBin g ma mb)) :=
  pt_imp (pt_cmpR o.r ha hb hm) fun σ H Q h => tE_bin (fun ρ H S dx dy vx vy Q σ R rx ry q => ⟨ρ, S, dx, dy, R, rx, ry, q.of⟩) (tE_test h)
/-- the truth of any value -/
def truOf (S : Store) : D → Option Bool
  | .non => some false
  | .bl b => some b
  | .int i => some (i != 0)
  | .str x => if x.length ≤ sizeLine then some ((x.length : Int) != 0) else none
  | d => match seqOf S d with
    | some xs => some (!xs.isEmpty)
    | none => none
def mTru (m : ME) : MT := fun e S => (m e S).bind fun d S1 => .of (truOf S1 d) S1
theorem isEmpty_rep {K : PySem.W.Frag} {ρ : Rh} {H : Hp} {xs : List D} {vs : List V} (h : RepDs K ρ H xs vs) : vs.isEmpty = xs.isEmpty := by
  cases h <;> rfl
theorem truOf_rep {K : PySem.W.Frag} {ρ : Rh} {H : Hp} {S : Store} (R : Rel K ρ H S) {d : D} {v : V} {k : Bool} (h : RepD K ρ H d v) (e : truOf S d = some k) : TruV K v H k := by
  have seq : ∀ {xs}, seqOf S d = some xs → k = (!xs.isEmpty) → TruV K v H k := fun {xs} e1 e2 => by
    obtain ⟨a, vs, rfl, q, r⟩ := seqOf_rep R h e1
    rw [← isEmpty_rep r] at e2
    rcases q with q | q
    · exact .inl ⟨vs, q, e2⟩
    · exact .inr (.inl ⟨vs, q, e2⟩)
  have gen : (match seqOf S d with | some xs => some (!xs.isEmpty) | none => none) = some k → TruV K v H k := fun z => by
    split at z
    · rename_i xs e1
      exact seq e1 (Option.some.inj z).symm
    · cases z
  cases d with
  | non => cases h; exact (Option.some.inj e).symm
  | bl b => cases h; exact (Option.some.inj e).symm
  | int i => cases h; exact (Option.some.inj e).symm
  | str x =>
    cases h
    have e : (if x.length ≤ sizeLine then some ((x.length : Int) != 0) else none) = some k := e
    by_cases hz : x.length ≤ sizeLine
    · rw [if_pos hz] at e
      exact ⟨hz, (Option.some.inj e).symm⟩
    · rw [if_neg hz] at e
      cases e
  | tup xs => exact gen e
  | lst xs => exact gen e
  | fro xs => exact gen e
  | loc n => exact gen e
  | ref a => exact gen e
  | ty n => exact gen e
theorem tm_tru (ha : EM X W a ma) (he : ∀ whole, isTrue a X.env whole = (do let v ← whole; standAt a.pos; holding [v] (truthy v))) : TM X W a (mTru ma) :=
  pt_imp (pt_truth ha he) fun σ H Q h => by
    obtain ⟨ρ, e, S, he, R, q⟩ := h
    refine ⟨ρ, e, S, he, R, (Post.bind q).mono fun x S1 ρ1 H1 f1 R1 q v rx => ?_⟩
    cases hk : truOf S1 x with
    | none => rw [hk] at q; exact q.elim
    | some k =>
      rw [hk] at q
      exact ⟨k, truOf_rep R1 rx hk, q ρ1 H1 (Fr.refl _ _) R1⟩
/-! and, or, not -/
def mAnd (a b : MT) : MT := fun e S => (a e S).bind fun c S1 => if c = true then b e S1 else .ok false S1
def mOr (a b : MT) : MT := fun e S => (a e S).bind fun c S1 => if c = true then .ok true S1 else b e S1
def mNot (a : MT) : MT := fun e S => (a e S).bind fun c S1 => .ok (!c) S1
variable {ta tb : MT} {rest : List Expr}
theorem tT_then {σ : L2.St} {H : Hp} {Q : Bool → Hp → Prop} {t : MT} {f : Bool → Env → Store → Res Bool} {u : Bool → Hp → Prop}
    (hu : ∀ ρ H c e S, EnvRel X.K ρ H σ e → Rel X.K ρ H S → PostT X.K X.mg W ρ H σ Q (f c e S) → u c H)
    (h : tT X.K X.mg W (fun e S => (t e S).bind fun c S1 => f c e S1) σ H Q) : tT X.K X.mg W t σ H u := by
  obtain ⟨ρ, e, S, he, R, q⟩ := h
  exact ⟨ρ, e, S, he, R, (Post.bind q).mono fun x S1 ρ1 H1 f1 R1 q => hu ρ1 H1 x e S1 (he.fr R.free f1) R1 q⟩
theorem wm_and1 (ha : TM X W a ta) : WM X W (.BoolOp .And [a] pos) ta := pw_and1 ha
theorem wm_or1 (ha : TM X W a ta) : WM X W (.BoolOp .Or [a] pos) ta := pw_or1 ha
theorem wm_and (ha : TM X W a ta) (hb : WM X W (.BoolOp .And (b :: rest) pos) tb) : WM X W (.BoolOp .And (a :: b :: rest) pos) (mAnd ta tb) :=
  pw_imp (pw_and ha hb) fun σ H Q h => tT_then (f := fun c e S => if c = true then tb e S else .ok false S) (fun ρ H c e S he R q => by
    cases c with
    | true => exact ⟨ρ, e, S, he, R, q⟩
    | false => exact q ρ H (Fr.refl _ _) R) h
theorem wm_or (ha : TM X W a ta) (hb : WM X W (.BoolOp .Or (b :: rest) pos) tb) : WM X W (.BoolOp .Or (a :: b :: rest) pos) (mOr ta tb) :=
  pw_imp (pw_or ha hb) fun σ H Q h => tT_then (f := fun c e S => if c = true then .ok true S else tb e S) (fun ρ H c e S he R q => by
    cases c with
    | false => exact ⟨ρ, e, S, he, R, q⟩
    | true => exact q ρ H (Fr.refl _ _) R) h
theorem tm_w (h : WM X W a ta) : TM X W a ta := h.pt
theorem tm_not (ha : TM X W a ta) : TM X W (.UnaryOp .Not a pos) (mNot ta) :=
  pt_imp (pt_not ha) fun σ H Q h => tT_then (f := fun c e S => .ok (!c) S) (fun ρ H c e S he R q => q ρ H (Fr.refl _ _) R) h
/-! .. as values -/
def mIte (t : MT) (a b : ME) : ME := fun e S => (t e S).bind fun c S1 => if c = true then a e S1 else b e S1
def mAndV (a b : ME) : ME := fun e S => (a e S).bind fun d S1 => match d with
  | .bl c => if c = true then b e S1 else .ok (.bl false) S1
  | _ => .bad
def mOrV (a b : ME) : ME := fun e S => (a e S).bind fun d S1 => match d with
  | .bl c => if c = true then .ok (.bl true) S1 else b e S1
  | _ => .bad
def mNotV (a : ME) : ME := fun e S => (a e S).bind fun d S1 => match d with
  | .bl c => .ok (.bl (!c)) S1
  | _ => .bad
theorem tE_then {σ : L2.St} {H : Hp} {Q : VK} {t : ME} {f : D → Env → Store → Res D} {u : VK}
    (hu : ∀ ρ H d v e S, EnvRel X.K ρ H σ e → Rel X.K ρ H S → RepD X.K ρ H d v → PostE X.K X.mg W ρ H σ Q (f d e S) → u v H)
    (h : tE X.K X.mg W (fun e S => (t e S).bind fun c S1 => f c e S1) σ H Q) : tE X.K X.mg W t σ H u := by
  obtain ⟨ρ, e, S, he, R, q⟩ := h
  exact ⟨ρ, e, S, he, R, (Post.bind q).mono fun x S1 ρ1 H1 f1 R1 q v r => hu ρ1 H1 x v e S1 (he.fr R.free f1) R1 r q⟩
theorem em_one {op} (ha : EM X W a ma) : EM X W (.BoolOp op [a] pos) ma := pe_one ha
theorem em_and (ha : EM X W a ma) (hb : EM X W (.BoolOp .And (b :: rest) pos) mb) : EM X W (.BoolOp .And (a :: b :: rest) pos) (mAndV ma mb) :=
  pe_imp (pe_and ha hb) fun σ H Q h => tE_then (f := fun d e S => match d with | .bl c => if c = true then mb e S else .ok (.bl false) S | _ => .bad) (fun ρ H d v e S he R r q => by
    cases d with
    | bl c =>
      cases r
      refine ⟨c, rfl, ?_⟩
      cases c with
      | true => exact ⟨ρ, e, S, he, R, q⟩
      | false => exact q ρ H (Fr.refl _ _) R _ (.bl false)
    | _ => exact q.elim) h
theorem em_or (ha : EM X W a ma) (hb : EM X W (.BoolOp .Or (b :: rest) pos) mb) : EM X W (.BoolOp .Or (a :: b :: rest) pos) (mOrV ma mb) :=
  pe_imp (pe_or ha hb) fun σ H Q h => tE_then (f := fun d e S => match d with | .bl c => if c = true then .ok (.bl true) S else mb e S | _ => .bad) (fun ρ H d v e S he R r q => by
    cases d with
    | bl c =>
      cases r
      refine ⟨c, rfl, ?_⟩
      cases c with
      | false => exact ⟨ρ, e, S, he, R, q⟩
      | true => exact q ρ H (Fr.refl _ _) R _ (.bl true)
    | _ => exact q.elim) h
theorem em_not (ha : EM X W a ma) : EM X W (.UnaryOp .Not a pos) (mNotV ma) :=
  pe_imp (pe_not ha) fun σ H Q h => tE_then (f := fun d e S => match d with | .bl c => .ok (.bl (!c)) S | _ => .bad) (fun ρ H d v e S he R r q => by
    cases d with
    | bl c => cases r; exact ⟨c, rfl, q ρ H (Fr.refl _ _) R _ (.bl _)⟩
    | _ => exact q.elim) h
theorem em_ite (hc : TM X W c ta) (ha : EM X W a ma) (hb : EM X W b mb) : EM X W (.IfExp c a b pos) (mIte ta ma mb) :=
  pe_imp (pe_ifExp hc ha hb) fun σ H Q ⟨ρ, e, S, he, R, q⟩ => by
    refine ⟨ρ, e, S, he, R, (Post.bind q).mono fun x S1 ρ1 H1 f1 R1 q => ?_⟩
    cases x with
    | true => exact ⟨ρ1, e, S1, he.fr R.free f1, R1, q⟩
    | false => exact ⟨ρ1, e, S1, he.fr R.free f1, R1, q⟩
end
end M


set_option Elab.async false
set_option linter.all false
set_option maxRecDepth 100000
set_option maxHeartbeats 4000000
namespace M
open PySem PySem.Spec PyProof.Rows L2
variable [Tabs]

/-! ### tuple * int, the cases that HandS.TupMul leaves -/
theorem tuple_mulSame (l : Addr) (items : Array Value) (n : Nat) (dd : Option Addr) (sl : Array (Option Value)) (x : Int) (u : Tok) (c0 : (decide (x < -(2 ^ 63)) || decide (x ≥ 2 ^ 63)) = false) (c1 : (items.isEmpty || x == 1) = true) :
    Meets (Builtin.«tuple.__mul__» ⟨[.ref l, .int x u], []⟩) (fun _ R s => s.heap.get? l = some { cls := .type "tuple", dict := dd, data := .seq items n, slots := sl } ∧ R (.ok (.ret (Value.ref l))) s) :=
  .of_wp fun prog w A R s h => by
    obtain ⟨hp, g, d, tk, os⟩ := s
    obtain ⟨hl, h⟩ := h
    have f1 := AutoSeq1.idx_int
    wp_walk using wpAny_loadPart' hl
    repeat (first
      | (refine wpAny_ite_false (decide_eq_false (by rw [c0]; exact Bool.false_ne_true)) ?_; wp_walk using wpAny_loadPart' hl)
      | (refine wpAny_ite_true (decide_eq_true (by rw [c1])) ?_; wp_walk using wpAny_loadPart' hl))
    exact ⟨_, rfl, h⟩
theorem tuple_mulNone (l : Addr) (items : Array Value) (n : Nat) (dd : Option Addr) (sl : Array (Option Value)) (x : Int) (u : Tok) (c0 : (decide (x < -(2 ^ 63)) || decide (x ≥ 2 ^ 63)) = false) (c1 : (items.isEmpty || x == 1) = false) (c2 : (decide (x ≤ 0) || items.isEmpty) = true) :
    Meets (Builtin.«tuple.__mul__» ⟨[.ref l, .int x u], []⟩) (fun _ R s => s.heap.get? l = some { cls := .type "tuple", dict := dd, data := .seq items n, slots := sl } ∧
      R (.ok (.ret (Value.ref s.heap.objs.size))) { s with heap := s.heap.push { cls := Value.type "tuple", data := Data.seq #[] }, toks := s.toks }) :=
  .of_wp fun prog w A R s h => by
    obtain ⟨hp, g, d, tk, os⟩ := s
    obtain ⟨hl, h⟩ := h
    have f1 := AutoSeq1.idx_int
    wp_walk using wpAny_loadPart' hl
    repeat (first
      | (refine wpAny_ite_false (decide_eq_false (by rw [c0]; exact Bool.false_ne_true)) ?_; wp_walk using wpAny_loadPart' hl)
      | (refine wpAny_ite_false (decide_eq_false (by rw [c1]; exact Bool.false_ne_true)) ?_; wp_walk using wpAny_loadPart' hl)
      | (refine wpAny_ite_true (decide_eq_true (by rw [c2])) ?_; wp_walk using wpAny_loadPart' hl))
    exact ⟨_, rfl, h⟩

section
variable {X : Cx}
/-- tuple * int -/
theorem op_repT_same {xs : List V} {l : Addr} {k : Int} {pins : List (Addr × Obj)} {s : Shared} {σ : L2.St} {H : Hp} {Q : VK} {t : Tok} (I : Inv X pins σ H s) (hT : SqT X.K H l xs) (hk : -(2 ^ 63) ≤ k ∧ k < 2 ^ 63) (h1 : xs = [] ∨ k = 1) (q : Q (.ref l) H) :
    wpAny (model X.prog X.w) X.A (binaryOp .Mult (.ref l) (.int k t)) (EP X pins σ Q) X.xe s := by
  obtain ⟨its, r, ⟨⟨cls, dd, data, sl⟩, ho, hc, n, hd⟩, hs⟩ := I.tuple hT
  simp only at hc hd
  subst hc hd
  have c0 : (decide (k < -(2 ^ 63)) || decide (k ≥ 2 ^ 63)) = false := by
    rw [decide_eq_false (by omega), decide_eq_false (by omega)] <;> rfl
  have c1 : (its.toArray.isEmpty || k == 1) = true := by
    rcases h1 with h1 | h1
    · subst h1; cases r; rfl
    · subst h1; simp
  exact wpAny_binaryOp_repeat_ref (T := "tuple") (U := "int") (by decide) ⟨_, ho, rfl⟩ (fun s' => typeIs_int s' k t) noFill_tuple_mul F.fills_int_mul F.slot_int_rmul repeat_tuple F.slot_int_index.lookup
    (call_meets F.slot_int_rmul (typeIs_int s k t) F.entry_int_rmul (F.args_int_rmul_2 _ _) (int_rmul_tuple k t l its.toArray n dd sl)
      ⟨ho, rfl, ⟨_, ho, rfl⟩, call_meets F.slot_tuple_mul ⟨_, ho, rfl⟩ F.entry_tuple_mul (F.args_tuple_mul_2 _ _) (tuple_mulSame l its.toArray n dd sl k t c0 c1) ⟨ho, .ref l, H, I, rfl, q⟩⟩)
theorem op_repT_none {xs : List V} {l : Addr} {k : Int} {pins : List (Addr × Obj)} {s : Shared} {σ : L2.St} {H : Hp} {Q : VK} {t : Tok} (I : Inv X pins σ H s) (hT : SqT X.K H l xs) (hk : -(2 ^ 63) ≤ k ∧ k < 2 ^ 63) (h1 : xs ≠ []) (h2 : k ≤ 0) (q : ∀ p, H p = none → Q (.ref p) (upd H p (.tup []))) :
    wpAny (model X.prog X.w) X.A (binaryOp .Mult (.ref l) (.int k t)) (EP X pins σ Q) X.xe s := by
  obtain ⟨its, r, ⟨⟨cls, dd, data, sl⟩, ho, hc, n, hd⟩, hs⟩ := I.tuple hT
  simp only at hc hd
  subst hc hd
  have c0 : (decide (k < -(2 ^ 63)) || decide (k ≥ 2 ^ 63)) = false := by
    rw [decide_eq_false (by omega), decide_eq_false (by omega)] <;> rfl
  have hi : its.toArray.isEmpty = false := by
    cases its with
    | nil => cases r; exact absurd rfl h1
    | cons a b => rfl
  have c1 : (its.toArray.isEmpty || k == 1) = false := by
    rw [hi, Bool.false_or]
    exact beq_eq_false_iff_ne.mpr (by omega)
  have c2 : (decide (k ≤ 0) || its.toArray.isEmpty) = true := by
    rw [decide_eq_true h2]; rfl
  refine wpAny_binaryOp_repeat_ref (T := "tuple") (U := "int") (by decide) ⟨_, ho, rfl⟩ (fun s' => typeIs_int s' k t) noFill_tuple_mul F.fills_int_mul F.slot_int_rmul repeat_tuple F.slot_int_index.lookup
    (call_meets F.slot_int_rmul (typeIs_int s k t) F.entry_int_rmul (F.args_int_rmul_2 _ _) (int_rmul_tuple k t l its.toArray n dd sl)
      ⟨ho, rfl, ⟨_, ho, rfl⟩, call_meets F.slot_tuple_mul ⟨_, ho, rfl⟩ F.entry_tuple_mul (F.args_tuple_mul_2 _ _) (tuple_mulNone l its.toArray n dd sl k t c0 c1 c2) ⟨ho, ?_⟩⟩)
  refine ⟨.ref s.heap.objs.size, _, I.laid (t' := s.toks) (o := .tup []) (fun b ob q => Heap.get?_push_of_some _ q) (Nat.le_refl _) ?_, rfl, q _ (I.hok.fresh (Nat.le_refl _))⟩
  exact ⟨Nat.zero_le _, [], .nil, IsTup.new _ _⟩
end

/-! ### numbers -/
/-- a product that the model reckons whatever the size of one side -/
def mulOk (i j : Int) : Bool := decide (i.natAbs < 2 ^ 64) || decide (j.natAbs < 2 ^ 64) || decide (i.natAbs < 2 ^ 400000 ∧ j.natAbs < 2 ^ 400000)
def dAdd : DOp
  | .int i, .int j, _ => some (.int (i + j))
  | .str x, .str y, _ => if x.length + y.length ≤ sizeLine then some (.str (x ++ y)) else none
  | .tup xs, .tup ys, _ => if xs.length + ys.length ≤ sizeLine then some (.tup (xs ++ ys)) else none
  | x, y, S => match lstOf' S x, lstOf' S y with
    | some xs, some ys => if xs.length + ys.length ≤ sizeLine then some (.lst (xs ++ ys)) else none
    | _, _ => none
def dSub : DOp
  | .int i, .int j, _ => some (.int (i - j))
  | _, _, _ => none
def dMul : DOp
  | .int i, .int j, _ => if i.natAbs < 2 ^ 64 ∨ j.natAbs < 2 ^ 64 then some (.int (i * j)) else none
  | .str x, .int k, _ => if k < 2 ^ 20 ∧ -(2 ^ 20) < k ∧ x.length * k.toNat ≤ 2 ^ 20 then some (.str (Txt.mul x k)) else none
  | .tup xs, .int k, _ => if k ≤ 1000 ∧ -1000 ≤ k ∧ xs.length ≤ 1000 then some (.tup (List.replicate k.toNat xs).flatten) else none
  | x, .int k, S => match lstOf' S x with
    | some xs => if k ≤ 1000 ∧ -1000 ≤ k ∧ xs.length ≤ 1000 then some (.lst (List.replicate k.toNat xs).flatten) else none
    | none => none
  | _, _, _ => none
def dFdiv : DOp
  | .int i, .int j, _ => if 0 < j ∧ j < 1073741824 then some (.int (i / j)) else none
  | _, _, _ => none
def dMod : DOp
  | .int i, .int j, _ => if 0 < j then some (.int (i % j)) else none
  | _, _, _ => none
def dPow : DOp
  | .int i, .int j, _ => if 0 ≤ j ∧ j ≤ 1000000 ∧ i.natAbs < 2 ^ 64 then some (.int (i ^ j.toNat)) else none
  | _, _, _ => none
def dShl : DOp
  | .int i, .int j, _ => if 0 ≤ j ∧ j ≤ 1000000 ∧ i.natAbs < 2 ^ 64 then some (.int (i * 2 ^ j.toNat)) else none
  | _, _, _ => none
def dShr : DOp
  | .int i, .int j, _ => if 0 ≤ j then some (.int (i / 2 ^ j.toNat)) else none
  | _, _, _ => none
def dAnd : DOp
  | .int i, .int j, _ => some (.int (Builtin.bitAnd i j))
  | _, _, _ => none
def dXor : DOp
  | .int i, .int j, _ => some (.int (Builtin.bitXor i j))
  | _, _, _ => none
section
variable {X : Cx}
theorem inj1 {α : Type} {a b : α} (h : some a = some b) : a = b := Option.some.inj h
/-- two ints by HandS's rule -/
theorem opd_int {f : Value → Value → Sem Value} {g : DOp} (h : ∀ (dx dy : D) (S : Store) (d : D), g dx dy S = some d → ∃ i j, dx = .int i ∧ dy = .int j ∧
      ∀ (pins : List (Addr × Obj)) (s : Shared) (σ : L2.St) (H : Hp) (vx vy : Value) (Q : VK), Inv X pins σ H s → RelV (.int i) vx → RelV (.int j) vy → (∀ v, (∀ ρ, RepD X.K ρ H d v) → Q v H) → wpAny (model X.prog X.w) X.A (f vx vy) (EP X pins σ Q) X.xe s) : OpD X f g :=
  fun pins s σ ρ H S dx dy vx vy ux uy Q I R rx ry r1 r2 q => by
    cases e : g dx dy S with
    | none => rw [e] at q; exact q.elim
    | some d =>
      rw [e] at q
      obtain ⟨i, j, rfl, rfl, k⟩ := h dx dy S d e
      cases rx
      cases ry
      exact k pins s σ H ux uy Q I r1 r2 fun v rv => q ρ H (Fr.refl _ _) R v (rv ρ)
theorem opd_sub : OpD X (binaryOp .Sub) dSub := opd_int fun dx dy S d e => by
  cases dx <;> cases dy <;> simp only [dSub] at e <;> try cases e
  rename_i i j
  exact ⟨i, j, rfl, rfl, fun pins s σ H vx vy Q I r1 r2 q => op_sub pins s σ H _ _ vx vy Q I r1 r2 ⟨i, j, rfl, rfl, q _ fun ρ => .int _⟩⟩
theorem opd_fdiv : OpD X (binaryOp .FloorDiv) dFdiv := opd_int fun dx dy S d e => by
  cases dx <;> cases dy <;> simp only [dFdiv] at e <;> try cases e
  rename_i i j
  split at e
  · rename_i hc
    cases e
    exact ⟨i, j, rfl, rfl, fun pins s σ H vx vy Q I r1 r2 q => op_fdiv pins s σ H _ _ vx vy Q I r1 r2 ⟨i, j, rfl, rfl, hc, q _ fun ρ => .int _⟩⟩
  · cases e
theorem opd_mod : OpD X (binaryOp .Mod) dMod := opd_int fun dx dy S d e => by
  cases dx <;> cases dy <;> simp only [dMod] at e <;> try cases e
  rename_i i j
  split at e
  · rename_i hc
    cases e
    exact ⟨i, j, rfl, rfl, fun pins s σ H vx vy Q I r1 r2 q => op_mod pins s σ H _ _ vx vy Q I r1 r2 ⟨i, j, rfl, rfl, hc, q _ fun ρ => .int _⟩⟩
  · cases e
theorem opd_pow : OpD X (binaryOp .Pow) dPow := opd_int fun dx dy S d e => by
  cases dx <;> cases dy <;> simp only [dPow] at e <;> try cases e
  rename_i i j
  split at e
  · rename_i hc
    cases e
    exact ⟨i, j, rfl, rfl, fun pins s σ H vx vy Q I r1 r2 q => op_pow pins s σ H _ _ vx vy Q I r1 r2 ⟨i, j, rfl, rfl, hc, q _ fun ρ => .int _⟩⟩
  · cases e
theorem opd_shl : OpD X (binaryOp .LShift) dShl := opd_int fun dx dy S d e => by
  cases dx <;> cases dy <;> simp only [dShl] at e <;> try cases e
  rename_i i j
  split at e
  · rename_i hc
    cases e
    exact ⟨i, j, rfl, rfl, fun pins s σ H vx vy Q I r1 r2 q => op_shl pins s σ H _ _ vx vy Q I r1 r2 ⟨i, j, rfl, rfl, hc, q _ fun ρ => .int _⟩⟩
  · cases e
theorem opd_shr : OpD X (binaryOp .RShift) dShr := opd_int fun dx dy S d e => by
  cases dx <;> cases dy <;> simp only [dShr] at e <;> try cases e
  rename_i i j
  split at e
  · rename_i hc
    cases e
    exact ⟨i, j, rfl, rfl, fun pins s σ H vx vy Q I r1 r2 q => op_shr pins s σ H _ _ vx vy Q I r1 r2 ⟨i, j, rfl, rfl, hc, q _ fun ρ => .int _⟩⟩
  · cases e
theorem opd_and : OpD X (binaryOp .BitAnd) dAnd := opd_int fun dx dy S d e => by
  cases dx <;> cases dy <;> simp only [dAnd] at e <;> try cases e
  rename_i i j
  exact ⟨i, j, rfl, rfl, fun pins s σ H vx vy Q I r1 r2 q => op_and pins s σ H _ _ vx vy Q I r1 r2 ⟨i, j, rfl, rfl, q _ fun ρ => .int _⟩⟩
theorem opd_xor : OpD X (binaryOp .BitXor) dXor := opd_int fun dx dy S d e => by
  cases dx <;> cases dy <;> simp only [dXor] at e <;> try cases e
  rename_i i j
  exact ⟨i, j, rfl, rfl, fun pins s σ H vx vy Q I r1 r2 q => op_xor pins s σ H _ _ vx vy Q I r1 r2 ⟨i, j, rfl, rfl, q _ fun ρ => .int _⟩⟩
theorem rep_nil {K : PySem.W.Frag} {ρ : Rh} {H : Hp} {ds : List D} {vs : List V} (h : RepDs K ρ H ds vs) : vs = [] ↔ ds = [] := by
  cases h <;> simp
theorem opd_add : OpD X (binaryOp .Add) dAdd := fun pins s σ ρ H S dx dy vx vy ux uy Q I R rx ry r1 r2 q => by
  have lists : ∀ xs ys, lstOf' S dx = some xs → lstOf' S dy = some ys → PostV X.K ρ H S Q (if xs.length + ys.length ≤ sizeLine then some (.lst (xs ++ ys)) else none) → wpAny (model X.prog X.w) X.A (binaryOp .Add ux uy) (EP X pins σ Q) X.xe s := fun xs ys e1 e2 q => by
    obtain ⟨a, vs, rfl, ha, ra⟩ := lstOf'_rep R rx e1
    obtain ⟨b, ws, rfl, hb, rb⟩ := lstOf'_rep R ry e2
    by_cases hz : xs.length + ys.length ≤ sizeLine
    · rw [if_pos hz] at q
      refine op_cat pins s σ H _ _ ux uy Q I r1 r2 ⟨a, b, vs, ws, rfl, rfl, ha, hb, by rw [← ra.length, ← rb.length]; exact hz, q.newL R (ra.append rb)⟩
    · rw [if_neg hz] at q; exact q.elim
  have gen : PostV X.K ρ H S Q (match lstOf' S dx, lstOf' S dy with
    | some xs, some ys => if xs.length + ys.length ≤ sizeLine then some (.lst (xs ++ ys)) else none
    | _, _ => none) → wpAny (model X.prog X.w) X.A (binaryOp .Add ux uy) (EP X pins σ Q) X.xe s := fun q => by
    split at q
    · exact lists _ _ (by assumption) (by assumption) q
    · exact q.elim
  by_cases h1 : (∃ i j, dx = .int i ∧ dy = .int j) ∨ (∃ x y, dx = .str x ∧ dy = .str y) ∨ (∃ x y, dx = .tup x ∧ dy = .tup y)
  · rcases h1 with ⟨i, j, rfl, rfl⟩ | ⟨x, y, rfl, rfl⟩ | ⟨x, y, rfl, rfl⟩
    · cases rx; cases ry
      exact op_add pins s σ H _ _ ux uy Q I r1 r2 ⟨i, j, rfl, rfl, q.use R (.int _)⟩
    · cases rx; cases ry
      simp only [dAdd] at q
      by_cases hz : x.length + y.length ≤ sizeLine
      · rw [if_pos hz] at q
        exact op_add_str pins s σ H _ _ ux uy Q I r1 r2 ⟨x, y, rfl, rfl, hz, q.use R (.str _)⟩
      · rw [if_neg hz] at q; exact q.elim
    · simp only [dAdd] at q
      by_cases hz : x.length + y.length ≤ sizeLine
      · rw [if_pos hz] at q
        cases rx with
        | tup hx rx =>
        cases ry with
        | tup hy ry =>
          rename_i a vs b ws
          refine op_catA pins s σ H _ _ ux uy Q I r1 r2 ⟨a, b, vs, ws, rfl, rfl, hx, hy, by rw [← rx.length, ← ry.length]; exact hz, fun e => ?_, fun _ e => ?_, fun _ _ => q.newT R (rx.append ry)⟩
          · rw [(rep_nil rx).mp e] at q
            exact q.use R (.tup hy ry)
          · rw [(rep_nil ry).mp e, List.append_nil] at q
            exact q.use R (.tup hx rx)
      · rw [if_neg hz] at q; exact q.elim
  · cases dx <;> cases dy <;> first
      | exact gen q
      | exact (h1 (.inl ⟨_, _, rfl, rfl⟩)).elim
      | exact (h1 (.inr (.inl ⟨_, _, rfl, rfl⟩))).elim
      | exact (h1 (.inr (.inr ⟨_, _, rfl, rfl⟩))).elim
theorem rep_flat {K : PySem.W.Frag} {ρ : Rh} {H : Hp} {ds : List D} {vs : List V} (h : RepDs K ρ H ds vs) : ∀ n : Nat, RepDs K ρ H (List.replicate n ds).flatten (List.replicate n vs).flatten
  | 0 => .nil
  | n + 1 => by simp only [List.replicate_succ, List.flatten_cons]; exact h.append (rep_flat h n)
theorem opd_mul : OpD X (binaryOp .Mult) dMul := fun pins s σ ρ H S dx dy vx vy ux uy Q I R rx ry r1 r2 q => by
  cases dy with
  | int k =>
    cases ry
    have lists : ∀ xs, lstOf' S dx = some xs → PostV X.K ρ H S Q (if k ≤ 1000 ∧ -1000 ≤ k ∧ xs.length ≤ 1000 then some (.lst (List.replicate k.toNat xs).flatten) else none) → wpAny (model X.prog X.w) X.A (binaryOp .Mult ux uy) (EP X pins σ Q) X.xe s := fun xs e1 q => by
      obtain ⟨a, vs, rfl, ha, ra⟩ := lstOf'_rep R rx e1
      by_cases hz : k ≤ 1000 ∧ -1000 ≤ k ∧ xs.length ≤ 1000
      · rw [if_pos hz] at q
        refine op_rep pins s σ H _ _ ux uy Q I r1 r2 ⟨a, k, vs, rfl, rfl, ha, by omega, by omega, ?_, q.newL R (rep_flat ra _)⟩
        rw [← ra.length, sizeLine_eq]
        have : xs.length * k.toNat ≤ 1000 * 1000 := Nat.mul_le_mul hz.2.2 (by omega)
        omega
      · rw [if_neg hz] at q; exact q.elim
    have gen : PostV X.K ρ H S Q (match lstOf' S dx with
      | some xs => if k ≤ 1000 ∧ -1000 ≤ k ∧ xs.length ≤ 1000 then some (.lst (List.replicate k.toNat xs).flatten) else none
      | none => none) → wpAny (model X.prog X.w) X.A (binaryOp .Mult ux uy) (EP X pins σ Q) X.xe s := fun q => by
      split at q
      · exact lists _ (by assumption) q
      · exact q.elim
    cases dx with
    | int i =>
      cases rx
      simp only [dMul] at q
      by_cases hz : i.natAbs < 2 ^ 64 ∨ k.natAbs < 2 ^ 64
      · rw [if_pos hz] at q
        exact op_mul pins s σ H _ _ ux uy Q I r1 r2 ⟨i, k, rfl, rfl, hz.elim (fun h => .inl ⟨by omega, by omega⟩) (fun h => .inr ⟨by omega, by omega⟩), q.use R (.int _)⟩
      · rw [if_neg hz] at q; exact q.elim
    | str x =>
      cases rx
      simp only [dMul] at q
      by_cases hz : k < 2 ^ 20 ∧ -(2 ^ 20) < k ∧ x.length * k.toNat ≤ 2 ^ 20
      · rw [if_pos hz] at q
        obtain ⟨t, rfl⟩ := r1
        obtain ⟨u, rfl⟩ := r2
        refine SB.mul ⟨by rw [decide_eq_false (by omega), decide_eq_false (by omega)] <;> rfl, fun h1 h2 h3 => ?_, fun h1 h2 => ?_⟩ fun t' tk => ⟨.str (Txt.mul x k), H, I.tok tk, ⟨_, rfl⟩, q.use R (.str _)⟩
        · have hx : (x.length : Int) ≤ 2 ^ 20 := by
            have : x.length * 1 ≤ x.length * k.toNat := Nat.mul_le_mul_left _ (by omega)
            omega
          have : (2 ^ 63 - 1) / k ≥ (2 ^ 63 - 1) / (2 ^ 20) := by
            rw [ge_iff_le, Int.le_ediv_iff_mul_le (by omega)]
            have h5 : ((2 ^ 63 - 1) / (2 ^ 20) : Int) * k ≤ ((2 ^ 63 - 1) / (2 ^ 20) : Int) * 2 ^ 20 := Int.mul_le_mul_of_nonneg_left (by omega) (by decide)
            have h6 : ((2 ^ 63 - 1) / (2 ^ 20) : Int) * 2 ^ 20 ≤ 2 ^ 63 - 1 := by decide
            omega
          have h7 : ((2 ^ 63 - 1) / (2 ^ 20) : Int) ≥ 2 ^ 20 := by decide
          omega
        · unfold Builtin.Str.tooLong
          rw [sizeLine_eq]
          exact decide_eq_false (by omega)
      · rw [if_neg hz] at q; exact q.elim
    | tup xs =>
      simp only [dMul] at q
      by_cases hz : k ≤ 1000 ∧ -1000 ≤ k ∧ xs.length ≤ 1000
      · rw [if_pos hz] at q
        cases rx with
        | tup hx rx =>
          rename_i a vs
          cases r1
          by_cases h0 : xs = []
          · subst h0
            cases rx
            obtain ⟨t, rfl⟩ := r2
            refine op_repT_same I hx ⟨by omega, by omega⟩ (.inl rfl) ?_
            have e : (List.replicate k.toNat ([] : List D)).flatten = [] := by simp
            rw [e] at q
            exact q.use R (.tup hx .nil)
          · have h0' : vs ≠ [] := fun z => h0 ((rep_nil rx).mp z)
            by_cases h1 : k = 1
            · subst h1
              obtain ⟨t, rfl⟩ := r2
              refine op_repT_same I hx ⟨by omega, by omega⟩ (.inr rfl) ?_
              have e : (List.replicate (1 : Int).toNat xs).flatten = xs := by simp
              rw [e] at q
              exact q.use R (.tup hx rx)
            · by_cases h2 : k ≤ 0
              · obtain ⟨t, rfl⟩ := r2
                refine op_repT_none I hx ⟨by omega, by omega⟩ h0' h2 ?_
                have e : k.toNat = 0 := by omega
                rw [e] at q
                exact q.newT R .nil
              · exact op_repT pins s σ H _ _ _ uy Q I (show L2.RelV (.ref a) (Value.ref a) from rfl) r2 ⟨a, k, vs, rfl, rfl, hx, h0', by omega, by omega, by rw [← rx.length]; omega, q.newT R (rep_flat rx _)⟩
      · rw [if_neg hz] at q; exact q.elim
    | _ => exact gen q
  | _ => cases dx <;> exact q.elim
/-! negation -/
def dNeg : D → Store → Option D
  | .int i, _ => some (.int (-i))
  | _, _ => none
end
end M


set_option Elab.async false
set_option linter.all false
set_option maxRecDepth 100000
set_option maxHeartbeats 4000000
namespace M
open PySem PySem.Spec PyProof.Rows L2
variable [Tabs]

/-! ### data as the model's own -/
mutual
def toPy0 : D → Option PyData
  | .non => some .none
  | .bl b => some (.bool b)
  | .int i => some (.int i)
  | .str x => some (.str x)
  | .tup xs => (toPys0 xs).map .tuple
  | .lst xs => (toPys0 xs).map .list
  | .fro _ => none
  | .loc _ => none
  | .ref _ => none
  | .ty _ => none
def toPys0 : List D → Option (List PyData)
  | [] => some []
  | d :: ds => match toPy0 d, toPys0 ds with
    | some p, some ps => some (p :: ps)
    | _, _ => none
end
def toPy (S : Store) : D → Option PyData
  | .loc n => match S[n]? with
    | some (.lst xs) => (toPys0 xs).map .list
    | _ => none
  | d => toPy0 d
section
variable {K : PySem.W.Frag} {ρ : Rh} {H : Hp} {S : Store}
mutual
theorem toPy0_rep : ∀ (d : D) (v : V) (p : PyData), RepD K ρ H d v → toPy0 d = some p → Dp K H v p
  | .non, _, _, h, e => by cases h; simp only [toPy0] at e; cases e; exact .non
  | .bl b, _, _, h, e => by cases h; simp only [toPy0] at e; cases e; exact .bl b
  | .int i, _, _, h, e => by cases h; simp only [toPy0] at e; cases e; exact .int i
  | .str x, _, _, h, e => by cases h; simp only [toPy0] at e; cases e; exact .str x
  | .tup ds, _, _, h, e => by
    cases h with
    | tup hs hd =>
      simp only [toPy0, Option.map_eq_some_iff] at e
      obtain ⟨ps, e1, rfl⟩ := e
      exact .tup hs (toPys0_rep ds _ ps hd e1)
  | .lst ds, _, _, h, e => by
    cases h with
    | lst hs _ _ hd =>
      simp only [toPy0, Option.map_eq_some_iff] at e
      obtain ⟨ps, e1, rfl⟩ := e
      exact .lst (.inl (.inl hs)) (toPys0_rep ds _ ps hd e1)
  | .fro ds, _, _, h, e => by simp only [toPy0] at e; cases e
  | .loc _, _, _, _, e => by simp only [toPy0] at e; cases e
  | .ref _, _, _, _, e => by simp only [toPy0] at e; cases e
  | .ty _, _, _, _, e => by simp only [toPy0] at e; cases e
theorem toPys0_rep : ∀ (ds : List D) (vs : List V) (ps : List PyData), RepDs K ρ H ds vs → toPys0 ds = some ps → DpAll K H vs ps
  | [], _, _, h, e => by cases h; simp only [toPys0] at e; cases e; exact .nil
  | d :: ds, _, _, h, e => by
    cases h with
    | cons h1 h2 =>
      simp only [toPys0] at e
      split at e
      · cases e
        exact .cons (toPy0_rep d _ _ h1 (by assumption)) (toPys0_rep ds _ _ h2 (by assumption))
      · cases e
end
theorem toPy_rep (R : Rel K ρ H S) {d : D} {v : V} {p : PyData} (h : RepD K ρ H d v) (e : toPy S d = some p) : Dp K H v p := by
  cases d with
  | loc n =>
    cases h with
    | loc ha =>
      simp only [toPy] at e
      split at e
      · rename_i xs hs
        rw [Option.map_eq_some_iff] at e
        obtain ⟨ps, e1, rfl⟩ := e
        obtain ⟨vs, q, r⟩ := R.at_ n _ _ hs ha
        exact .lst (.inl (.inl q)) (toPys0_rep xs _ ps r e1)
      · cases e
  | _ => exact toPy0_rep _ _ _ h e
end

/-! ### comparisons -/
def dEq : DOp
  | .str x, .str y, _ => some (.bl (decide (x = y)))
  | x, y, S => match toPy S x, toPy S y with
    | some p, some q => if SeqAt.shaped p = true ∧ SeqAt.shaped q = true then some (.bl (PyData.eqv p q)) else none
    | _, _ => none
def dNot : D → Option D
  | .bl b => some (.bl (!b))
  | _ => none
def dNe : DOp := fun x y S => (dEq x y S).bind dNot
def dLt : DOp
  | .int i, .int j, _ => some (.bl (decide (i < j)))
  | .str x, .str y, _ => some (.bl (decide (x.cps.toList < y.cps.toList)))
  | _, _, _ => none
def dLe : DOp
  | .int i, .int j, _ => some (.bl (decide (i ≤ j)))
  | .str x, .str y, _ => some (.bl (!decide (y.cps.toList < x.cps.toList)))
  | _, _, _ => none
def dGt : DOp
  | .int i, .int j, _ => some (.bl (decide (j < i)))
  | .str x, .str y, _ => some (.bl (decide (y.cps.toList < x.cps.toList)))
  | _, _, _ => none
def dGe : DOp
  | .int i, .int j, _ => some (.bl (decide (j ≤ i)))
  | .str x, .str y, _ => some (.bl (!decide (x.cps.toList < y.cps.toList)))
  | _, _, _ => none
def isNon : D → Bool
  | .non => true
  | _ => false
def dIs : DOp
  | x, .non, _ => some (.bl (isNon x))
  | .bl a, .bl b, _ => some (.bl (decide (a = b)))
  | _, _, _ => none
def dIsNot : DOp
  | x, .non, _ => some (.bl (!isNon x))
  | .bl a, .bl b, _ => some (.bl (!decide (a = b)))
  | _, _, _ => none
def dIn : DOp
  | .str x, .str y, _ => some (.bl (Txt.contains y x))
  | x, y, S => match toPy S x, toPy S y with
    | some p, some (.list qs) => if SeqAt.shaped p = true ∧ SeqAt.shaped (.list qs) = true then some (.bl (qs.any fun z => PyData.eqv z p)) else none
    | some p, some (.tuple qs) => if SeqAt.shaped p = true ∧ SeqAt.shaped (.list qs) = true then some (.bl (qs.any fun z => PyData.eqv z p)) else none
    | _, _ => none
def dNotIn : DOp := fun x y S => (dIn x y S).bind dNot
section
variable {X : Cx}
theorem isNon_rep {K : PySem.W.Frag} {ρ : Rh} {H : Hp} {d : D} {v : V} (h : RepD K ρ H d v) : decide (v = V.non) = isNon d := by
  cases h <;> rfl
theorem dEq_gen {x y : D} {S : Store} (h : ¬ ∃ a b, x = .str a ∧ y = .str b) : dEq x y S = match toPy S x, toPy S y with
    | some p, some q => if SeqAt.shaped p = true ∧ SeqAt.shaped q = true then some (.bl (PyData.eqv p q)) else none
    | _, _ => none := by
  cases x <;> cases y <;> first | rfl | exact (h ⟨_, _, rfl, rfl⟩).elim
theorem opd_eq (hu : X.A.units + 64 < cLine) : OpD X (compareOp .Eq) dEq := fun pins s σ ρ H S dx dy vx vy ux uy Q I R rx ry r1 r2 q => by
  by_cases h : ∃ a b, dx = .str a ∧ dy = .str b
  · obtain ⟨a, b, rfl, rfl⟩ := h
    cases rx; cases ry
    refine op_eq pins s σ H _ _ ux uy Q I r1 r2 ⟨rfl, ?_⟩
    have e : decide (V.str a = V.str b) = decide (a = b) := by simp
    rw [e]
    exact q.use R (.bl _)
  · rw [dEq_gen h] at q
    split at q
    · rename_i p p' h1 h2
      by_cases hs : SeqAt.shaped p = true ∧ SeqAt.shaped p' = true
      · rw [if_pos hs] at q
        exact op_eqD hu pins s σ H _ _ ux uy Q I r1 r2 ⟨p, p', toPy_rep R rx h1, toPy_rep R ry h2, hs.1, hs.2, q.use R (.bl _)⟩
      · rw [if_neg hs] at q; exact q.elim
    · exact q.elim
theorem opd_ne (hu : X.A.units + 64 < cLine) : OpD X (compareOp .NotEq) dNe := fun pins s σ ρ H S dx dy vx vy ux uy Q I R rx ry r1 r2 q => by
  unfold dNe at q
  by_cases h : ∃ a b, dx = .str a ∧ dy = .str b
  · obtain ⟨a, b, rfl, rfl⟩ := h
    cases rx; cases ry
    refine op_ne pins s σ H _ _ ux uy Q I r1 r2 ⟨rfl, ?_⟩
    have e : decide (V.str a = V.str b) = decide (a = b) := by simp
    rw [e]
    exact q.use R (.bl _)
  · rw [dEq_gen h] at q
    split at q
    · rename_i p p' h1 h2
      by_cases hs : SeqAt.shaped p = true ∧ SeqAt.shaped p' = true
      · rw [if_pos hs] at q
        exact op_neD hu pins s σ H _ _ ux uy Q I r1 r2 ⟨p, p', toPy_rep R rx h1, toPy_rep R ry h2, hs.1, hs.2, q.use R (.bl _)⟩
      · rw [if_neg hs] at q; exact q.elim
    · exact q.elim
theorem opd_lt : OpD X (compareOp .Lt) dLt := fun pins s σ ρ H S dx dy vx vy ux uy Q I R rx ry r1 r2 q => by
  cases dx <;> cases dy <;> first
    | exact q.elim
    | (cases rx; cases ry; exact op_lt pins s σ H _ _ ux uy Q I r1 r2 ⟨_, _, rfl, rfl, q.use R (.bl _)⟩)
    | (cases rx; cases ry; exact op_lt_str pins s σ H _ _ ux uy Q I r1 r2 ⟨_, _, rfl, rfl, q.use R (.bl _)⟩)
theorem opd_le : OpD X (compareOp .LtE) dLe := fun pins s σ ρ H S dx dy vx vy ux uy Q I R rx ry r1 r2 q => by
  cases dx <;> cases dy <;> first
    | exact q.elim
    | (cases rx; cases ry; exact op_le pins s σ H _ _ ux uy Q I r1 r2 ⟨_, _, rfl, rfl, q.use R (.bl _)⟩)
    | (cases rx; cases ry; exact op_le_str pins s σ H _ _ ux uy Q I r1 r2 ⟨_, _, rfl, rfl, q.use R (.bl _)⟩)
theorem opd_gt : OpD X (compareOp .Gt) dGt := fun pins s σ ρ H S dx dy vx vy ux uy Q I R rx ry r1 r2 q => by
  cases dx <;> cases dy <;> first
    | exact q.elim
    | (cases rx; cases ry; exact op_gt pins s σ H _ _ ux uy Q I r1 r2 ⟨_, _, rfl, rfl, q.use R (.bl _)⟩)
    | (cases rx; cases ry; exact op_gt_str pins s σ H _ _ ux uy Q I r1 r2 ⟨_, _, rfl, rfl, q.use R (.bl _)⟩)
theorem opd_ge : OpD X (compareOp .GtE) dGe := fun pins s σ ρ H S dx dy vx vy ux uy Q I R rx ry r1 r2 q => by
  cases dx <;> cases dy <;> first
    | exact q.elim
    | (cases rx; cases ry; exact op_ge pins s σ H _ _ ux uy Q I r1 r2 ⟨_, _, rfl, rfl, q.use R (.bl _)⟩)
    | (cases rx; cases ry; exact op_ge_str pins s σ H _ _ ux uy Q I r1 r2 ⟨_, _, rfl, rfl, q.use R (.bl _)⟩)
theorem opd_is : OpD X (compareOp .Is) dIs := fun pins s σ ρ H S dx dy vx vy ux uy Q I R rx ry r1 r2 q => by
  cases dy with
  | non =>
    have e : dIs dx .non S = some (.bl (isNon dx)) := by cases dx <;> rfl
    rw [e] at q
    have e2 := isNon_rep rx
    cases ry
    refine op_isN pins s σ H _ _ ux uy Q I r1 r2 ⟨rfl, ?_⟩
    rw [e2]
    exact q.use R (.bl _)
  | bl b =>
    cases dx with
    | bl a => cases rx; cases ry; exact op_isBl pins s σ H _ _ ux uy Q I r1 r2 ⟨a, b, rfl, rfl, q.use R (.bl _)⟩
    | _ => exact q.elim
  | _ => cases dx <;> exact q.elim
theorem opd_isNot : OpD X (compareOp .IsNot) dIsNot := fun pins s σ ρ H S dx dy vx vy ux uy Q I R rx ry r1 r2 q => by
  cases dy with
  | non =>
    have e : dIsNot dx .non S = some (.bl (!isNon dx)) := by cases dx <;> rfl
    rw [e] at q
    have e2 := isNon_rep rx
    cases ry
    refine op_notN pins s σ H _ _ ux uy Q I r1 r2 ⟨rfl, ?_⟩
    rw [e2]
    exact q.use R (.bl _)
  | bl b =>
    cases dx with
    | bl a => cases rx; cases ry; exact op_notBl pins s σ H _ _ ux uy Q I r1 r2 ⟨a, b, rfl, rfl, q.use R (.bl _)⟩
    | _ => exact q.elim
  | _ => cases dx <;> exact q.elim
theorem dIn_gen {x y : D} {S : Store} (h : ¬ ∃ a b, x = .str a ∧ y = .str b) : dIn x y S = match toPy S x, toPy S y with
    | some p, some (.list qs) => if SeqAt.shaped p = true ∧ SeqAt.shaped (.list qs) = true then some (.bl (qs.any fun z => PyData.eqv z p)) else none
    | some p, some (.tuple qs) => if SeqAt.shaped p = true ∧ SeqAt.shaped (.list qs) = true then some (.bl (qs.any fun z => PyData.eqv z p)) else none
    | _, _ => none := by
  cases x <;> cases y <;> first | rfl | exact (h ⟨_, _, rfl, rfl⟩).elim
theorem in_room {d : PyData} {qs : List PyData} (sd : SeqAt.shaped d = true) (hu : X.A.units + 65 < cLine) : X.A.units + 1 + min (PyData.depthAll qs) d.depth < cLine := by
  have h1 := SeqAt.depth_of_shaped sd
  have h2 := Nat.min_le_right (PyData.depthAll qs) d.depth
  omega
theorem opd_in_ (neg : Bool) (hu : X.A.units + 65 < cLine) : OpD X (compareOp (if neg then .NotIn else .In)) (if neg then dNotIn else dIn) := fun pins s σ ρ H S dx dy vx vy ux uy Q I R rx ry r1 r2 q => by
  by_cases h : ∃ a b, dx = .str a ∧ dy = .str b
  · obtain ⟨a, b, rfl, rfl⟩ := h
    cases rx; cases ry
    obtain ⟨t, rfl⟩ := r1
    obtain ⟨u, rfl⟩ := r2
    cases neg
    · exact SB.contains ⟨.bl _, H, I, rfl, q.use R (.bl _)⟩
    · exact SB.notContains ⟨.bl _, H, I, rfl, q.use R (.bl _)⟩
  · have fin : ∀ (k : Bool), dIn dx dy S = some (.bl k) → Q (.bl (if neg then !k else k)) H := fun k e => by
      cases neg
      · simp only [Bool.false_eq_true, if_false] at q ⊢
        rw [e] at q
        exact q.use R (.bl _)
      · simp only [if_true] at q ⊢
        unfold dNotIn at q
        rw [e] at q
        exact q.use R (.bl _)
    have none : dIn dx dy S = none → wpAny (model X.prog X.w) X.A (compareOp (if neg then .NotIn else .In) ux uy) (EP X pins σ Q) X.xe s := fun e => by
      cases neg
      · simp only [Bool.false_eq_true, if_false] at q
        rw [e] at q; exact q.elim
      · simp only [if_true] at q
        unfold dNotIn at q
        rw [e] at q; exact q.elim
    cases hd : dIn dx dy S with
    | none => exact none hd
    | some d =>
      have hd' := hd
      rw [dIn_gen h] at hd'
      split at hd'
      · rename_i p qs h1 h2
        split at hd'
        · rename_i hs
          cases hd'
          have fin := fin _ hd
          have d1 := toPy_rep R rx h1
          have d2 := toPy_rep R ry h2
          obtain ⟨as, e1⟩ := Dp.reads I p vx ux d1 r1
          obtain ⟨bs, e2⟩ := Dp.reads I (.list qs) vy uy d2 r2
          cases neg
          · exact SeqAt.in_list_reads e2 e1 (SeqAt.canLay_of_shaped hs.2) (SeqAt.canLay_of_shaped hs.1) (in_room hs.1 hu) ⟨.bl _, H, I, rfl, fin⟩
          · exact SeqAt.notIn_list_reads e2 e1 (SeqAt.canLay_of_shaped hs.2) (SeqAt.canLay_of_shaped hs.1) (in_room hs.1 hu) ⟨.bl _, H, I, rfl, fin⟩
        · cases hd'
      · rename_i p qs h1 h2
        split at hd'
        · rename_i hs
          cases hd'
          have fin := fin _ hd
          have d1 := toPy_rep R rx h1
          have d2 := toPy_rep R ry h2
          obtain ⟨as, e1⟩ := Dp.reads I p vx ux d1 r1
          obtain ⟨bs, e2⟩ := Dp.reads I (.tuple qs) vy uy d2 r2
          cases neg
          · exact SeqAt.in_tuple_reads e2 e1 (SeqAt.canLay_of_shaped hs.2) (SeqAt.canLay_of_shaped hs.1) (in_room hs.1 hu) ⟨.bl _, H, I, rfl, fin⟩
          · exact SeqAt.notIn_tuple_reads e2 e1 (SeqAt.canLay_of_shaped hs.2) (SeqAt.canLay_of_shaped hs.1) (in_room hs.1 hu) ⟨.bl _, H, I, rfl, fin⟩
        · cases hd'
      · cases hd'
theorem opd_in (hu : X.A.units + 65 < cLine) : OpD X (compareOp .In) dIn := opd_in_ false hu
theorem opd_notIn (hu : X.A.units + 65 < cLine) : OpD X (compareOp .NotIn) dNotIn := opd_in_ true hu
/-! two comparisons -/
def mChain (g g' : DOp) (a b c : ME) : ME := fun e S => (a e S).bind fun x S1 => (b e S1).bind fun y S2 => (Res.of (g x y S2) S2).bind fun k S3 => match k with
  | .bl k => if k = true then (c e S3).bind fun z S4 => .of (g' y z S4) S4 else .ok (.bl false) S3
  | _ => .bad
variable {W : WX} {a b c : Expr} {ma mb mc : ME} {pos : Pos}
theorem tE_chain {g g' : DOp} {σ : L2.St} {H : Hp} {Q : VK} (h : tE X.K X.mg W (mChain g g' ma mb mc) σ H Q) : tChain (rOpD X.K g) (rOpD X.K g') (tE X.K X.mg W ma) (tE X.K X.mg W mb) (tE X.K X.mg W mc) σ H Q := by
  obtain ⟨ρ, e, S, he, R, q⟩ := h
  refine ⟨ρ, e, S, he, R, (Post.bind q).mono fun x S1 ρ1 H1 f1 R1 q vx rx => ?_⟩
  refine ⟨ρ1, e, S1, he.fr R.free f1, R1, (Post.bind q).mono fun y S2 ρ2 H2 f2 R2 q vy ry => ?_⟩
  refine ⟨ρ2, S2, x, y, R2, RepD.fr R1.free f2 _ _ rx, ry, ?_⟩
  cases hk : g x y S2 with
  | none => rw [hk] at q; exact q.elim
  | some k =>
    rw [hk] at q
    intro ρ3 H3 f3 R3 v rv
    have q := Post.fr f3 q
    cases k with
    | bl k =>
      cases rv
      refine ⟨k, rfl, ?_⟩
      cases k with
      | true =>
        rw [if_pos rfl]
        refine ⟨ρ3, e, S2, ((he.fr R.free f1).fr R1.free f2).fr R2.free f3, R3, (Post.bind (r := mc e S2) (f := fun z S4 => Res.of (g' y z S4) S4) q).mono fun z S4 ρ4 H4 f4 R4 q vz rz => ?_⟩
        exact ⟨ρ4, S4, y, z, R4, RepD.fr R3.free f4 _ _ (RepD.fr R2.free f3 _ _ ry), rz, PostE.of (σ := σ) q⟩
      | false => exact q ρ3 H3 (Fr.refl _ _) R3 _ (.bl false)
    | _ => exact q.elim
theorem em_chain {op op' : CmpOp} {g g' : DOp} (o : OpD X (compareOp op) g) (o' : OpD X (compareOp op') g') (ha : EM X W a ma) (hb : EM X W b mb) (hc : EM X W c mc) (hm : lastMarks [op, op'] [b, c] = false := by with_unfolding_all rfl) :
    EM X W (.Compare a [op, op'] [b, c] pos) (mChain g g' ma mb mc) := pe_imp (pe_chain o.r o'.r ha hb hc hm) fun σ H Q h => tE_chain h
theorem tm_chain {op op' : CmpOp} {g g' : DOp} (o : OpD X (compareOp op) g) (o' : OpD X (compareOp op') g') (ha : EM X W a ma) (hb : EM X W b mb) (hc : EM X W c mc) (hm : lastMarks [op, op'] [b, c] = false := by with_unfolding_all rfl) :
    TM X W (.Compare a [op, op'] [b, c] pos) (mB (mChain g g' ma mb mc)) := pt_imp (pt_chain o.r o'.r ha hb hc hm) fun σ H Q h => tE_chain (tE_test h)
/-! negation -/
def mUn (g : D → Store → Option D) (a : ME) : ME := fun e S => (a e S).bind fun x S1 => .of (g x S1) S1
theorem em_neg (ha : EM X W a ma) : EM X W (.UnaryOp .USub a pos) (mUn dNeg ma) :=
  pe_imp (pe_un un_neg ha) fun σ H Q h => tE_then (f := fun x e S => .of (dNeg x S) S) (fun ρ H d v e S he R r q => by
    cases d with
    | int i => cases r; exact ⟨i, rfl, q ρ H (Fr.refl _ _) R _ (.int _)⟩
    | _ => exact q.elim) h
end
end M


set_option Elab.async false
set_option linter.all false
set_option maxRecDepth 100000
set_option maxHeartbeats 4000000
namespace M
open PySem PySem.Spec PyProof.Rows L2
variable [Tabs]

/-! ### items -/
def dIx : DOp
  | .str x, .int i, _ => if x.length ≤ sizeLine then (atI x.cps.toList i).map fun c => .str ⟨#[c]⟩ else none
  | d, .int i, S => (seqOf S d).bind fun xs => atI xs i
  | _, _, _ => none
theorem atI_rep {K : PySem.W.Frag} {ρ : Rh} {H : Hp} {xs : List D} {vs : List V} {i : Int} {d : D} (h : RepDs K ρ H xs vs) (e : atI xs i = some d) : ∃ v, atI vs i = some v ∧ RepD K ρ H d v := by
  unfold atI at e ⊢
  rw [← h.length]
  cases q : ixN xs.length i with
  | none => rw [q] at e; cases e
  | some j =>
    rw [q] at e
    obtain ⟨v, a, b⟩ := h.get (i := j) e
    exact ⟨v, a, b⟩
section
variable {X : Cx} {W : WX} {a b c : Expr} {ma mb mc : ME} {pos : Pos}
theorem em_ix (ha : EM X W a ma) (hb : EM X W b mb) (hs : PlainIx b) : EM X W (.Subscript a b pos) (mBin dIx ma mb) :=
  pe_imp (pe_ix ix_seq ha hb hs) fun σ H Q h => tE_bin (fun ρ H S dx dy vx vy Q σ R rx ry q => by
    have q := PostE.of q
    have seq : ∀ xs i, seqOf S dx = some xs → dy = .int i → PostV X.K ρ H S Q (atI xs i) → rIx X.K vx vy H Q := fun xs i e ei qa => by
      subst ei
      cases ry
      obtain ⟨a, vs, rfl, hq, r⟩ := seqOf_rep R rx e
      cases hk : atI xs i with
      | none => rw [hk] at qa; exact qa.elim
      | some d =>
        rw [hk] at qa
        obtain ⟨v, hv, rv⟩ := atI_rep r hk
        rcases hq with hq | hq
        · exact .inl ⟨a, vs, i, v, rfl, rfl, hq, hv, qa.use R rv⟩
        · exact .inr (.inl ⟨a, vs, i, v, rfl, rfl, hq, hv, qa.use R rv⟩)
    cases dy with
    | int i =>
      have gen : PostV X.K ρ H S Q ((seqOf S dx).bind fun xs => atI xs i) → rIx X.K vx vy H Q := fun q => by
        cases e : seqOf S dx with
        | none => rw [e] at q; exact q.elim
        | some xs => rw [e] at q; exact seq xs i e rfl q
      cases dx with
      | str x =>
        cases rx; cases ry
        simp only [dIx] at q
        by_cases hz : x.length ≤ sizeLine
        · rw [if_pos hz] at q
          cases hk : atI x.cps.toList i with
          | none => rw [hk] at q; exact q.elim
          | some c => rw [hk] at q; exact .inr (.inr ⟨x, i, c, rfl, rfl, hz, hk, q.use R (.str _)⟩)
        · rw [if_neg hz] at q; exact q.elim
      | _ => exact gen q
    | _ => cases dx <;> exact q.elim) h

/-! ### slices -/
def cutD (xs : List D) (lo hi : Option Int) : List D := (xs.drop (HT.sIx xs.length 0 lo)).take (HT.sIx xs.length xs.length hi - HT.sIx xs.length 0 lo)
theorem cutD_rep {K : PySem.W.Frag} {ρ : Rh} {H : Hp} {xs : List D} {vs : List V} (h : RepDs K ρ H xs vs) (lo hi : Option Int) : RepDs K ρ H (cutD xs lo hi) (cutV vs lo hi) := by
  unfold cutD cutV
  rw [h.length]
  exact (h.drop _).take _
theorem cutD_whole {xs : List D} {lo hi : Option Int} (h : HT.sIx xs.length 0 lo = 0 ∧ HT.sIx xs.length xs.length hi = xs.length) : cutD xs lo hi = xs := by
  unfold cutD
  rw [h.1, h.2]
  simp
def dSlice (d : D) (lo hi : Option Int) (S : Store) : Option D := match d with
  | .str x => if x.length ≤ sizeLine then some (.str (Txt.slice x lo hi)) else none
  | .tup xs => some (.tup (cutD xs lo hi))
  | d => (lstOf S d).map fun xs => .lst (cutD xs lo hi)
/-- a part of a slice -/
abbrev MO := Env → Store → Res (Option Int)
def mNo : MO := fun _ S => .ok none S
def iOf : D → Option Int
  | .int i => some i
  | _ => none
def mPart (m : ME) : MO := fun e S => (m e S).bind fun d S1 => .of ((iOf d).map some) S1
def tO (K : PySem.W.Frag) (mg : Str → Option Value) (W : WX) (m : MO) : TO := fun σ H Q => ∃ ρ e S, EnvRel K ρ H σ e ∧ Rel K ρ H S ∧ Post K mg W (fun o _ _ H' => Q o H') ρ H σ (m e S)
abbrev OM (X : Cx) (W : WX) (e : Option Expr) (m : MO) : Prop := PO X e (tO X.K X.mg W m)
theorem om_no : OM X W none mNo := ⟨fun pins s σ H Q I ⟨ρ, e, S, he, R, q⟩ => po_none.run pins s σ H Q I (q ρ H (Fr.refl _ _) R)⟩
theorem om_some (h : EM X W a ma) : OM X W (some a) (mPart ma) := ⟨fun pins s σ H Q I ⟨ρ, e, S, he, R, q⟩ => (po_some h).run pins s σ H Q I ⟨ρ, e, S, he, R, (Post.bind q).mono fun d S1 ρ1 H1 f1 R1 q v rv => by
  cases d with
  | int i => cases rv; exact ⟨i, rfl, q ρ1 H1 (Fr.refl _ _) R1⟩
  | _ => exact q.elim⟩⟩
def mSlice (a : ME) (lo hi : MO) : ME := fun e S => (a e S).bind fun d S1 => (lo e S1).bind fun l S2 => (hi e S2).bind fun h S3 => .of (dSlice d l h S3) S3
theorem em_slice {lo hi : Option Expr} {ml mh : MO} {p2 : Pos} (ha : EM X W a ma) (hl : OM X W lo ml) (hh : OM X W hi mh) : EM X W (.Subscript a (.Slice lo hi none p2) pos) (mSlice ma ml mh) :=
  pe_imp (pe_slice (sl_tupA.or (sl_list.or C8.sl_txt)) ha hl hh) fun σ H Q ⟨ρ, e, S, he, R, q⟩ => by
    refine ⟨ρ, e, S, he, R, (Post.bind q).mono fun d S1 ρ1 H1 f1 R1 q v rv => ?_⟩
    refine ⟨ρ1, e, S1, he.fr R.free f1, R1, (Post.bind q).mono fun l S2 ρ2 H2 f2 R2 q => ?_⟩
    refine ⟨ρ2, e, S2, (he.fr R.free f1).fr R1.free f2, R2, (Post.bind q).mono fun h S3 ρ3 H3 f3 R3 q => ?_⟩
    have rv := RepD.fr R2.free f3 _ _ (RepD.fr R1.free f2 _ _ rv)
    have q := PostE.of (σ := σ) q
    have gen : PostV X.K ρ3 H3 S3 Q ((lstOf S3 d).map fun xs => .lst (cutD xs l h)) → rSlL X.K v l h H3 Q := fun q => by
      cases e : lstOf S3 d with
      | none => rw [e] at q; exact q.elim
      | some xs =>
        rw [e] at q
        obtain ⟨a, vs, rfl, hq, r⟩ := lstOf_rep R3 rv e
        exact ⟨a, vs, rfl, hq, q.newL R3 (cutD_rep r l h)⟩
    cases d with
    | str x =>
      cases rv
      simp only [dSlice] at q
      by_cases hz : x.length ≤ sizeLine
      · rw [if_pos hz] at q; exact .inr (.inr ⟨x, rfl, hz, q.use R3 (.str _)⟩)
      · rw [if_neg hz] at q; exact q.elim
    | tup xs =>
      cases rv with
      | tup hx rx =>
        rename_i a vs
        simp only [dSlice] at q
        refine .inl ⟨a, vs, rfl, hx, fun hw => ?_, fun _ => q.newT R3 (cutD_rep rx l h)⟩
        rw [← rx.length] at hw
        rw [cutD_whole hw] at q
        exact q.use R3 (.tup hx rx)
    | _ => exact .inr (.inl (gen q))

/-! ### backwards -/
theorem adjust_back (n : Nat) : Builtin.Slice.sliceAdjust none none (-1) (n : Int) = ((n : Int) - 1, -1) := by
  unfold Builtin.Slice.sliceAdjust
  simp
theorem places_back (n : Nat) : Builtin.Slice.slicePlaces ((n : Int) - 1) (-1) (-1) = n := by
  unfold Builtin.Slice.slicePlaces
  have h1 : ¬ ((-1 : Int) > 0) := by omega
  simp only [h1, if_false]
  by_cases h : (n : Int) - 1 > -1
  · rw [if_pos h, show (- -1 : Int) = 1 by decide, Int.ediv_one]; omega
  · rw [if_neg h]; omega
theorem fm_congr {α β : Type} {f g : α → Option β} : ∀ {l : List α}, (∀ x ∈ l, f x = g x) → l.filterMap f = l.filterMap g
  | [], _ => rfl
  | x :: l, h => by
    rw [List.filterMap_cons, List.filterMap_cons, h x List.mem_cons_self, fm_congr fun y hy => h y (List.mem_cons_of_mem _ hy)]
theorem pick_back (xs : Array Value) : ((List.range xs.size).filterMap fun (m : Nat) => xs[(((xs.size : Int) - 1) + (m : Int) * -1).toNat]?).toArray = xs.toList.reverse.toArray := by
  have e : (List.range xs.size).filterMap (fun (m : Nat) => xs[(((xs.size : Int) - 1) + (m : Int) * -1).toNat]?) = ((List.range xs.size).map fun k => xs.size - 1 - k).filterMap (xs[·]?) := by
    rw [List.filterMap_map]
    apply fm_congr
    intro k hk
    have := List.mem_range.mp hk
    show xs[_]? = xs[xs.size - 1 - k]?
    congr 1
    omega
  rw [e, PySem.W.krv_range, List.filterMap_reverse, PySem.W.krv_all]
theorem getItem_tuple_back {prog : Program} {w : World} {A : Around} {E : Value → Shared → Prop} {s : Shared} {t sl : Addr} {items : Array Value} {tk : Tok} {Q : Value → Shared → Prop} (ht : IsTup s.heap t items) (hs : s.heap.IsSliceOf sl .none .none (.int (-1) tk))
    (h : Q (.ref s.heap.objs.size) { s with heap := s.heap.push { cls := .type "tuple", data := .seq items.toList.reverse.toArray } }) (hsz : items.size ≤ sizeLine) : wpAny (model prog w) A (getItem (.ref t) (.ref sl)) Q E s := by
  have htake : sizeOk (.seq items.toList.reverse.toArray) := by
    show items.toList.reverse.toArray.size ≤ sizeLine
    rw [List.size_toArray, List.length_reverse, Array.length_toList]
    exact hsz
  obtain ⟨os, hos, hcs, hds⟩ := id hs
  have hTs : s.TypeIs (.ref sl) "slice" := ⟨os, hos, hcs⟩
  unfold getItem
  try with_reducible refine wpAny_holding ?_
  first | refine wpAny_bind (wpAny_pure ?_) | skip
  refine wpAny_bind (wpAny_sequenceKey ht.typeIs (by decide) ?_)
  refine wpAny_bind (wpAny_callSpecial?_slot (name := Str.ofString "__getitem__") ht.typeIs PyProof.Rows.slot_tuple_getitem
    (wpAny_call_entry PyProof.Rows.slot_tuple_getitem ht.typeIs entry_tuple_getitem ?_ (args_tuple_getitem _ _)))
  show wpAny _ _ (Builtin.Tuple.tupleItemsOf (.ref t) >>= _) _ _ s
  refine wpAny_bind (tupleItemsOf_ ht ?_)
  refine wpAny_bind (wpAny_typeOf hTs ?_)
  rw [if_pos (by decide)]
  refine wpAny_bind ?_
  unfold Builtin.Slice.sliceApplied Builtin.Slice.sliceFields
  refine wpAny_bind (wpAny_bind (wpAny_field hos hds (x := .none) rfl (wpAny_bind (wpAny_field hos hds (x := .none) rfl (wpAny_bind (wpAny_field hos hds (x := .int (-1) tk) rfl (wpAny_pure ?_)))))))
  refine wpAny_bind (HT.slicePart_ (o := some (-1)) (.int (-1) tk) ?_)
  show wpAny _ _ (if ((-1 : Int) == 0) = true then _ else _) _ _ s
  rw [if_neg (by decide)]
  refine wpAny_bind (HT.slicePart_ (o := none) .none (wpAny_bind (HT.slicePart_ (o := none) .none (wpAny_bind (wpAny_pure ?_)))))
  show wpAny _ _ (match Builtin.Slice.sliceAdjust none none (-1) (items.size : Int) with | (lo, hi) => pure (lo, (-1 : Int), Builtin.Slice.slicePlaces lo hi (-1))) _ _ s
  rw [adjust_back]
  show wpAny _ _ (pure ((items.size : Int) - 1, (-1 : Int), Builtin.Slice.slicePlaces ((items.size : Int) - 1) (-1) (-1))) _ _ s
  rw [places_back]
  refine wpAny_pure ?_
  have hno : ¬ ((((items.size : Int) - 1) == 0 && (-1 : Int) == 1 && items.size == items.size) = true) := by simp
  show wpAny _ _ (if (((items.size : Int) - 1) == 0 && (-1 : Int) == 1 && items.size == items.size) = true then _ else _) _ _ s
  rw [if_neg hno, pick_back]
  first
    | exact wpAny_bind (m := Builtin.Tuple.tupleExact _) (wpAny_newObj_type (wpAny_pure ⟨_, rfl, wpAny_pure h⟩) htake)
    | exact wpAny_bind (m := Builtin.Tuple.tupleExact _) (wpAny_newObj_type (wpAny_bind (wpAny_pure (wpAny_pure ⟨_, rfl, wpAny_pure h⟩))) htake)
    | exact wpAny_bind (wpAny_bind (m := Builtin.Tuple.tupleExact _) (wpAny_newObj_type (wpAny_pure (wpAny_pure ⟨_, rfl, wpAny_pure h⟩)) htake))
    | exact wpAny_bind (wpAny_bind (m := Builtin.Tuple.tupleExact _) (wpAny_newObj_type (wpAny_pure ⟨_, rfl, wpAny_pure h⟩) htake))
def rRev (K : PySem.W.Frag) : V → Hp → VK → Prop := fun x H Q => (∃ a xs, x = .ref a ∧ SqL K H a xs ∧ ∀ p, H p = none → Q (.ref p) (upd H p (.lst xs.reverse))) ∨ (∃ a xs, x = .ref a ∧ SqT K H a xs ∧ ∀ p, H p = none → Q (.ref p) (upd H p (.tup xs.reverse)))
def tRev (K : PySem.W.Frag) (te : TE) : TE := fun σ H Q => te σ H fun x H1 => rRev K x H1 Q
theorem pe_rev {e : Expr} {te : TE} {k : Nat} {p1 p2 p3 pos : Pos} (he : PE X e te) : PE X (.Subscript e (.Slice none none (some (.UnaryOp .USub (.Constant (.int 1) k p1) p2)) p3) pos) (tRev X.K te) := by
  refine ⟨fun pins s σ H Q I h => ?_⟩
  refine Subscript_ (thn (he.run pins s σ H _ I h) fun v s1 ⟨x, H1, I1, r1, q1⟩ => ?_)
  have hst : PO X (some (.UnaryOp .USub (.Constant (.int 1) k p1) p2)) (tPart (tUn (rU fun i => .int (-i)) (tC (.int 1)))) := po_some (pe_un un_neg pe_int)
  refine wpAny_Slice (thn (po_none.run pins s1 σ H1 (fun o H2 => o = none ∧ H2 = H1) I1 ⟨rfl, rfl⟩) fun vl s2 ⟨l, H2, I2, pl, el, e2⟩ => ?_)
  subst el e2
  refine thn (po_none.run pins s2 σ H2 (fun o H3 => o = none ∧ H3 = H2) I2 ⟨rfl, rfl⟩) fun vu s3 ⟨u, H3, I3, pu, eu, e3⟩ => ?_
  subst eu e3
  refine thn (hst.run pins s3 σ H3 (fun o H4 => o = some (-1) ∧ H4 = H3) I3 ⟨1, rfl, -1, rfl, rfl, rfl⟩) fun vs s4 ⟨o, H4, I4, ps, eo, e4⟩ => ?_
  subst eo e4
  have I5 : Inv X pins σ H4 { s4 with heap := s4.heap.push { cls := .type "slice", data := .fields #[vl, vu, vs] } } := I4.kept (t' := s4.toks) fun b ob q => Heap.get?_push_of_some _ q
  rcases q1 with ⟨a, xs, ex, hx, q⟩ | ⟨a, xs, ex, hx, q⟩
  · subst ex
    cases r1
    obtain ⟨its, r, ht, hz⟩ := I5.list hx
    have hlen := r.length
    show wpAny (model X.prog X.w) X.A (subscriptTail e (.Slice none none (some (.UnaryOp .USub (.Constant (.int 1) k p1) p2)) p3) (.ref a) (.ref s4.heap.objs.size)) (EP X pins σ Q) X.xe { s4 with heap := s4.heap.push { cls := .type "slice", data := .fields #[vl, vu, vs] } }
    refine tail_any (ops := [.ref a, .ref s4.heap.objs.size]) ht.isList.typeIs (PySem.slot_list_getitem.lookup) ?_ (by with_unfolding_all rfl)
    refine wpAny_getItem_list_slice ht.isList (Heap.IsSliceOf.new _ vl vu vs) pl pu ps (by decide) ?_ (by rw [List.size_toArray]; omega)
    rw [PySem.W.krv_pick]
    refine ⟨.ref _, _, I5.laid (t' := s4.toks) (o := .lst xs.reverse) (fun b ob q => Heap.get?_push_of_some _ q) (Nat.le_refl _) ?_, rfl, q _ (I5.hok.fresh (Nat.le_refl _))⟩
    exact ⟨by rw [List.length_reverse]; exact hz, _, 0, r.reverse, Heap.get?_push_size _ rfl⟩
  · subst ex
    cases r1
    obtain ⟨its, r, ht, hz⟩ := I5.tuple hx
    have hlen := r.length
    cases pl; cases pu; cases ps
    show wpAny (model X.prog X.w) X.A (subscriptTail e (.Slice none none (some (.UnaryOp .USub (.Constant (.int 1) k p1) p2)) p3) (.ref a) (.ref s4.heap.objs.size)) (EP X pins σ Q) X.xe { s4 with heap := s4.heap.push { cls := .type "slice", data := .fields #[.none, .none, .int (-1) _] } }
    refine tail_any (ops := [.ref a, .ref s4.heap.objs.size]) ht.typeIs (PyProof.Rows.slot_tuple_getitem.lookup) ?_ (by with_unfolding_all rfl)
    refine getItem_tuple_back ht (Heap.IsSliceOf.new _ _ _ _) ?_ (by rw [List.size_toArray]; omega)
    refine ⟨.ref _, _, I5.laid (t' := s4.toks) (o := .tup xs.reverse) (fun b ob q => Heap.get?_push_of_some _ q) (Nat.le_refl _) ?_, rfl, q _ (I5.hok.fresh (Nat.le_refl _))⟩
    exact ⟨by rw [List.length_reverse]; exact hz, _, by simpa using r.reverse, IsTup.new _ _⟩
def dRev (d : D) (S : Store) : Option D := match d with
  | .tup xs => some (.tup xs.reverse)
  | d => (lstOf S d).map fun xs => .lst xs.reverse
theorem em_rev {k : Nat} {p1 p2 p3 : Pos} (ha : EM X W a ma) : EM X W (.Subscript a (.Slice none none (some (.UnaryOp .USub (.Constant (.int 1) k p1) p2)) p3) pos) (mUn dRev ma) :=
  pe_imp (pe_rev ha) fun σ H Q h => tE_then (f := fun x e S => .of (dRev x S) S) (fun ρ H d v e S he R r q => by
    have q := PostE.of (σ := σ) q
    have gen : PostV X.K ρ H S Q ((lstOf S d).map fun xs => .lst xs.reverse) → rRev X.K v H Q := fun q => by
      cases e : lstOf S d with
      | none => rw [e] at q; exact q.elim
      | some xs =>
        rw [e] at q
        obtain ⟨a, vs, rfl, hq, r⟩ := lstOf_rep R r e
        exact .inl ⟨a, vs, rfl, hq, q.newL R r.reverse⟩
    cases d with
    | tup xs => cases r with | tup hx rx => exact .inr ⟨_, _, rfl, hx, q.newT R rx.reverse⟩
    | _ => exact gen q) h
end
end M


set_option Elab.async false
set_option linter.all false
set_option maxRecDepth 100000
set_option maxHeartbeats 4000000
namespace M
open PySem PySem.Spec PyProof.Rows L2
variable [Tabs]

section
variable {X : Cx} {W : WX} {a b c e : Expr} {es : List Expr} {ma mb mc : ME} {m : MA} {pos : Pos}
/-! ### arguments, displays -/
def mNil : MA := fun _ S => .ok [] S
def mCons (a : ME) (r : MA) : MA := fun e S => (a e S).bind fun d S1 => (r e S1).bind fun ds S2 => .ok (d :: ds) S2
theorem am_nil : AM X W [] mNil := pa_imp pa_nil fun σ H Q ⟨ρ, e, S, he, R, q⟩ => q ρ H (Fr.refl _ _) R [] .nil
theorem am_cons (ha : EM X W e ma) (hr : AM X W es m) (hs : starEach (e :: es) X.env = (false, eval e X.env) :: starEach es X.env := by rfl) : AM X W (e :: es) (mCons ma m) :=
  pa_imp (pa_cons ha hr hs) fun σ H Q ⟨ρ, e, S, he, R, q⟩ => ⟨ρ, e, S, he, R, (Post.bind q).mono fun d S1 ρ1 H1 f1 R1 q v rv => ⟨ρ1, e, S1, he.fr R.free f1, R1, (Post.bind q).mono fun ds S2 ρ2 H2 f2 R2 q vs rvs =>
    q ρ2 H2 (Fr.refl _ _) R2 (v :: vs) (.cons (RepD.fr R1.free f2 _ _ rv) rvs)⟩⟩
/-- arguments, then something by their values -/
theorem tA_then {β : Type} {g : List D → Store → Res D} {σ : L2.St} {H : Hp} {Q : VK} {u : List V → Hp → Prop}
    (hu : ∀ ρ H ds vs S, Rel X.K ρ H S → RepDs X.K ρ H ds vs → PostE X.K X.mg W ρ H σ Q (g ds S) → u vs H)
    (h : tE X.K X.mg W (fun e S => (m e S).bind fun ds S1 => g ds S1) σ H Q) : tA X.K X.mg W m σ H u := by
  obtain ⟨ρ, e, S, he, R, q⟩ := h
  exact ⟨ρ, e, S, he, R, (Post.bind q).mono fun ds S1 ρ1 H1 f1 R1 q vs r => hu ρ1 H1 ds vs S1 R1 r q⟩
def mTup (m : MA) : ME := fun e S => (m e S).bind fun ds S1 => .of (if ds.length ≤ sizeLine then some (.tup ds) else none) S1
theorem em_tup {k} (h : AM X W es m) : EM X W (.Tuple es k pos) (mTup m) :=
  pe_imp (pe_tup h) fun σ H Q h => tA_then (g := fun ds S => .of (if ds.length ≤ sizeLine then some (.tup ds) else none) S) (β := D) (fun ρ H ds vs S R r q => by
    have q := PostE.of (σ := σ) q
    by_cases hz : ds.length ≤ sizeLine
    · rw [if_pos hz] at q
      exact ⟨by rw [← r.length]; exact hz, q.newT R r⟩
    · rw [if_neg hz] at q; exact q.elim) h
/-- a list of written items -/
def mLst (m : MA) : MA := fun e S => (m e S).bind fun ds S1 => .of (if ds.length ≤ sizeLine then some ds else none) S1
theorem PostN.of_new {σ : L2.St} {Q : VK} {ρ : Rh} {H : Hp} {S : Store} {ds : List D} {vs : List V} (R : Rel X.K ρ H S) (r : RepDs X.K ρ H ds vs) (q : PostN X.K X.mg W ρ H σ Q (.ok ds S)) : ∀ p, H p = none → Q (.ref p) (upd H p (.lst vs)) := fun p hp =>
  q ρ _ p vs (Fr.laid hp) (R.laidH hp) hp (R.newh hp).1 upd_same (RepDs.laidH R hp r)
theorem PostN.bind {α : Type} {σ : L2.St} {Q : VK} {ρ : Rh} {H : Hp} {f : α → Store → Res (List D)} : ∀ {r : Res α}, PostN X.K X.mg W ρ H σ Q (r.bind f) → Post X.K X.mg W (fun a S1 ρ1 H1 => PostN X.K X.mg W ρ1 H1 σ Q (f a S1)) ρ H σ r
  | .ok _ _, h => fun ρ' H' g R => PostN.fr g h
  | .ex _ _, h => h
  | .bad, h => h
theorem nm_lst (h : AM X W es m) : NM X W (.List es pos) (mLst m) :=
  pe_imp (pe_lst h) fun σ H Q ⟨ρ, e, S, he, R, q⟩ => ⟨ρ, e, S, he, R, (PostN.bind q).mono fun ds S1 ρ1 H1 f1 R1 q vs r => by
    by_cases hz : ds.length ≤ sizeLine
    · rw [if_pos hz] at q
      exact ⟨by rw [← r.length]; exact hz, PostN.of_new R1 r q⟩
    · rw [if_neg hz] at q; exact q.elim⟩
/-- a new list by value; as an object of the store -/
def asV (m : MA) : ME := fun e S => (m e S).bind fun ds S1 => .ok (.lst ds) S1
def asL (m : MA) : ME := fun e S => (m e S).bind fun ds S1 => .ok (.loc S1.length) (S1 ++ [.lst ds])
theorem em_val (h : NM X W e m) : EM X W e (asV m) := pe_imp h fun σ H Q ⟨ρ, e, S, he, R, q⟩ => ⟨ρ, e, S, he, R, by
  unfold asV at q
  cases hk : m e S with
  | bad => rw [hk] at q; exact q
  | ex c S1 => rw [hk] at q; exact q
  | ok ds S1 =>
    rw [hk] at q
    exact fun ρ' H' p vs f R' hp hn e1 r => q ρ' H' f R'.unhide _ (.lst e1 hn (fun m => by
      obtain ⟨ws, z⟩ := R.hid p (by rw [← f.hid]; exact m)
      rw [hp] at z; cases z) (RepDs.sees Sees.unhide _ _ r))⟩
theorem em_loc (h : NM X W e m) : EM X W e (asL m) := pe_imp h fun σ H Q ⟨ρ, e, S, he, R, q⟩ => ⟨ρ, e, S, he, R, by
  unfold asL at q
  cases hk : m e S with
  | bad => rw [hk] at q; exact q
  | ex c S1 => rw [hk] at q; exact q
  | ok ds S1 =>
    rw [hk] at q
    exact fun ρ' H' p vs f R' hp hn e1 r => q _ H' (f.shown hp) (R'.shown hn e1 r) _ (.loc (by
      show (ρ'.l ++ [p])[S1.length]? = some p
      have : ρ'.l.length = S1.length := R'.len
      rw [List.getElem?_append_right (by omega), this]; simp))⟩

/-! ### calls of what is built in -/
def CallD (X : Cx) (f : Value) (g : List D → Store → Option D) : Prop :=
  ∀ (pins : List (Addr × Obj)) (s : Shared) (σ : L2.St) (ρ : Rh) (H : Hp) (S : Store) (ds : List D) (vs : List V) (us : List Value) (Q : VK), Inv X pins σ H s → Rel X.K ρ H S → RepDs X.K ρ H ds vs → Vals vs us →
    PostV X.K ρ H S Q (g ds S) → wpAny (model X.prog X.w) X.A (call f us) (EP X pins σ Q) X.xe s
theorem CallD.r {f : Value} {g : List D → Store → Option D} (o : CallD X f g) : CallR X f (fun vs H Q => ∃ ρ S ds, Rel X.K ρ H S ∧ RepDs X.K ρ H ds vs ∧ PostV X.K ρ H S Q (g ds S)) :=
  fun pins s σ H xs us Q I r ⟨ρ, S, ds, R, rd, q⟩ => o pins s σ ρ H S ds xs us Q I R rd r q
def mCall (g : List D → Store → Option D) (m : MA) : ME := fun e S => (m e S).bind fun ds S1 => .of (g ds S1) S1
variable {id T : String} {x : Str} {p : Pos}
theorem em_callB {g : List D → Store → Option D} (o : CallD X (.builtin id) g) (hg : Gl X x) (hm : X.mg x = none) (hv : bootBuiltins x = some (.builtin id)) (ha : AM X W (e :: es) m) (hn : x ≠ "__name__" := by decide) (hdb : (x == ("__debug__" : Str)) = false := by decide)
    (he : starEach (e :: es) X.env = (false, eval e X.env) :: starEach es X.env := by rfl) (hpl : (backTo pos (starEach es X.env)).any (·.1) = false := by rfl) : EM X W (.Call (.Name x p) (e :: es) [] pos) (mCall g m) :=
  pe_imp (pe_callB o.r hg hm hv ha hn hdb he hpl) fun σ H Q h => tA_then (β := D) (g := fun ds S => .of (g ds S) S) (fun ρ H ds vs S R r q => ⟨ρ, S, ds, R, r, PostE.of (σ := σ) q⟩) h
theorem em_callTy {g : List D → Store → Option D} (o : CallD X (.type T) g) (hg : Gl X x) (hm : X.mg x = none) (hv : bootBuiltins x = some (.type T)) (ha : AM X W (e :: es) m) (hn : x ≠ "__name__" := by decide) (hdb : (x == ("__debug__" : Str)) = false := by decide)
    (he : starEach (e :: es) X.env = (false, eval e X.env) :: starEach es X.env := by rfl) (hpl : (backTo pos (starEach es X.env)).any (·.1) = false := by rfl) : EM X W (.Call (.Name x p) (e :: es) [] pos) (mCall g m) :=
  pe_imp (pe_callTy o.r hg hm hv ha hn hdb he hpl) fun σ H Q h => tA_then (β := D) (g := fun ds S => .of (g ds S) S) (fun ρ H ds vs S R r q => ⟨ρ, S, ds, R, r, PostE.of (σ := σ) q⟩) h
/-- .. that make a new list -/
def CallN (X : Cx) (f : Value) (g : List D → Store → Option (List D)) : Prop :=
  ∀ (pins : List (Addr × Obj)) (s : Shared) (σ : L2.St) (ρ : Rh) (H : Hp) (S : Store) (ds : List D) (vs : List V) (us : List Value) (Q : VK), Inv X pins σ H s → Rel X.K ρ H S → RepDs X.K ρ H ds vs → Vals vs us →
    (∃ zs, g ds S = some zs ∧ ∀ ws, RepDs X.K ρ H zs ws → ∀ p, H p = none → Q (.ref p) (upd H p (.lst ws))) → wpAny (model X.prog X.w) X.A (call f us) (EP X pins σ Q) X.xe s
def mCallN (g : List D → Store → Option (List D)) (m : MA) : MA := fun e S => (m e S).bind fun ds S1 => .of (g ds S1) S1
theorem tA_thenN {g : List D → Store → Res (List D)} {σ : L2.St} {H : Hp} {Q : VK} {u : List V → Hp → Prop}
    (hu : ∀ ρ H ds vs S, Rel X.K ρ H S → RepDs X.K ρ H ds vs → PostN X.K X.mg W ρ H σ Q (g ds S) → u vs H)
    (h : tN X.K X.mg W (fun e S => (m e S).bind fun ds S1 => g ds S1) σ H Q) : tA X.K X.mg W m σ H u := by
  obtain ⟨ρ, e, S, he, R, q⟩ := h
  exact ⟨ρ, e, S, he, R, (PostN.bind q).mono fun ds S1 ρ1 H1 f1 R1 q vs r => hu ρ1 H1 ds vs S1 R1 r q⟩
theorem CallN.r {f : Value} {g : List D → Store → Option (List D)} (o : CallN X f g) : CallR X f (fun vs H Q => ∃ ρ S ds, Rel X.K ρ H S ∧ RepDs X.K ρ H ds vs ∧ ∃ zs, g ds S = some zs ∧ ∀ ws, RepDs X.K ρ H zs ws → ∀ p, H p = none → Q (.ref p) (upd H p (.lst ws))) :=
  fun pins s σ H xs us Q I r ⟨ρ, S, ds, R, rd, q⟩ => o pins s σ ρ H S ds xs us Q I R rd r q
theorem nm_callTy {g : List D → Store → Option (List D)} (o : CallN X (.type T) g) (hg : Gl X x) (hm : X.mg x = none) (hv : bootBuiltins x = some (.type T)) (ha : AM X W (e :: es) m) (hn : x ≠ "__name__" := by decide) (hdb : (x == ("__debug__" : Str)) = false := by decide)
    (he : starEach (e :: es) X.env = (false, eval e X.env) :: starEach es X.env := by rfl) (hpl : (backTo pos (starEach es X.env)).any (·.1) = false := by rfl) : NM X W (.Call (.Name x p) (e :: es) [] pos) (mCallN g m) :=
  pe_imp (pe_callTy o.r hg hm hv ha hn hdb he hpl) fun σ H Q h => tA_thenN (g := fun ds S => .of (g ds S) S) (fun ρ H ds vs S R r q => ⟨ρ, S, ds, R, r, by
    cases hz : g ds S with
    | none => rw [hz] at q; exact q.elim
    | some zs => rw [hz] at q; exact ⟨zs, rfl, fun ws rw' => PostN.of_new R rw' q⟩⟩) h
theorem nm_callB {g : List D → Store → Option (List D)} (o : CallN X (.builtin id) g) (hg : Gl X x) (hm : X.mg x = none) (hv : bootBuiltins x = some (.builtin id)) (ha : AM X W (e :: es) m) (hn : x ≠ "__name__" := by decide) (hdb : (x == ("__debug__" : Str)) = false := by decide)
    (he : starEach (e :: es) X.env = (false, eval e X.env) :: starEach es X.env := by rfl) (hpl : (backTo pos (starEach es X.env)).any (·.1) = false := by rfl) : NM X W (.Call (.Name x p) (e :: es) [] pos) (mCallN g m) :=
  pe_imp (pe_callB o.r hg hm hv ha hn hdb he hpl) fun σ H Q h => tA_thenN (g := fun ds S => .of (g ds S) S) (fun ρ H ds vs S R r q => ⟨ρ, S, ds, R, r, by
    cases hz : g ds S with
    | none => rw [hz] at q; exact q.elim
    | some zs => rw [hz] at q; exact ⟨zs, rfl, fun ws rw' => PostN.of_new R rw' q⟩⟩) h
end
end M


set_option Elab.async false
set_option linter.all false
set_option maxRecDepth 100000
set_option maxHeartbeats 4000000
namespace M
open PySem PySem.Spec PyProof.Rows L2
variable [Tabs]

/-! ### walks over tuples of ints -/
section
variable {prog : Program} {w : World} {A : Around} {E : Value → Shared → Prop} {s : Shared} {l : Addr} {its : List Value} {ns : List Int}
theorem iter_tup {items : Array Value} {Q : Value → Shared → Prop} (hl : IsTup s.heap l items)
    (h : ∀ s₂ : Shared, s₂ = { s with heap := s.heap.push { cls := .type "tuple_iterator", data := .fields #[.ref l, .int 0 0] } } →
      (s₂.heap.IsTupleIter s.heap.objs.size l 0 ∧ s₂.heap.IsTuple l items) → (∀ b ∈ [s.heap.objs.size, l], b < s₂.heap.objs.size) → l ≠ s.heap.objs.size → Q (.ref s.heap.objs.size) s₂) :
    wpAny (model prog w) A (pyIter (.ref l)) Q E s := by
  have hlt : l < s.heap.objs.size := hl.lt
  have hl' : s.heap.IsTuple l items := hl
  refine wpAny_pyIter_tuple hl' (h _ rfl ⟨⟨_, Heap.get?_push_size _ rfl, rfl, rfl⟩, hl'.push _⟩ (fun b hb => ?_) (Nat.ne_of_lt hlt))
  show b < (s.heap.push _).objs.size
  rw [Heap.size_push]
  rcases List.mem_cons.mp hb with rfl | hb
  · exact Nat.lt_succ_self _
  · rcases List.mem_cons.mp hb with rfl | hb
    · exact Nat.lt_succ_of_lt hlt
    · cases hb
theorem tkept {b₀ : Addr} {h h' : Heap} {o₀ : Obj} (hk : ∀ b o, b ∉ [h.objs.size] → (h.push o₀).get? b = some o → h'.get? b = some o) : ∀ b o, h.get? b = some o → h'.get? b = some o := fun b o e =>
  hk b o (fun m => by
    rcases List.mem_cons.mp m with m | m
    · have := Heap.lt_size e; rw [m] at this; exact Nat.lt_irrefl _ this
    · cases m) (Heap.get?_push_of_some _ e)
theorem sum_tup (hh : A.handled = none) (hl : IsTup s.heap l its.toArray) (hi : IntsAre its ns) {Q : Value → Shared → Prop}
    (h : ∀ h' tk t', (∀ b o, s.heap.get? b = some o → h'.get? b = some o) → Q (.int ns.sum t') { s with heap := h', toks := tk }) : wpAny (model prog w) A (call (.builtin "sum") [.ref l]) Q E s := by
  obtain ⟨xs, e⟩ := hi.allInts.items
  have hn : numsOf (intItems xs).toList = ns := by rw [← e]; exact hi.numsOf
  rw [nums_intItems] at hn
  rw [e] at hl
  refine call_sum_walkG (iter_tup hl fun s₂ e st hfp hlI => ?_)
  subst e
  refine ⟨_, _, _, _, _, _, numAt xs, rfl, Walks.tuple (A := A.in1) hh _ l hlI (intItems xs), st, hfp, (fun _ _ => intItems_at), fun h' tk t' hk => ?_⟩
  have := h h' tk t' (tkept (b₀ := l) hk)
  rw [← hn] at this
  simpa [intItems, preSum_eq, List.take_of_length_le] using this
theorem max_tup (hh : A.handled = none) (hl : IsTup s.heap l its.toArray) (hi : IntsAre its ns) (hne : 0 < ns.length) {Q : Value → Shared → Prop}
    (h : ∀ h' tk M t', (∀ b o, s.heap.get? b = some o → h'.get? b = some o) → M ∈ ns → (∀ a, a ∈ ns → a ≤ M) → Q (.int M t') { s with heap := h', toks := tk }) : wpAny (model prog w) A (call (.builtin "max") [.ref l]) Q E s := by
  obtain ⟨xs, e⟩ := hi.allInts.items
  have hn : numsOf (intItems xs).toList = ns := by rw [← e]; exact hi.numsOf
  rw [nums_intItems] at hn
  subst hn
  rw [e] at hl
  have hsz : 0 < xs.size := by simpa using hne
  refine call_max_walk (iter_tup hl fun s₂ e st hfp hlI => ?_)
  subst e
  refine ⟨_, _, _, _, _, _, _, rfl, Walks.tuple (A := A.in1) hh _ l hlI (intItems xs), st, hfp, by simpa [intItems] using hsz, CmpOf.ints_gt (numAt xs) (fun _ _ => intItems_at), fun v h' tk hP hk => ?_⟩
  have hv : (intItems xs)[argBest (fun i j => decide (numAt xs i > numAt xs j)) (xs.size - 1)]? = some v := by simpa [intItems] using hP
  obtain ⟨t, rfl⟩ := intItems_at hv
  obtain ⟨h1, h2⟩ := argBest_gt (numAt xs) (xs.size - 1)
  refine h h' tk _ t (tkept (b₀ := l) hk) ?_ fun a ha => ?_
  · rw [numAt_eq]; exact PySem.getD_mem (by rw [List.length_map, Array.length_toList]; omega)
  · obtain ⟨j, hj, rfl⟩ := mem_getD ha
    rw [List.length_map, Array.length_toList] at hj
    rw [← numAt_eq]; exact h2 j (by omega)
theorem min_tup (hh : A.handled = none) (hl : IsTup s.heap l its.toArray) (hi : IntsAre its ns) (hne : 0 < ns.length) {Q : Value → Shared → Prop}
    (h : ∀ h' tk M t', (∀ b o, s.heap.get? b = some o → h'.get? b = some o) → M ∈ ns → (∀ a, a ∈ ns → M ≤ a) → Q (.int M t') { s with heap := h', toks := tk }) : wpAny (model prog w) A (call (.builtin "min") [.ref l]) Q E s := by
  obtain ⟨xs, e⟩ := hi.allInts.items
  have hn : numsOf (intItems xs).toList = ns := by rw [← e]; exact hi.numsOf
  rw [nums_intItems] at hn
  subst hn
  rw [e] at hl
  have hsz : 0 < xs.size := by simpa using hne
  refine call_min_walk (iter_tup hl fun s₂ e st hfp hlI => ?_)
  subst e
  refine ⟨_, _, _, _, _, _, _, rfl, Walks.tuple (A := A.in1) hh _ l hlI (intItems xs), st, hfp, by simpa [intItems] using hsz, CmpOf.ints_lt (numAt xs) (fun _ _ => intItems_at), fun v h' tk hP hk => ?_⟩
  have hv : (intItems xs)[argBest (fun i j => decide (numAt xs i < numAt xs j)) (xs.size - 1)]? = some v := by simpa [intItems] using hP
  obtain ⟨t, rfl⟩ := intItems_at hv
  obtain ⟨h1, h2⟩ := argBest_lt (numAt xs) (xs.size - 1)
  refine h h' tk _ t (tkept (b₀ := l) hk) ?_ fun a ha => ?_
  · rw [numAt_eq]; exact PySem.getD_mem (by rw [List.length_map, Array.length_toList]; omega)
  · obtain ⟨j, hj, rfl⟩ := mem_getD ha
    rw [List.length_map, Array.length_toList] at hj
    rw [← numAt_eq]; exact h2 j (by omega)
end

/-! ### lists of ints, of texts -/
def intsOf : List D → Option (List Int)
  | [] => some []
  | .int i :: ds => (intsOf ds).map (i :: ·)
  | _ => none
def strsOf : List D → Option (List Str)
  | [] => some []
  | .str x :: ds => (strsOf ds).map (x :: ·)
  | _ => none
theorem intsOf_eq : ∀ {ds : List D} {ns : List Int}, intsOf ds = some ns → ds = ns.map D.int
  | [], _, h => by simp only [intsOf] at h; cases h; rfl
  | d :: ds, ns, h => by
    cases d <;> simp only [intsOf] at h <;> try cases h
    rw [Option.map_eq_some_iff] at h
    obtain ⟨ms, h1, rfl⟩ := h
    rw [intsOf_eq h1]; rfl
theorem strsOf_eq : ∀ {ds : List D} {ns : List Str}, strsOf ds = some ns → ds = ns.map D.str
  | [], _, h => by simp only [strsOf] at h; cases h; rfl
  | d :: ds, ns, h => by
    cases d <;> simp only [strsOf] at h <;> try cases h
    rw [Option.map_eq_some_iff] at h
    obtain ⟨ms, h1, rfl⟩ := h
    rw [strsOf_eq h1]; rfl
@[simp] theorem intsOf_map : ∀ ns : List Int, intsOf (ns.map D.int) = some ns
  | [] => rfl
  | n :: ns => by simp [intsOf, intsOf_map ns]
@[simp] theorem strsOf_map : ∀ ns : List Str, strsOf (ns.map D.str) = some ns
  | [] => rfl
  | n :: ns => by simp [strsOf, strsOf_map ns]

def maxI : List Int → Option Int
  | [] => none
  | x :: xs => some (xs.foldl max x)
def minI : List Int → Option Int
  | [] => none
  | x :: xs => some (xs.foldl min x)
theorem foldl_max : ∀ (xs : List Int) (x : Int), x ≤ xs.foldl max x ∧ (∀ y ∈ xs, y ≤ xs.foldl max x) ∧ (xs.foldl max x = x ∨ xs.foldl max x ∈ xs)
  | [], x => ⟨Int.le_refl _, by simp, .inl rfl⟩
  | a :: xs, x => by
    obtain ⟨h1, h2, h3⟩ := foldl_max xs (max x a)
    simp only [List.foldl_cons]
    refine ⟨by omega, fun y hy => ?_, ?_⟩
    · rcases List.mem_cons.mp hy with rfl | hy
      · omega
      · exact h2 y hy
    · rcases h3 with h3 | h3
      · rw [h3]
        by_cases h : x ≤ a
        · right; rw [Int.max_eq_right h]; exact List.mem_cons_self
        · left; omega
      · right; exact List.mem_cons_of_mem _ h3
theorem foldl_min : ∀ (xs : List Int) (x : Int), xs.foldl min x ≤ x ∧ (∀ y ∈ xs, xs.foldl min x ≤ y) ∧ (xs.foldl min x = x ∨ xs.foldl min x ∈ xs)
  | [], x => ⟨Int.le_refl _, by simp, .inl rfl⟩
  | a :: xs, x => by
    obtain ⟨h1, h2, h3⟩ := foldl_min xs (min x a)
    simp only [List.foldl_cons]
    refine ⟨by omega, fun y hy => ?_, ?_⟩
    · rcases List.mem_cons.mp hy with rfl | hy
      · omega
      · exact h2 y hy
    · rcases h3 with h3 | h3
      · rw [h3]
        by_cases h : a ≤ x
        · right; rw [Int.min_eq_right h]; exact List.mem_cons_self
        · left; omega
      · right; exact List.mem_cons_of_mem _ h3
theorem maxI_spec {ns : List Int} {m : Int} (h : maxI ns = some m) : m ∈ ns ∧ ∀ y ∈ ns, y ≤ m := by
  cases ns with
  | nil => cases h
  | cons x xs =>
    cases h
    obtain ⟨h1, h2, h3⟩ := foldl_max xs x
    refine ⟨?_, fun y hy => ?_⟩
    · rcases h3 with h3 | h3
      · rw [h3]; exact List.mem_cons_self
      · exact List.mem_cons_of_mem _ h3
    · rcases List.mem_cons.mp hy with rfl | hy
      · exact h1
      · exact h2 y hy
theorem minI_spec {ns : List Int} {m : Int} (h : minI ns = some m) : m ∈ ns ∧ ∀ y ∈ ns, m ≤ y := by
  cases ns with
  | nil => cases h
  | cons x xs =>
    cases h
    obtain ⟨h1, h2, h3⟩ := foldl_min xs x
    refine ⟨?_, fun y hy => ?_⟩
    · rcases h3 with h3 | h3
      · rw [h3]; exact List.mem_cons_self
      · exact List.mem_cons_of_mem _ h3
    · rcases List.mem_cons.mp hy with rfl | hy
      · exact h1
      · exact h2 y hy

/-! ### the built-in functions -/
def dLen : List D → Store → Option D
  | [.str x], _ => if x.length ≤ sizeLine then some (.int x.length) else none
  | [d], S => (seqOf S d).map fun xs => .int xs.length
  | _, _ => none
def dAbs : List D → Store → Option D
  | [.int i], _ => some (.int (if i < 0 then -i else i))
  | _, _ => none
def dInt : List D → Store → Option D
  | [.int i], _ => some (.int i)
  | [.bl k], _ => some (.int (if k then 1 else 0))
  | [.str x], _ => if x.length ≤ 640 then (PySem.intText? x).map .int else none
  | _, _ => none
def dStr : List D → Store → Option D
  | [.int i], _ => if i.natAbs < 2 ^ 1000 then some (.str (toString i)) else none
  | _, _ => none
def dSum : List D → Store → Option D
  | [d], S => ((seqOf S d).bind intsOf).map fun ns => .int ns.sum
  | _, _ => none
def dMax : List D → Store → Option D
  | [.int i, .int j], _ => some (.int (if j > i then j else i))
  | [d], S => (((seqOf S d).bind intsOf).bind maxI).map .int
  | _, _ => none
def dMin : List D → Store → Option D
  | [.int i, .int j], _ => some (.int (if j < i then j else i))
  | [d], S => (((seqOf S d).bind intsOf).bind minI).map .int
  | _, _ => none
def dTuple : List D → Store → Option D
  | [d], S => (seqOf S d).map .tup
  | _, _ => none
section
variable {X : Cx}
theorem reps1 {K : PySem.W.Frag} {ρ : Rh} {H : Hp} {d : D} {vs : List V} (h : RepDs K ρ H [d] vs) : ∃ v, vs = [v] ∧ RepD K ρ H d v := by
  cases h with | cons a b => cases b; exact ⟨_, rfl, a⟩
theorem reps2 {K : PySem.W.Frag} {ρ : Rh} {H : Hp} {d e : D} {vs : List V} (h : RepDs K ρ H [d, e] vs) : ∃ v w, vs = [v, w] ∧ RepD K ρ H d v ∧ RepD K ρ H e w := by
  cases h with | cons a b => cases b with | cons b c => cases c; exact ⟨_, _, rfl, a, b⟩
/-- a sequence, one argument -/
theorem cd_seq {f : Value} {g : List D → Store → Option D} {h : List D → Option D} (hg : ∀ ds S, g ds S ≠ none → (∃ d xs, ds = [d] ∧ seqOf S d = some xs ∧ g ds S = h xs))
    (k : ∀ (pins : List (Addr × Obj)) (s : Shared) (σ : L2.St) (ρ : Rh) (H : Hp) (S : Store) (a : Addr) (vs : List V) (xs : List D) (u : Value) (Q : VK), L2.Inv X pins σ H s → Rel X.K ρ H S → RepDs X.K ρ H xs vs → L2.RelV (.ref a) u → (SqL X.K H a vs ∨ (SqT X.K H a vs)) →
      PostV X.K ρ H S Q (h xs) → wpAny (model X.prog X.w) X.A (call f [u]) (EP X pins σ Q) X.xe s) : CallD X f g := fun pins s σ ρ H S ds vs us Q I R r rv q => by
  by_cases hn : g ds S = none
  · rw [hn] at q; exact q.elim
  · obtain ⟨d, xs, rfl, e, e2⟩ := hg ds S hn
    rw [e2] at q
    obtain ⟨v, rfl, r1⟩ := reps1 r
    obtain ⟨a, ws, rfl, hq, rx⟩ := seqOf_rep R r1 e
    cases rv with
    | cons ru rt =>
      cases rt
      exact k pins s σ ρ H S a ws xs _ Q I R rx ru hq q
theorem cd_len : CallD X (.builtin "len") dLen := fun pins s σ ρ H S ds vs us Q I R r rv q => by
  have gen : ∀ d, ds = [d] → PostV X.K ρ H S Q ((seqOf S d).map fun xs => .int xs.length) → wpAny (model X.prog X.w) X.A (call (.builtin "len") us) (EP X pins σ Q) X.xe s := fun d e qa => by
    subst e
    cases hs : seqOf S d with
    | none => rw [hs] at qa; exact qa.elim
    | some xs =>
      rw [hs] at qa
      obtain ⟨v, rfl, r1⟩ := reps1 r
      obtain ⟨a, ws, rfl, hq, rx⟩ := seqOf_rep R r1 hs
      refine call_len_seq pins s σ H _ us Q I rv ⟨a, ws, rfl, hq, ?_⟩
      rw [← rx.length]
      exact qa.use R (.int _)
  match ds, r, q, gen with
  | [], _, q, _ => exact q.elim
  | d :: _ :: _, _, q, _ => (cases d <;> exact q.elim)
  | [d], r, q, gen =>
    cases d with
    | str x =>
      simp only [dLen] at q
      by_cases hz : x.length ≤ sizeLine
      · rw [if_pos hz] at q
        obtain ⟨v, rfl, r1⟩ := reps1 r
        cases r1
        exact call_len_str pins s σ H _ us Q I rv ⟨x, rfl, hz, q.use R (.int _)⟩
      · rw [if_neg hz] at q; exact q.elim
    | _ => exact gen _ rfl q
theorem cd_abs : CallD X (.builtin "abs") dAbs := fun pins s σ ρ H S ds vs us Q I R r rv q => by
  match ds, r, q with
  | [], _, q => exact q.elim
  | d :: _ :: _, _, q => (cases d <;> exact q.elim)
  | [d], r, q =>
    cases d with
    | int i =>
      obtain ⟨v, rfl, r1⟩ := reps1 r
      cases r1
      exact call_abs pins s σ H _ us Q I rv ⟨i, rfl, q.use R (.int _)⟩
    | _ => exact q.elim
theorem cd_int : CallD X (.type "int") dInt := fun pins s σ ρ H S ds vs us Q I R r rv q => by
  match ds, r, q with
  | [], _, q => exact q.elim
  | d :: _ :: _, _, q => (cases d <;> exact q.elim)
  | [d], r, q =>
    cases d with
    | int i =>
      obtain ⟨v, rfl, r1⟩ := reps1 r
      cases r1
      exact call_int1 pins s σ H _ us Q I rv (.inl ⟨i, rfl, q.use R (.int _)⟩)
    | bl k =>
      obtain ⟨v, rfl, r1⟩ := reps1 r
      cases r1
      exact call_int1 pins s σ H _ us Q I rv (.inr ⟨k, rfl, q.use R (.int _)⟩)
    | str x =>
      simp only [dInt] at q
      by_cases hz : x.length ≤ 640
      · rw [if_pos hz] at q
        cases hx : PySem.intText? x with
        | none => rw [hx] at q; exact q.elim
        | some n =>
          rw [hx] at q
          obtain ⟨v, rfl, r1⟩ := reps1 r
          cases r1
          exact call_int_str pins s σ H _ us Q I rv ⟨x, n, rfl, hx, hz, q.use R (.int _)⟩
      · rw [if_neg hz] at q; exact q.elim
    | _ => exact q.elim
theorem cd_str : CallD X (.type "str") dStr := fun pins s σ ρ H S ds vs us Q I R r rv q => by
  match ds, r, q with
  | [], _, q => exact q.elim
  | d :: _ :: _, _, q => (cases d <;> exact q.elim)
  | [d], r, q =>
    cases d with
    | int i =>
      simp only [dStr] at q
      by_cases hz : i.natAbs < 2 ^ 1000
      · rw [if_pos hz] at q
        obtain ⟨v, rfl, r1⟩ := reps1 r
        cases r1
        refine call_str_int pins s σ H _ us Q I rv ⟨i, rfl, ?_, q.use R (.str _)⟩
        by_cases h0 : i.natAbs = 0
        · rw [h0]; decide
        · have := (Nat.log2_lt h0).mpr hz
          omega
      · rw [if_neg hz] at q; exact q.elim
    | _ => exact q.elim
theorem seq1 {g : List D → Store → Option D} {h : List D → Option D} (e0 : ∀ S, g [] S = none) (e2 : ∀ d d' r S, g (d :: d' :: r) S = none) (e1 : ∀ d S, g [d] S = (seqOf S d).bind h) : ∀ ds S, g ds S ≠ none → (∃ d xs, ds = [d] ∧ seqOf S d = some xs ∧ g ds S = h xs)
  | [], S, n => (n (e0 S)).elim
  | d :: d' :: r, S, n => (n (e2 d d' r S)).elim
  | [d], S, n => by
    rw [e1] at n
    cases hs : seqOf S d with
    | none => rw [hs] at n; exact (n rfl).elim
    | some xs => exact ⟨d, xs, rfl, hs, by rw [e1, hs]; rfl⟩
theorem tup_of {pins : List (Addr × Obj)} {s : Shared} {σ : L2.St} {H : Hp} {a : Addr} {ns : List Int} (I : L2.Inv X pins σ H s) (h : SqT X.K H a (ns.map V.int)) : ∃ its : List Value, IsTup s.heap a its.toArray ∧ IntsAre its ns := by
  obtain ⟨its, rv, ht, _⟩ := I.tuple h
  exact ⟨its, ht, rv.ints⟩
theorem cd_sum (hc : X.calm = true) : CallD X (.builtin "sum") dSum := cd_seq (h := fun xs => (intsOf xs).map fun ns => .int ns.sum)
  (seq1 (fun _ => rfl) (fun _ _ _ _ => rfl) fun d S => by simp only [dSum]; cases seqOf S d <;> rfl)
  fun pins s σ ρ H S a vs xs u Q I R rx ru hq q => by
    cases hi : intsOf xs with
    | none => rw [hi] at q; exact q.elim
    | some ns =>
      rw [hi] at q
      have e := intsOf_eq hi
      subst e
      have e := RepDs.ints rx
      subst e
      rcases hq with hq | hq
      · exact L2.cr_sum hc pins s σ H _ _ Q I (.cons ru .nil) ⟨a, ns, rfl, hq, q.use R (.int _)⟩
      · obtain ⟨its, ht, hi⟩ := tup_of I hq
        cases ru
        exact sum_tup (I.ok.hd hc) ht hi fun h' tk t' hk => ⟨.int _, H, I.kept hk, ⟨_, rfl⟩, q.use R (.int _)⟩
theorem max_uniq {ns : List Int} {m m' : Int} (h : maxI ns = some m) (h1 : m' ∈ ns) (h2 : ∀ y ∈ ns, y ≤ m') : m' = m := by
  obtain ⟨a, b⟩ := maxI_spec h
  exact Int.le_antisymm (b m' h1) (h2 m a)
theorem min_uniq {ns : List Int} {m m' : Int} (h : minI ns = some m) (h1 : m' ∈ ns) (h2 : ∀ y ∈ ns, m' ≤ y) : m' = m := by
  obtain ⟨a, b⟩ := minI_spec h
  exact Int.le_antisymm (h2 m a) (b m' h1)
theorem cd_max1 (hc : X.calm = true) : CallD X (.builtin "max") (fun ds S => match ds with | [d] => (((seqOf S d).bind intsOf).bind maxI).map .int | _ => none) := cd_seq (h := fun xs => ((intsOf xs).bind maxI).map .int)
  (seq1 (fun _ => rfl) (fun _ _ _ _ => rfl) fun d S => by
    show (((seqOf S d).bind intsOf).bind _).map D.int = _
    cases seqOf S d <;> rfl)
  fun pins s σ ρ H S a vs xs u Q I R rx ru hq q => by
    cases hi : intsOf xs with
    | none => rw [hi] at q; exact q.elim
    | some ns =>
      rw [hi] at q
      have e := intsOf_eq hi
      subst e
      have e := RepDs.ints rx
      subst e
      cases hm : maxI ns with
      | none => simp only [Option.bind_some, hm] at q; exact q.elim
      | some m =>
        simp only [Option.bind_some, hm] at q
        have hl : 0 < ns.length := List.length_pos_of_mem (maxI_spec hm).1
        rcases hq with hq | hq
        · exact L2.cr_max hc pins s σ H _ _ Q I (.cons ru .nil) ⟨a, ns, rfl, hq, hl, fun m' h1 h2 => by rw [max_uniq hm h1 h2]; exact q.use R (.int _)⟩
        · obtain ⟨its, ht, hi⟩ := tup_of I hq
          cases ru
          exact max_tup (I.ok.hd hc) ht hi hl fun h' tk m' t' hk h1 h2 => ⟨.int _, H, I.kept hk, ⟨_, rfl⟩, by rw [max_uniq hm h1 h2]; exact q.use R (.int _)⟩
theorem cd_min1 (hc : X.calm = true) : CallD X (.builtin "min") (fun ds S => match ds with | [d] => (((seqOf S d).bind intsOf).bind minI).map .int | _ => none) := cd_seq (h := fun xs => ((intsOf xs).bind minI).map .int)
  (seq1 (fun _ => rfl) (fun _ _ _ _ => rfl) fun d S => by
    show (((seqOf S d).bind intsOf).bind _).map D.int = _
    cases seqOf S d <;> rfl)
  fun pins s σ ρ H S a vs xs u Q I R rx ru hq q => by
    cases hi : intsOf xs with
    | none => rw [hi] at q; exact q.elim
    | some ns =>
      rw [hi] at q
      have e := intsOf_eq hi
      subst e
      have e := RepDs.ints rx
      subst e
      cases hm : minI ns with
      | none => simp only [Option.bind_some, hm] at q; exact q.elim
      | some m =>
        simp only [Option.bind_some, hm] at q
        have hl : 0 < ns.length := List.length_pos_of_mem (minI_spec hm).1
        rcases hq with hq | hq
        · exact L2.cr_min hc pins s σ H _ _ Q I (.cons ru .nil) ⟨a, ns, rfl, hq, hl, fun m' h1 h2 => by rw [min_uniq hm h1 h2]; exact q.use R (.int _)⟩
        · obtain ⟨its, ht, hi⟩ := tup_of I hq
          cases ru
          exact min_tup (I.ok.hd hc) ht hi hl fun h' tk m' t' hk h1 h2 => ⟨.int _, H, I.kept hk, ⟨_, rfl⟩, by rw [min_uniq hm h1 h2]; exact q.use R (.int _)⟩
theorem cd_max (hc : X.calm = true) : CallD X (.builtin "max") dMax := fun pins s σ ρ H S ds vs us Q I R r rv q => by
  match ds, r, q with
  | [], _, q => exact q.elim
  | [d], r, q => exact cd_max1 hc pins s σ ρ H S [d] vs us Q I R r rv (by cases d <;> exact q)
  | [d, e], r, q =>
    obtain ⟨v, w, rfl, r1, r2⟩ := reps2 r
    cases d with
    | int i =>
      cases e with
      | int j => cases r1; cases r2; exact call_max2 hc pins s σ H _ us Q I rv ⟨i, j, rfl, q.use R (.int _)⟩
      | _ => exact q.elim
    | _ => exact q.elim
  | d :: e :: _ :: _, _, q => (cases d <;> cases e <;> exact q.elim)
theorem cd_min (hc : X.calm = true) : CallD X (.builtin "min") dMin := fun pins s σ ρ H S ds vs us Q I R r rv q => by
  match ds, r, q with
  | [], _, q => exact q.elim
  | [d], r, q => exact cd_min1 hc pins s σ ρ H S [d] vs us Q I R r rv (by cases d <;> exact q)
  | [d, e], r, q =>
    obtain ⟨v, w, rfl, r1, r2⟩ := reps2 r
    cases d with
    | int i =>
      cases e with
      | int j => cases r1; cases r2; exact call_min2 hc pins s σ H _ us Q I rv ⟨i, j, rfl, q.use R (.int _)⟩
      | _ => exact q.elim
    | _ => exact q.elim
  | d :: e :: _ :: _, _, q => (cases d <;> cases e <;> exact q.elim)
theorem cd_tuple : CallD X (.type "tuple") dTuple := fun pins s σ ρ H S ds vs us Q I R r rv q => by
  match ds, r, q with
  | [], _, q => exact q.elim
  | _ :: _ :: _, _, q => exact q.elim
  | [d], r, q =>
    simp only [dTuple] at q
    obtain ⟨v, rfl, r1⟩ := reps1 r
    by_cases ht : ∃ ys, d = .tup ys
    · obtain ⟨ys, rfl⟩ := ht
      simp only [seqOf, Option.map_some] at q
      cases r1 with
      | tup hx rx => exact call_tuple_of pins s σ H _ us Q I rv ⟨_, _, rfl, .inr ⟨hx, q.use R (.tup hx rx)⟩⟩
    · have e' : seqOf S d = lstOf S d := by cases d <;> first | rfl | exact (ht ⟨_, rfl⟩).elim
      rw [e'] at q
      cases hs : lstOf S d with
      | none => rw [hs] at q; exact q.elim
      | some xs =>
        rw [hs] at q
        obtain ⟨a, ws, rfl, hq, rx⟩ := lstOf_rep R r1 hs
        exact call_tuple_of pins s σ H _ us Q I rv ⟨a, ws, rfl, .inl ⟨hq, q.newT R rx⟩⟩
/-- list(x): a new list -/
def nList : List D → Store → Option (List D)
  | [d], S => seqOf S d
  | _, _ => none
theorem cn_list : CallN X (.type "list") nList := fun pins s σ ρ H S ds vs us Q I R r rv ⟨zs, e, q⟩ => by
  match ds, r, e with
  | [], _, e => cases e
  | _ :: _ :: _, _, e => cases e
  | [d], r, e =>
    simp only [nList] at e
    obtain ⟨v, rfl, r1⟩ := reps1 r
    obtain ⟨a, ws, rfl, hq, rx⟩ := seqOf_rep R r1 e
    exact call_list_of pins s σ H _ us Q I rv ⟨a, ws, rfl, hq, q ws rx⟩
end
end M


set_option Elab.async false
set_option linter.all false
set_option maxRecDepth 100000
set_option maxHeartbeats 4000000
namespace M
open PySem PySem.Spec PyProof.Rows L2
variable [Tabs]

/-- what a method comes to: a value and the store behind it -/
def PostVS (K : PySem.W.Frag) (ρ : Rh) (H : Hp) (Q : VK) : Option (D × Store) → Prop
  | some (d, S') => ∀ ρ' H', Fr ρ H ρ' H' → Rel K ρ' H' S' → ∀ v, RepD K ρ' H' d v → Q v H'
  | none => False
def Res.ofS {α : Type} : Option (α × Store) → Res α
  | some (d, S) => .ok d S
  | none => .bad
@[simp] theorem Res.ofS_some {α : Type} (d : α) (S : Store) : Res.ofS (some (d, S)) = .ok d S := rfl
@[simp] theorem Res.ofS_none {α : Type} : Res.ofS (none : Option (α × Store)) = .bad := rfl
theorem PostE.ofS {K : PySem.W.Frag} {mg : Str → Option Value} {W : WX} {ρ : Rh} {H : Hp} {σ : L2.St} {Q : VK} {o : Option (D × Store)} (h : PostE K mg W ρ H σ Q (Res.ofS o)) : PostVS K ρ H Q o := by
  cases o with
  | none => exact h
  | some d => exact h
abbrev MtF := D → List D → Store → Option (D × Store)
/-- the receiver's type -/
def rcv (T : String) (S : Store) (d : D) : Bool := match d with
  | .str _ => T == "str"
  | d => (lstOf S d).isSome && T == "list"
def MtD (X : Cx) (id : String) (g : MtF) : Prop :=
  ∀ (pins : List (Addr × Obj)) (s : Shared) (σ : L2.St) (ρ : Rh) (H : Hp) (S : Store) (d : D) (x : V) (ds : List D) (vs : List V) (u : Value) (us : List Value) (Q : VK), L2.Inv X pins σ H s → Rel X.K ρ H S → RepD X.K ρ H d x → RepDs X.K ρ H ds vs → L2.RelV x u → Vals vs us →
    PostVS X.K ρ H Q (g d ds S) → wpAny (model X.prog X.w) X.A (call (.builtin id) (u :: us)) (EP X pins σ Q) X.xe s
theorem MtD.r {X : Cx} {id : String} {g : MtF} (o : MtD X id g) : MtR X id (fun x vs H Q => ∃ ρ S d ds, Rel X.K ρ H S ∧ RepD X.K ρ H d x ∧ RepDs X.K ρ H ds vs ∧ PostVS X.K ρ H Q (g d ds S)) :=
  fun pins s σ H x xs v us Q I rx rs ⟨ρ, S, d, ds, R, r1, r2, q⟩ => o pins s σ ρ H S d x ds xs v us Q I R r1 r2 rx rs q
def mMeth (T : String) (g : MtF) (o : ME) (m : MA) : ME := fun e S => (o e S).bind fun d S1 => if rcv T S1 d = true then (m e S1).bind fun ds S2 => .ofS (g d ds S2) else .bad
theorem rcv_tyV {K : PySem.W.Frag} {ρ : Rh} {H : Hp} {S : Store} (R : Rel K ρ H S) {T : String} {d : D} {v : V} (h : RepD K ρ H d v) (e : rcv T S d = true) : tyV K T v H := by
  have gen : ((lstOf S d).isSome && T == "list") = true → tyV K T v H := fun z => by
    rw [Bool.and_eq_true] at z
    obtain ⟨xs, hx⟩ := Option.isSome_iff_exists.mp z.1
    obtain ⟨a, vs, rfl, hq, _⟩ := lstOf_rep R h hx
    exact .inl ⟨eq_of_beq z.2, vs, hq⟩
  cases d with
  | str x => cases h; exact eq_of_beq (show (T == "str") = true from e)
  | _ => exact gen e
section
variable {X : Cx} {W : WX} {o e : Expr} {es : List Expr} {mo : ME} {m : MA} {name : Str} {apos cpos : Pos} {T id : String} {g : MtF}
theorem em_bm0 (pa : PlainAttrs T) (slot : Slot T name id) (hty : typeOf (.builtin id) = pure (.type "method_descriptor")) (hm : MtD X id g) (ho : EM X W o mo)
    (hbase : attributeBase o name X.env (eval o X.env) = eval o X.env := by rfl) (hline : (apos.endLine == cpos.line) = true := by rfl) : EM X W (.Call (.Attribute o name apos) [] [] cpos) (mMeth T g mo mNil) :=
  pe_imp (pe_bm0 pa slot hty hm.r ho hbase hline) fun σ H Q h => tE_then (f := fun d e S => if rcv T S d = true then (mNil e S).bind fun ds S2 => .ofS (g d ds S2) else .bad) (fun ρ H d v e S he R r q => by
    by_cases hr : rcv T S d = true
    · rw [if_pos hr] at q
      exact ⟨rcv_tyV R r hr, ρ, S, d, [], R, r, .nil, PostE.ofS (σ := σ) q⟩
    · rw [if_neg hr] at q; exact q.elim) h
theorem em_bm (pa : PlainAttrs T) (slot : Slot T name id) (hty : typeOf (.builtin id) = pure (.type "method_descriptor")) (hm : MtD X id g) (ho : EM X W o mo) (ha : AM X W (e :: es) m)
    (hbase : attributeBase o name X.env (eval o X.env) = eval o X.env := by rfl)
    (hfew : ((backTo cpos (starEach (e :: es) X.env)).all (fun x => !x.1) && (backToKw cpos (keywordEach [] X.env)).all (fun x => x.1.isSome)
      && decide ((e :: es).length + ([] : List Keyword).length + (if ([] : List Keyword).isEmpty then 0 else 1) < 30)) = true := by rfl)
    (hline : (apos.endLine == cpos.line) = true := by rfl) (hs : starEach (e :: es) X.env = (false, eval e X.env) :: starEach es X.env := by rfl) (hplain : (backTo cpos (starEach es X.env)).any (·.1) = false := by rfl) :
    EM X W (.Call (.Attribute o name apos) (e :: es) [] cpos) (mMeth T g mo m) :=
  pe_imp (pe_bm pa slot hty hm.r ho ha hbase hfew hline hs hplain) fun σ H Q h => tE_then (f := fun d e S => if rcv T S d = true then (m e S).bind fun ds S2 => .ofS (g d ds S2) else .bad) (fun ρ H d v e S he R r q => by
    by_cases hr : rcv T S d = true
    · rw [if_pos hr] at q
      refine ⟨rcv_tyV R r hr, ρ, e, S, he, R, (Post.bind q).mono fun ds S2 ρ2 H2 f2 R2 q vs rs => ?_⟩
      exact ⟨ρ2, S2, d, ds, R2, RepD.fr R.free f2 _ _ r, rs, PostE.ofS (σ := σ) q⟩
    · rw [if_neg hr] at q; exact q.elim) h

/-! ### lists that change -/
def seqOf' (S : Store) : D → Option (List D)
  | .tup xs => some xs
  | d => lstOf' S d
def gAppend : MtF
  | .loc n, [d], S => match S[n]? with
    | some (.lst xs) => if xs.length < sizeLine then some (.non, S.set n (.lst (xs ++ [d]))) else none
    | _ => none
  | _, _, _ => none
def gExtend : MtF
  | .loc n, [d], S => match S[n]?, seqOf' S d with
    | some (.lst xs), some ys => if xs.length + ys.length ≤ sizeLine then some (.non, S.set n (.lst (xs ++ ys))) else none
    | _, _ => none
  | _, _, _ => none
def gPop : MtF
  | .loc n, [], S => match S[n]? with
    | some (.lst xs) => (xs.getLast?).map fun d => (d, S.set n (.lst xs.dropLast))
    | _ => none
  | _, _, _ => none
def gInsert : MtF
  | .loc n, [.int i, d], S => match S[n]? with
    | some (.lst xs) => if xs.length < sizeLine ∧ 0 ≤ i ∧ i < 2 ^ 62 then some (.non, S.set n (.lst (xs.take i.toNat ++ [d] ++ xs.drop i.toNat))) else none
    | _ => none
  | _, _, _ => none
variable {K : PySem.W.Frag} {ρ : Rh} {H : Hp} {S : Store} {Q : VK}
/-- the list at loc n -/
theorem loc_at (R : Rel K ρ H S) {n : Nat} {x : V} {xs : List D} (r : RepD K ρ H (.loc n) x) (e : S[n]? = some (.lst xs)) : ∃ a vs, x = .ref a ∧ ρ.l[n]? = some a ∧ H a = some (.lst vs) ∧ RepDs K ρ H xs vs := by
  cases r with
  | loc ha =>
    obtain ⟨vs, q, r⟩ := R.at_ n _ _ e ha
    exact ⟨_, vs, rfl, ha, q, r⟩
theorem PostVS.put (R : Rel K ρ H S) {n : Nat} {a : Addr} (ha : ρ.l[n]? = some a) {ds : List D} {vs : List V} (r : RepDs K ρ H ds vs) {d : D} {v : V} (rd : RepD K ρ H d v) (q : PostVS K ρ H Q (some (d, S.set n (.lst ds)))) : Q v (upd H a (.lst vs)) :=
  q ρ _ (Fr.put (List.mem_of_getElem? ha)) (R.put ha r) v (RepD.fr R.free (Fr.put (List.mem_of_getElem? ha)) _ _ rd)
theorem md_append : MtD X "list.append" gAppend := fun pins s σ ρ H S d x ds vs u us Q I R r1 r2 ru rs q => by
  cases d with
  | loc n =>
    match ds, r2, q with
    | [], _, q => exact q.elim
    | _ :: _ :: _, _, q => exact q.elim
    | [d], r2, q =>
      simp only [gAppend] at q
      split at q
      · rename_i xs hs
        by_cases hz : xs.length < sizeLine
        · rw [if_pos hz] at q
          obtain ⟨a, ws, rfl, ha, hH, rx⟩ := loc_at R r1 hs
          obtain ⟨v, rfl, rv⟩ := reps1 r2
          exact mt_append pins s σ H _ _ u us Q I ru rs ⟨a, ws, v, rfl, rfl, hH, by rw [← rx.length]; exact hz, q.put R ha (rx.append (.cons rv .nil)) .non⟩
        · rw [if_neg hz] at q; exact q.elim
      · exact q.elim
  | _ => cases ds <;> exact q.elim
/-- xs.extend(a tuple) -/
theorem list_extend_tup (l : Addr) (items : Array Value) (n : Nat) (b : Addr) (items2 : Array Value) (n2 : Nat) (dd : Option Addr) (sl : Array (Option Value)) (hs0 : ¬(!items.isEmpty && Builtin.List.listTooLong (items.size + items2.size)) = true) (hs1 : items.size ≤ sizeLine) (hs2 : items.size + items2.size ≤ sizeLine + 1) :
    Meets (Builtin.«list.extend» ⟨[.ref l, .ref b], []⟩) (fun _ R s => s.heap.get? l = some { cls := .type "list", dict := none, data := .seq items n, slots := #[] } ∧ s.heap.get? b = some { cls := .type "tuple", dict := dd, data := .seq items2 n2, slots := sl } ∧ R (.ok (.ret Value.none)) { s with heap := s.heap.update l (Obj.mapSeq fun x => x ++ items2), toks := s.toks }) :=
  .of_wp fun prog w A R s h => by
    obtain ⟨hp, g, d, tk, os⟩ := s; obtain ⟨hl, hb, h⟩ := h; have f1 := AutoSeq1.idx_int; have f2 := AutoSeq1.sub_tuple_tuple; have f3 := AutoSeq1.sub_list_list; have f4 := AutoSeq1.sub_tuple_list; have f5 := AutoSeq1.sub_list_tuple;
    have hz' : (items ++ items2).size ≤ sizeLine + 1 := by rw [Array.size_append]; exact hs2
    wp_walk using (wpAny_updateSeq hl rfl (hz := hs1) (_hz' := hz')), wpAny_loadPart' hl, wpAny_loadPart' hb; exact ⟨_, rfl, h⟩
theorem mt_extendT {l b : Addr} {xs zs : List V} {pins : List (Addr × Obj)} {s : Shared} {σ : L2.St} {H : Hp} {Q : VK} (I : L2.Inv X pins σ H s) (hH : H l = some (.lst xs)) (hB : SqT X.K H b zs) (hz : xs.length + zs.length ≤ sizeLine) (q : Q .non (upd H l (.lst (xs ++ zs)))) :
    wpAny (model X.prog X.w) X.A (call (.builtin "list.extend") [.ref l, .ref b]) (EP X pins σ Q) X.xe s := by
  obtain ⟨z, its, n, r, hl, e⟩ := I.lstM hH
  obtain ⟨its2, r2, ⟨⟨cls, dd, data, sl⟩, e2, hc, n2, hd⟩, hs⟩ := I.tuple hB
  simp only at hc hd
  subst hc hd
  have hl2 := r2.length
  have hsz : its.toArray.size + its2.toArray.size ≤ sizeLine := by rw [List.size_toArray, List.size_toArray]; omega
  have hlong : ¬ (!its.toArray.isEmpty && Builtin.List.listTooLong (its.toArray.size + its2.toArray.size)) = true := by
    rw [notLongL hsz, Bool.and_false]
    exact Bool.false_ne_true
  refine call_meets F.slot_list_extend ⟨_, e, rfl⟩ F.entry_list_extend (F.args_list_extend_2 _ _)
    (list_extend_tup l its.toArray n b its2.toArray n2 dd sl hlong (by rw [List.size_toArray]; omega) (by omega)) ⟨e, e2, ?_⟩
  refine ⟨.non, _, I.lset (its' := its ++ its2) hH e (by simp) (r.append r2) ?_, rfl, q⟩
  rw [List.length_append]
  omega
theorem md_extend : MtD X "list.extend" gExtend := fun pins s σ ρ H S d x ds vs u us Q I R r1 r2 ru rs q => by
  cases d with
  | loc n =>
    match ds, r2, q with
    | [], _, q => exact q.elim
    | _ :: _ :: _, _, q => exact q.elim
    | [d], r2, q =>
      simp only [gExtend] at q
      split at q
      · rename_i xs ys hs hy
        by_cases hz : xs.length + ys.length ≤ sizeLine
        · rw [if_pos hz] at q
          obtain ⟨a, ws, rfl, ha, hH, rx⟩ := loc_at R r1 hs
          obtain ⟨v, rfl, rv⟩ := reps1 r2
          have hz' : ∀ zs, RepDs X.K ρ H ys zs → ws.length + zs.length ≤ sizeLine := fun zs rz => by rw [← rx.length, ← rz.length]; exact hz
          by_cases ht : ∃ zs, d = .tup zs
          · obtain ⟨zs, rfl⟩ := ht
            simp only [seqOf'] at hy
            cases hy
            cases rv with
            | tup hx ry =>
              cases ru
              cases rs with
              | cons ra rs =>
                cases rs
                cases ra
                exact mt_extendT I hH hx (hz' _ ry) (q.put R ha (rx.append ry) .non)
          · have hy' : lstOf' S d = some ys := by
              cases d <;> first | exact hy | exact (ht ⟨_, rfl⟩).elim
            obtain ⟨b, zs, rfl, hb, rz⟩ := lstOf'_rep R rv hy'
            exact mt_extend pins s σ H _ _ u us Q I ru rs ⟨a, b, ws, zs, rfl, rfl, hH, hb, hz' _ rz, q.put R ha (rx.append rz) .non⟩
        · rw [if_neg hz] at q; exact q.elim
      · exact q.elim
  | _ => cases ds <;> exact q.elim
theorem md_pop : MtD X "list.pop" gPop := fun pins s σ ρ H S d x ds vs u us Q I R r1 r2 ru rs q => by
  cases d with
  | loc n =>
    match ds, r2, q with
    | _ :: _, _, q => exact q.elim
    | [], r2, q =>
      simp only [gPop] at q
      split at q
      · rename_i xs hs
        cases hl : xs.getLast? with
        | none => rw [hl] at q; exact q.elim
        | some y =>
          rw [hl] at q
          obtain ⟨a, ws, rfl, ha, hH, rx⟩ := loc_at R r1 hs
          cases r2
          rw [List.getLast?_eq_getElem?] at hl
          obtain ⟨v, hv, rv⟩ := rx.get hl
          have hlen := rx.length
          refine mt_pop pins s σ H _ _ u us Q I ru rs ⟨a, ws, v, rfl, rfl, hH, by rw [← hlen]; exact hv, q.put R ha ?_ rv⟩
          rw [List.dropLast_eq_take, List.dropLast_eq_take, ← hlen]
          exact rx.take _
      · exact q.elim
  | _ => cases ds <;> exact q.elim
theorem md_insert : MtD X "list.insert" gInsert := fun pins s σ ρ H S d x ds vs u us Q I R r1 r2 ru rs q => by
  cases d with
  | loc n =>
    match ds, r2, q with
    | [], _, q => exact q.elim
    | [d], _, q => (cases d <;> exact q.elim)
    | d :: _ :: _ :: _, _, q => (cases d <;> exact q.elim)
    | [d, y], r2, q =>
      cases d with
      | int i =>
        simp only [gInsert] at q
        split at q
        · rename_i xs hs
          by_cases hz : xs.length < sizeLine ∧ 0 ≤ i ∧ i < 2 ^ 62
          · rw [if_pos hz] at q
            obtain ⟨a, ws, rfl, ha, hH, rx⟩ := loc_at R r1 hs
            obtain ⟨v, w, rfl, rv, rw'⟩ := reps2 r2
            cases rv
            refine mt_insert pins s σ H _ _ u us Q I ru rs ⟨a, ws, i, w, rfl, rfl, hH, by rw [← rx.length]; exact hz.1, hz.2.1, by omega, q.put R ha ?_ .non⟩
            exact ((rx.take _).append (.cons rw' .nil)).append (rx.drop _)
          · rw [if_neg hz] at q; exact q.elim
        · exact q.elim
      | _ => exact q.elim
  | _ =>
    match ds, q with
    | [], q => exact q.elim
    | [_], q => exact q.elim
    | a :: _ :: _, q => (cases a <;> exact q.elim)

/-! ### texts -/
/-- a pure method of a text -/
def gStr (h : Str → List D → Store → Option D) : MtF
  | .str x, ds, S => (h x ds S).map fun d => (d, S)
  | _, _, _ => none
theorem PostVS.use (R : Rel K ρ H S) {d : D} {v : V} (r : RepD K ρ H d v) (q : PostVS K ρ H Q (some (d, S))) : Q v H := q ρ H (Fr.refl _ _) R v r
theorem PostVS.toV {o : Option D} (q : PostVS K ρ H Q (o.map fun d => (d, S))) : PostV K ρ H S Q o := by
  cases o with
  | none => exact q
  | some d => exact q
theorem md_str {h : Str → List D → Store → Option D} (k : ∀ (pins : List (Addr × Obj)) (s : Shared) (σ : L2.St) (ρ : Rh) (H : Hp) (S : Store) (x : Str) (ds : List D) (vs : List V) (u : Value) (us : List Value) (Q : VK), L2.Inv X pins σ H s → Rel X.K ρ H S → RepDs X.K ρ H ds vs → L2.RelV (.str x) u → Vals vs us →
      PostV X.K ρ H S Q (h x ds S) → wpAny (model X.prog X.w) X.A (call (.builtin id) (u :: us)) (EP X pins σ Q) X.xe s) : MtD X id (gStr h) := fun pins s σ ρ H S d x ds vs u us Q I R r1 r2 ru rs q => by
  cases d with
  | str y => cases r1; exact k pins s σ ρ H S y ds vs u us Q I R r2 ru rs (PostVS.toV q)
  | _ => exact q.elim
def hJoin (x : Str) : List D → Store → Option D
  | [d], S => ((seqOf S d).bind strsOf).bind fun ys => if (ys.map (·.length)).sum + ys.length * x.length ≤ 16777216 then some (.str (Txt.join x ys)) else none
  | _, _ => none
def hSplit (x : Str) : List D → Store → Option D
  | [.str y], _ => if (y.length == 0) = false ∧ x.length + 2 ≤ sizeLine then some (.lst ((Txt.split x y).map .str)) else none
  | _, _ => none
def hStarts (x : Str) : List D → Store → Option D
  | [.str y], _ => some (.bl (Txt.startswith x y))
  | [.str y, .int i], _ => some (.bl (Txt.startswith3 x y i))
  | _, _ => none
def hFind (x : Str) : List D → Store → Option D
  | [.str y], _ => some (.int (Txt.find x y))
  | [.str y, .int i], _ => some (.int (Txt.find3 x y i))
  | _, _ => none
def hCount (x : Str) : List D → Store → Option D
  | [.str y], _ => some (.int (Txt.count x y))
  | _, _ => none
/-- the place of a part that is there -/
def hIndex (x : Str) : List D → Store → Option D
  | [.str y], _ => match Builtin.Str.occurrences x y 0 x.length 1 with
    | i :: _ => some (.int i)
    | [] => none
  | _, _ => none
theorem md_join : MtD X "str.join" (gStr hJoin) := md_str fun pins s σ ρ H S x ds vs u us Q I R r2 ru rs q => by
  match ds, r2, q with
  | [], _, q => exact q.elim
  | _ :: _ :: _, _, q => exact q.elim
  | [d], r2, q =>
    simp only [hJoin] at q
    obtain ⟨v, rfl, rv⟩ := reps1 r2
    cases hs : seqOf S d with
    | none => rw [hs] at q; exact q.elim
    | some xs =>
      obtain ⟨a, ws, rfl, hq, rx⟩ := seqOf_rep R rv hs
      simp only [hs, Option.bind_some] at q
      cases hy : strsOf xs with
      | none => rw [hy] at q; exact q.elim
      | some ys =>
        simp only [hy, Option.bind_some] at q
        have e := strsOf_eq hy
        subst e
        have e := RepDs.strs rx
        subst e
        by_cases hz : (ys.map (·.length)).sum + ys.length * x.length ≤ 16777216
        · rw [if_pos hz] at q
          exact mt_join pins s σ H _ _ u us Q I ru rs ⟨x, a, ys, rfl, rfl, hq, hz, q.use R (.str _)⟩
        · rw [if_neg hz] at q; exact q.elim
theorem md_split : MtD X "str.split" (gStr hSplit) := md_str fun pins s σ ρ H S x ds vs u us Q I R r2 ru rs q => by
  match ds, r2, q with
  | [], _, q => exact q.elim
  | d :: _ :: _, _, q => (cases d <;> exact q.elim)
  | [d], r2, q =>
    cases d with
    | str y =>
      simp only [hSplit] at q
      obtain ⟨v, rfl, rv⟩ := reps1 r2
      cases rv
      by_cases hz : (y.length == 0) = false ∧ x.length + 2 ≤ sizeLine
      · rw [if_pos hz] at q
        exact mt_split pins s σ H _ _ u us Q I ru rs ⟨x, y, rfl, rfl, hz.1, hz.2, q.newL R (RepDs.of_strs _)⟩
      · rw [if_neg hz] at q; exact q.elim
    | _ => exact q.elim
theorem str2 {P : Prop} {h : Str → List D → Store → Option D} {ds : List D} {S : Store} {x : Str} (e0 : h x [] S = none) (e1 : ∀ d, (∀ y, d ≠ .str y) → h x [d] S = none) (e2 : ∀ d e, (∀ y i, ¬ (d = .str y ∧ e = .int i)) → h x [d, e] S = none) (e3 : ∀ a b c r, h x (a :: b :: c :: r) S = none)
    (hn : h x ds S ≠ none) (k1 : ∀ y, ds = [.str y] → P) (k2 : ∀ y i, ds = [.str y, .int i] → P) : P := by
  match ds with
  | [] => exact (hn e0).elim
  | [d] =>
    by_cases hd : ∃ y, d = .str y
    · obtain ⟨y, rfl⟩ := hd; exact k1 y rfl
    · exact (hn (e1 d fun y z => hd ⟨y, z⟩)).elim
  | [d, e] =>
    by_cases hd : ∃ y i, d = .str y ∧ e = .int i
    · obtain ⟨y, i, rfl, rfl⟩ := hd; exact k2 y i rfl
    · exact (hn (e2 d e fun y i z => hd ⟨y, i, z⟩)).elim
  | a :: b :: c :: r => exact (hn (e3 a b c r)).elim
theorem md_starts : MtD X "str.startswith" (gStr hStarts) := md_str fun pins s σ ρ H S x ds vs u us Q I R r2 ru rs q => by
  by_cases hn : hStarts x ds S = none
  · rw [hn] at q; exact q.elim
  · refine str2 (h := hStarts) (x := x) (S := S) rfl (fun d h => by cases d <;> first | rfl | exact (h _ rfl).elim) (fun d e h => by cases d <;> first | rfl | (cases e <;> first | rfl | exact (h _ _ ⟨rfl, rfl⟩).elim)) (fun a b c r => by cases a <;> first | rfl | (cases b <;> rfl)) hn (fun y e => ?_) fun y i e => ?_
    · subst e
      obtain ⟨v, rfl, rv⟩ := reps1 r2
      cases rv
      exact mt_startswith pins s σ H _ _ u us Q I ru rs ⟨x, y, rfl, rfl, q.use R (.bl _)⟩
    · subst e
      obtain ⟨v, w, rfl, rv, rw'⟩ := reps2 r2
      cases rv; cases rw'
      exact mt_startswith3 pins s σ H _ _ u us Q I ru rs ⟨x, y, i, rfl, rfl, q.use R (.bl _)⟩
theorem md_find : MtD X "str.find" (gStr hFind) := md_str fun pins s σ ρ H S x ds vs u us Q I R r2 ru rs q => by
  by_cases hn : hFind x ds S = none
  · rw [hn] at q; exact q.elim
  · refine str2 (h := hFind) (x := x) (S := S) rfl (fun d h => by cases d <;> first | rfl | exact (h _ rfl).elim) (fun d e h => by cases d <;> first | rfl | (cases e <;> first | rfl | exact (h _ _ ⟨rfl, rfl⟩).elim)) (fun a b c r => by cases a <;> first | rfl | (cases b <;> rfl)) hn (fun y e => ?_) fun y i e => ?_
    · subst e
      obtain ⟨v, rfl, rv⟩ := reps1 r2
      cases rv
      exact mt_find pins s σ H _ _ u us Q I ru rs ⟨x, y, rfl, rfl, q.use R (.int _)⟩
    · subst e
      obtain ⟨v, w, rfl, rv, rw'⟩ := reps2 r2
      cases rv; cases rw'
      exact mt_find3 pins s σ H _ _ u us Q I ru rs ⟨x, y, i, rfl, rfl, q.use R (.int _)⟩
theorem md_count : MtD X "str.count" (gStr hCount) := md_str fun pins s σ ρ H S x ds vs u us Q I R r2 ru rs q => by
  match ds, r2, q with
  | [], _, q => exact q.elim
  | d :: _ :: _, _, q => (cases d <;> exact q.elim)
  | [d], r2, q =>
    cases d with
    | str y =>
      obtain ⟨v, rfl, rv⟩ := reps1 r2
      cases rv
      exact mt_count pins s σ H _ _ u us Q I ru rs ⟨x, y, rfl, rfl, q.use R (.int _)⟩
    | _ => exact q.elim
theorem md_index : MtD X "str.index" (gStr hIndex) := md_str fun pins s σ ρ H S x ds vs u us Q I R r2 ru rs q => by
  match ds, r2, q with
  | [], _, q => exact q.elim
  | d :: _ :: _, _, q => (cases d <;> exact q.elim)
  | [d], r2, q =>
    cases d with
    | str y =>
      obtain ⟨v, rfl, rv⟩ := reps1 r2
      cases rv
      simp only [hIndex] at q
      split at q
      · rename_i i r ho
        obtain ⟨t, rfl⟩ := ru
        cases rs with
        | cons r1 rs =>
          cases rs
          obtain ⟨u, rfl⟩ := r1
          exact PySem.SC.index ho ⟨.int (i : Nat), H, I.tok _, ⟨_, rfl⟩, q.use R (.int _)⟩
      · exact q.elim
    | _ => exact q.elim
end
end M


set_option Elab.async false
set_option linter.all false
set_option maxRecDepth 100000
set_option maxHeartbeats 4000000
namespace M
open PySem PySem.Spec PyProof.Rows L2
variable [Tabs]

/-! ### isinstance -/
def tyName (S : Store) : D → Option String
  | .non => some "NoneType"
  | .bl _ => some "bool"
  | .int _ => some "int"
  | .str _ => some "str"
  | .tup _ => some "tuple"
  | .lst _ => some "list"
  | .fro _ => none
  | .loc n => match S[n]? with
    | some (.lst _) => some "list"
    | _ => none
  | _ => none
def isT (t T : String) : Option Bool := match T with
  | "int" => some (t == "int" || t == "bool")
  | "bool" => some (t == "bool")
  | "str" => some (t == "str")
  | "tuple" => some (t == "tuple")
  | "list" => some (t == "list")
  | _ => none
def dIsInst : List D → Store → Option D
  | [d, .ty T], S => (tyName S d).bind fun t => (isT t T).map .bl
  | _, _ => none
theorem isT_kit : ∀ t ∈ ["NoneType", "bool", "int", "str", "tuple", "list"], ∀ T ∈ ["int", "bool", "str", "tuple", "list"], kitB t T = isT t T := by decide +kernel
theorem isT_of {t T : String} {b : Bool} (ht : t ∈ ["NoneType", "bool", "int", "str", "tuple", "list"]) (h : isT t T = some b) : kitB t T = some b := by
  rw [← h]
  refine isT_kit t ht T ?_
  unfold isT at h
  split at h <;> first | (simp; done) | cases h
section
variable {K : PySem.W.Frag} {ρ : Rh} {H : Hp} {S : Store}
theorem rd_ty {a : Addr} {vs : List V} (h : Rd H a (.lst vs)) : TyX K H (.ref a) (.type "list") := by
  rcases h with h | ⟨o, h⟩
  · exact .base (.lst h)
  · exact .base (.frz h)
theorem sqt_ty {a : Addr} {vs : List V} (h : SqT K H a vs) : TyX K H (.ref a) (.type "tuple") := by
  rcases h with (h | ⟨o, h⟩) | ⟨o, its, n, hk, hc, _⟩
  · exact .base (.tup h)
  · exact .fTuple h
  · exact .kTuple hk hc
theorem tyName_rep (R : Rel K ρ H S) {d : D} {v : V} {t : String} (h : RepD K ρ H d v) (e : tyName S d = some t) : TyX K H v (.type t) ∧ t ∈ ["NoneType", "bool", "int", "str", "tuple", "list"] := by
  cases d with
  | non => cases h; cases e; exact ⟨.base .non, by simp⟩
  | bl b => cases h; cases e; exact ⟨.base (.bl b), by simp⟩
  | int b => cases h; cases e; exact ⟨.base (.int b), by simp⟩
  | str b => cases h; cases e; exact ⟨.base (.str b), by simp⟩
  | tup b => cases h with | tup hx _ => cases e; exact ⟨sqt_ty hx, by simp⟩
  | lst b => cases h with | lst hx _ _ _ => cases e; exact ⟨rd_ty (Rd.of hx), by simp⟩
  | fro b => cases e
  | loc n =>
    simp only [tyName] at e
    split at e
    · rename_i xs hs
      cases e
      obtain ⟨a, vs, rfl, _, hH, _⟩ := loc_at R h hs
      exact ⟨rd_ty (Rd.of hH), by simp⟩
    · cases e
  | ref a => cases e
  | ty n => cases e
end
section
variable {X : Cx}
theorem cd_isinst : CallD X (.builtin "isinstance") dIsInst := fun pins s σ ρ H S ds vs us Q I R r rv q => by
  match ds, r, q with
  | [], _, q => exact q.elim
  | [_], _, q => exact q.elim
  | _ :: e :: _ :: _, _, q => (cases e <;> exact q.elim)
  | [d, e], r, q =>
    cases e with
    | ty T =>
      simp only [dIsInst] at q
      cases ht : tyName S d with
      | none => rw [ht] at q; exact q.elim
      | some t =>
        simp only [ht, Option.bind_some] at q
        cases hb : isT t T with
        | none => rw [hb] at q; exact q.elim
        | some b =>
          rw [hb] at q
          obtain ⟨v, w, rfl, r1, r2⟩ := reps2 r
          cases r2
          obtain ⟨hty, hm⟩ := tyName_rep R r1 ht
          exact call_isi pins s σ H _ us Q I rv ⟨v, .ty T, .type t, .type T, b, rfl, .ty T, hty, kit_ty (isT_of hm hb), q.use R (.bl b)⟩
    | _ => exact q.elim
variable {W : WX} {x : Str} {T : String} {pos : Pos}
theorem em_ty (hg : Gl X x) (hm : X.mg x = none) (hv : bootBuiltins x = some (.type T)) (hn : x ≠ "__name__" := by decide) (hd : (x == ("__debug__" : Str)) = false := by decide) : EM X W (.Name x pos) (mC (.ty T)) :=
  em_c (pe_bltn hg hm hv (v := .ty T) rfl hn hd) fun _ _ => .ty T
end

/-! ### defs -/
/-- what a def promises by its mirror -/
def spM (K : PySem.W.Frag) (mg : Str → Option Value) (n : Nat) (g : List D → Store → Res D) : Sp := fun vs H Q E =>
  ∃ ρ ds S, ds.length = n ∧ RepDs K ρ H ds vs ∧ Rel K ρ H S ∧ PostE K mg (fun c d _ H => E c d H) ρ H [] Q (g ds S)
theorem spM_len {K : PySem.W.Frag} {mg : Str → Option Value} {n : Nat} {g : List D → Store → Res D} {vs : List V} {H : Hp} {Q : VK} {E : XK} (h : spM K mg n g vs H Q E) : vs.length = n := by
  obtain ⟨ρ, ds, S, hl, r, _⟩ := h
  rw [← r.length, hl]
theorem PostE.toσ {K : PySem.W.Frag} {mg : Str → Option Value} {W : WX} {ρ : Rh} {H : Hp} {σ : L2.St} {Q : VK} : ∀ {r : Res D}, PostE K mg W ρ H σ Q r → PostE K mg (fun c d _ H => W c d σ H) ρ H [] Q r
  | .ok _ _, h => h
  | .ex _ _, h => h
  | .bad, h => h
def mCallF (n : Nat) (g : List D → Store → Res D) (m : MA) : ME := fun e S => (m e S).bind fun ds S1 => if ds.length = n then g ds S1 else .bad
abbrev FnM (P : Program) (w : World) (K : PySem.W.Frag) (mg : Str → Option Value) (base : Heap) (k : Nat) (f : Addr) (fd : FuncData) (ps : List Str) (g : List D → Store → Res D) : Prop := FnOk P w K mg base (L2.CX P w) k f fd ps (spM K mg ps.length g)
section
variable {X : Cx} {W : WX} {k : Nat} {f : Addr} {fd : FuncData} {ps : List Str} {g : List D → Store → Res D} {x : Str} {p pos : Pos} {e : Expr} {es : List Expr} {m : MA}
theorem em_call (F : FnM X.prog X.w X.K X.mg X.base k f fd ps g) (hr : Room k X.A) (hg : Gl X x) (hm : X.mg x = some (.ref f)) (hk : PySem.W.keepIn X.K (.ref f) = true) (hb : Binds X.K fd ps []) (tk : Takes X W)
    (ha : AM X W (e :: es) m) {n : Nat} (hn : ps.length = n := by rfl) (hdb : (x == ("__debug__" : Str)) = false := by decide) (he : starEach (e :: es) X.env = (false, eval e X.env) :: starEach es X.env := by rfl) (hpl : (backTo pos (starEach es X.env)).any (·.1) = false := by rfl) :
    EM X W (.Call (.Name x p) (e :: es) [] pos) (mCallF n g m) := by
  subst hn
  exact pe_imp (pe_callS (E := WE W) F hr hg hm hk hb (fun σ => passAt tk σ) ha hdb he hpl) fun σ H Q h => tA_then (β := D) (g := fun ds S => if ds.length = ps.length then g ds S else .bad) (fun ρ H ds vs S R r q => by
    by_cases hl : ds.length = ps.length
    · rw [if_pos hl] at q
      exact ⟨ρ, ds, S, hl, r, R, q.toσ⟩
    · rw [if_neg hl] at q; exact q.elim) h
theorem em_call0 (F : FnM X.prog X.w X.K X.mg X.base k f fd ps g) (hr : Room k X.A) (hg : Gl X x) (hm : X.mg x = some (.ref f)) (hk : PySem.W.keepIn X.K (.ref f) = true) (hb : Binds X.K fd ps []) (tk : Takes X fun c d _ H => False)
    (hps : ps = []) (hdb : (x == ("__debug__" : Str)) = false := by decide) : EM X W (.Call (.Name x p) [] [] pos) (mCallF 0 (fun ds S => match g ds S with | .ex _ _ => .bad | r => r) mNil) :=
  pe_imp (pe_call0 (E := fun _ _ _ => False) F hr hg hm hk hb .nil (fun pins σ H s e s' I c => tk e s' (XE.of_call I (fun _ _ _ h => h) c)) hdb) fun σ H Q ⟨ρ, e, S, he, R, q⟩ => by
    subst hps
    refine ⟨ρ, [], S, rfl, .nil, R, ?_⟩
    have q : PostE X.K X.mg W ρ H σ Q (match g [] S with | .ex _ _ => .bad | r => r) := q
    cases hg : g [] S with
    | bad => rw [hg] at q; exact q.elim
    | ex c S1 => rw [hg] at q; exact q.elim
    | ok d S1 => rw [hg] at q; exact q
end
/-- a body run at its arguments -/
def runF (n : Nat) (b : MS) (ds : List D) (S : Store) : Res D := match b (ds.map some ++ List.replicate (n - ds.length) none) S with
  | some (.rt d, _, S') => .ok d S'
  | some (.nx, _, S') => .ok .non S'
  | some (.ex c, _, S') => .ex c S'
  | _ => .bad
theorem env_start {K : PySem.W.Frag} {ρ : Rh} {H : Hp} {N : List Str} {ds : List D} {vs : List V} (h : RepDs K ρ H ds vs) : EnvRel K ρ H (L2.start N vs) (ds.map some ++ List.replicate (N.length - ds.length) none) := by
  have hl := h.length
  refine ⟨by unfold L2.start; simp [hl], fun i d e => ?_⟩
  by_cases hi : i < ds.length
  · rw [List.getElem?_append_left (by simpa using hi), List.getElem?_map] at e
    cases hd : ds[i]? with
    | none => rw [hd] at e; cases e
    | some d' =>
      rw [hd] at e
      cases e
      obtain ⟨v, a, b⟩ := h.get hd
      refine ⟨v, ?_, b⟩
      unfold L2.start
      rw [List.getElem?_append_left (by simpa [← hl] using hi), List.getElem?_map, a]; rfl
  · rw [List.getElem?_append_right (by simpa using hi), List.getElem?_replicate] at e
    split at e <;> cases e
section
variable {P : Program} {w : World} {K : PySem.W.Frag} {mg : Str → Option Value} {base : Heap}
theorem fn_m {x qual : Str} {st : Stmt} {f : Addr} {fd : FuncData} {N ps : List Str} {k : Nat} {b : MS} (F : L2.Fun K x qual st f fd) (S : FnScope N ps (defScope st))
    (hbody : ∀ (cdv : Value) (A : Around) (outer : List PySem.Env) (s : Shared) (H : Hp) (E : XK), Room k (A.deeper (envOfC qual (defScope st) s.heap.objs.size f cdv)) →
      BM (cxOf (L2.CX P w) P w K mg base N qual (defScope st) f cdv A outer s H E) (fun c d _ H => E c d H) (defBody st) b) : FnM P w K mg base (k + 1) f fd ps (runF N.length b) := by
  refine F.okX S (fun vs H Q E h => spM_len h) (fun cdv A outer s H vs Q E hr h => ⟨_, hbody cdv A outer s H E hr, ?_⟩)
  obtain ⟨ρ, ds, S, hl, r, R, q⟩ := h
  refine ⟨ρ, _, S, env_start r, R, ?_⟩
  show PostS K mg _ ρ H _ _
  unfold runF at q
  split at q
  · rename_i d e' S' hb
    rw [hb]
    exact fun ρ' H' v f R' r => q ρ' H' f R' v r
  · rename_i e' S' hb
    rw [hb]
    exact fun ρ' H' σ' f R' _ => q ρ' H' f R' _ .non
  · rename_i c e' S' hb
    rw [hb]
    exact fun ρ' H' σ' C f R' _ => q ρ' H' C f R'
  · exact q.elim
end

/-! ### behind a call: what nobody sees any more is forgotten -/
mutual
/-- no object from n on is named -/
def cl (n : Nat) : D → Bool
  | .tup xs => cls n xs
  | .lst xs => cls n xs
  | .fro xs => cls n xs
  | .loc m => decide (m < n)
  | _ => true
def cls (n : Nat) : List D → Bool
  | [] => true
  | d :: ds => cl n d && cls n ds
end
def clO (n : Nat) : OB → Bool
  | .lst xs => cls n xs
def clS (n : Nat) (S : Store) : Bool := S.all (clO n)
section
variable {K : PySem.W.Frag} {ρ : Rh} {l : List Addr} {H : Hp} {S : Store} {n : Nat}
/-- ρ2 tells the first n as ρ1, and nothing that ρ1 does not -/
structure Cut (n : Nat) (ρ1 ρ2 : Rh) : Prop where
  sub : ∀ x ∈ ρ2.l, x ∈ ρ1.l
  hh : ρ2.h = ρ1.h
  pre : ∀ m a, m < n → ρ1.l[m]? = some a → ρ2.l[m]? = some a
mutual
theorem RepD.cut {ρ1 ρ2 : Rh} (k : Cut n ρ1 ρ2) : ∀ (d : D) (v : V), cl n d = true → RepD K ρ1 H d v → RepD K ρ2 H d v
  | .non, _, _, h => by cases h; exact .non
  | .bl b, _, _, h => by cases h; exact .bl b
  | .int i, _, _, h => by cases h; exact .int i
  | .str x, _, _, h => by cases h; exact .str x
  | .tup ds, _, c, h => by
    cases h with
    | tup hs hd => exact .tup hs (RepDs.cut k ds _ c hd)
  | .lst ds, _, c, h => by
    cases h with
    | lst hs hn' hh hd => exact .lst hs (fun m => hn' (k.sub _ m)) (by rw [k.hh]; exact hh) (RepDs.cut k ds _ c hd)
  | .fro ds, _, c, h => by
    cases h with
    | fro hs hn' hh hd => exact .fro hs (fun m => hn' (k.sub _ m)) (by rw [k.hh]; exact hh) (RepDs.cut k ds _ c hd)
    | frk hk hd => exact .frk hk (RepDs.cut k ds _ c hd)
  | .loc m, _, c, h => by
    cases h with
    | loc e => exact .loc (k.pre m _ (of_decide_eq_true c) e)
  | .ref a, _, _, h => by cases h; exact .ref a
  | .ty n, _, _, h => by cases h; exact .ty n
theorem RepDs.cut {ρ1 ρ2 : Rh} (k : Cut n ρ1 ρ2) : ∀ (ds : List D) (vs : List V), cls n ds = true → RepDs K ρ1 H ds vs → RepDs K ρ2 H ds vs
  | [], _, _, h => by cases h; exact .nil
  | d :: ds, _, c, h => by
    cases h with
    | cons h1 h2 =>
      simp only [cls, Bool.and_eq_true] at c
      exact .cons (RepD.cut k d _ c.1 h1) (RepDs.cut k ds _ c.2 h2)
end
theorem Cut.of (hn : ρ.l.length = n) {l' : List Addr} (h : ∀ x ∈ l', x ∈ l) : Cut n ⟨ρ.l ++ l, ρ.h⟩ ⟨ρ.l ++ l', ρ.h⟩ := ⟨fun x m => by
    rcases List.mem_append.mp m with m | m
    · exact List.mem_append_left _ m
    · exact List.mem_append_right _ (h x m), rfl, fun m a hm e => by
    have e : (ρ.l ++ l)[m]? = some a := e
    rw [List.getElem?_append_left (by omega)] at e
    show (ρ.l ++ l')[m]? = some a
    rw [List.getElem?_append_left (by omega)]; exact e⟩
theorem Cut.back (hn : ρ.l.length = n) : Cut n ⟨ρ.l ++ l, ρ.h⟩ ρ := ⟨fun x m => List.mem_append_left _ m, rfl, fun m a hm e => by
    have e : (ρ.l ++ l)[m]? = some a := e
    rw [List.getElem?_append_left (by omega)] at e; exact e⟩
theorem RepD.back (hn : ρ.l.length = n) (d : D) (v : V) (c : cl n d = true) (h : RepD K ⟨ρ.l ++ l, ρ.h⟩ H d v) : RepD K ρ H d v := RepD.cut (Cut.back hn) d v c h
theorem RepDs.back (hn : ρ.l.length = n) (ds : List D) (vs : List V) (c : cls n ds = true) (h : RepDs K ⟨ρ.l ++ l, ρ.h⟩ H ds vs) : RepDs K ρ H ds vs := RepDs.cut (Cut.back hn) ds vs c h
theorem ObRel.cut {ρ1 ρ2 : Rh} (k : Cut n ρ1 ρ2) {a : Addr} {o : OB} (c : clO n o = true) (h : ObRel K ρ1 H a o) : ObRel K ρ2 H a o := by
  cases o with
  | lst ds => obtain ⟨vs, h1, h2⟩ := h; exact ⟨vs, h1, RepDs.cut k ds vs c h2⟩
theorem Rel.at_take {ρ2 : Rh} (r : Rel K ⟨ρ.l ++ l, ρ.h⟩ H S) (hn : ρ.l.length = n) (c : clS n (S.take n) = true) (k : Cut n ⟨ρ.l ++ l, ρ.h⟩ ρ2) {m : Nat} {o : OB} {a : Addr} (e1 : (S.take n)[m]? = some o) (e2 : ρ.l[m]? = some a) : ObRel K ρ2 H a o := by
  have hm : m < ρ.l.length := (List.getElem?_eq_some_iff.mp e2).1
  have e1' : S[m]? = some o := by rw [List.getElem?_take] at e1; split at e1 <;> first | exact e1 | cases e1
  exact (r.at_ m o a e1' (show (ρ.l ++ l)[m]? = some a by rw [List.getElem?_append_left hm]; exact e2)).cut k (List.all_eq_true.mp c o (List.mem_of_getElem? e1))
theorem Rel.back (r : Rel K ⟨ρ.l ++ l, ρ.h⟩ H S) (hn : ρ.l.length = n) (c : clS n (S.take n) = true) : Rel K ρ H (S.take n) := by
  have hl : (ρ.l ++ l).length = S.length := r.len
  rw [List.length_append] at hl
  exact ⟨by rw [List.length_take]; omega, (List.nodup_append.mp r.nd).1, fun m o a e1 e2 => r.at_take hn c (Cut.back hn) e1 e2, r.hid, r.tab⟩
/-- .. and one of the others is still told of -/
theorem Rel.backK (r : Rel K ⟨ρ.l ++ l, ρ.h⟩ H S) (hn : ρ.l.length = n) (c : clS n (S.take n) = true) {a : Addr} (ha : a ∈ l) {vs : List V} {xs : List D} (hH : H a = some (.lst vs)) (cx : cls n xs = true) (rx : RepDs K ⟨ρ.l ++ l, ρ.h⟩ H xs vs) : Rel K ⟨ρ.l ++ [a], ρ.h⟩ H (S.take n ++ [.lst xs]) := by
  have hl : (ρ.l ++ l).length = S.length := r.len
  rw [List.length_append] at hl
  have k : Cut n ⟨ρ.l ++ l, ρ.h⟩ ⟨ρ.l ++ [a], ρ.h⟩ := Cut.of hn fun x m => by rw [List.mem_singleton.mp m]; exact ha
  have na : a ∉ ρ.l := fun mem => (List.nodup_append.mp r.nd).2.2 a mem a ha rfl
  refine ⟨?_, ?_, fun m o b e1 e2 => ?_, r.hid, r.tab⟩
  · show (ρ.l ++ [a]).length = _
    rw [List.length_append, List.length_append, List.length_take, List.length_singleton, List.length_singleton]
    omega
  · show (ρ.l ++ [a]).Nodup
    rw [List.nodup_append]
    exact ⟨(List.nodup_append.mp r.nd).1, by simp, fun x hx b hb => by simp at hb; subst hb; rintro rfl; exact na hx⟩
  · have e2 : (ρ.l ++ [a])[m]? = some b := e2
    have ht : (S.take n).length = n := by rw [List.length_take]; omega
    by_cases hm : m < n
    · rw [List.getElem?_append_left (by omega)] at e1
      rw [List.getElem?_append_left (by omega)] at e2
      exact r.at_take hn c k e1 e2
    · rw [List.getElem?_append_right (by omega), ht] at e1
      rw [List.getElem?_append_right (by omega), hn] at e2
      have h0 : m - n = 0 := by
        rcases Nat.eq_zero_or_pos (m - n) with z | z
        · exact z
        · rw [List.getElem?_eq_none (by simp; omega)] at e1; cases e1
      rw [h0] at e1 e2
      simp at e1 e2
      subst e1 e2
      exact ⟨vs, hH, RepDs.cut k xs vs cx rx⟩
end
/-- what comes back: a list of the callee's own is a value from now on -/
def fz (n : Nat) (S : Store) : D → Option D
  | .loc m => if m < n then some (.loc m) else match S[m]? with
    | some (.lst ds) => if cls n ds then some (.lst ds) else none
    | none => none
  | d => if cl n d then some d else none
def retV (g : List D → Store → Res D) : List D → Store → Res D := fun ds S => match g ds S with
  | .ok d S' => if clS S.length (S'.take S.length) = true then match fz S.length S' d with
    | some d' => .ok d' (S'.take S.length)
    | none => .bad else .bad
  | .ex c S' => if clS S.length (S'.take S.length) = true then .ex c (S'.take S.length) else .bad
  | .bad => .bad
/-- .. it stays an object of the store -/
def retK (g : List D → Store → Res D) : List D → Store → Res D := fun ds S => match g ds S with
  | .ok (.loc m) S' => if clS S.length (S'.take S.length) = true ∧ S.length ≤ m then match S'[m]? with
    | some (.lst xs) => if cls S.length xs then .ok (.loc S.length) (S'.take S.length ++ [.lst xs]) else .bad
    | none => .bad else .bad
  | .ok _ _ => .bad
  | .ex c S' => if clS S.length (S'.take S.length) = true then .ex c (S'.take S.length) else .bad
  | .bad => .bad
section
variable {K : PySem.W.Frag} {mg : Str → Option Value} {W : WX} {ρ : Rh} {H : Hp} {S : Store} {σ : L2.St} {Q : VK}
theorem fz_rep {ρ' : Rh} {H' : Hp} {S' : Store} (R : Rel K ρ H S) (f : Fr ρ H ρ' H') (R' : Rel K ρ' H' S') {d d' : D} {v : V} (e : fz S.length S' d = some d') (r : RepD K ρ' H' d v) : RepD K ρ H' d' v := by
  obtain ⟨l, rfl, hl⟩ := f.new
  have gen : (if cl S.length d then some d else none) = some d' → RepD K ρ H' d' v := fun e => by
    split at e
    · rename_i c
      cases e
      exact RepD.back R.len _ _ c r
    · cases e
  cases d with
  | loc m =>
    simp only [fz] at e
    split at e
    · rename_i hm
      cases e
      exact RepD.back R.len _ _ (by unfold cl; exact decide_eq_true hm) r
    · rename_i hm
      split at e
      · rename_i ds hs
        split at e
        · rename_i c
          cases e
          obtain ⟨a, vs, rfl, ha, hH, rx⟩ := loc_at R' r hs
          refine .lst hH (fun mem => ?_) (fun mem => ?_) (RepDs.back R.len _ _ c rx)
          · have nd := R'.nd
            have ha : (ρ.l ++ l)[m]? = some a := ha
            have hlen := R.len
            rw [List.getElem?_append_right (by omega)] at ha
            exact (List.nodup_append.mp nd).2.2 a mem a (List.mem_of_getElem? ha) rfl
          · obtain ⟨ws, z⟩ := R.hid a mem
            have ha : (ρ.l ++ l)[m]? = some a := ha
            have hlen := R.len
            rw [List.getElem?_append_right (by omega)] at ha
            rw [hl a (List.mem_of_getElem? ha)] at z
            cases z
        · cases e
      · cases e
  | _ => exact gen e
theorem Fr.cut {ρ' : Rh} {H' : Hp} (f : Fr ρ H ρ' H') : Fr ρ H ρ H' := ⟨⟨[], by simp, by simp⟩, f.keep, f.live⟩
theorem PostE.retV {g : List D → Store → Res D} {ds : List D} (R : Rel K ρ H S) (q : PostE K mg W ρ H σ Q (retV g ds S)) : PostE K mg W ρ H σ Q (g ds S) := by
  unfold M.retV at q
  cases hg : g ds S with
  | bad => rw [hg] at q; exact q
  | ex c S' =>
    rw [hg] at q
    dsimp only at q
    split at q
    · rename_i hc
      intro ρ' H' C f R' hC
      obtain ⟨l, rfl, hl⟩ := f.new
      exact q ρ H' C f.cut (Rel.back R' R.len hc) hC
    · exact q.elim
  | ok d S' =>
    rw [hg] at q
    dsimp only at q
    split at q
    · rename_i hc
      split at q
      · rename_i d' hd
        intro ρ' H' f R' v r
        have r' := fz_rep R f R' hd r
        obtain ⟨l, rfl, hl⟩ := f.new
        exact q ρ H' f.cut (Rel.back R' R.len hc) v r'
      · exact q.elim
    · exact q.elim
theorem PostE.retK {g : List D → Store → Res D} {ds : List D} (R : Rel K ρ H S) (q : PostE K mg W ρ H σ Q (retK g ds S)) : PostE K mg W ρ H σ Q (g ds S) := by
  unfold M.retK at q
  cases hg : g ds S with
  | bad => rw [hg] at q; exact q
  | ex c S' =>
    rw [hg] at q
    dsimp only at q
    split at q
    · rename_i hc
      intro ρ' H' C f R' hC
      obtain ⟨l, rfl, hl⟩ := f.new
      exact q ρ H' C f.cut (Rel.back R' R.len hc) hC
    · exact q.elim
  | ok d S' =>
    rw [hg] at q
    cases d with
    | loc m =>
      dsimp only at q
      split at q
      · rename_i hc
        split at q
        · rename_i xs hs
          split at q
          · rename_i c
            intro ρ' H' f R' v r
            obtain ⟨a, vs, rfl, ha, hH, rx⟩ := loc_at R' r hs
            obtain ⟨l, rfl, hl⟩ := f.new
            have ha : (ρ.l ++ l)[m]? = some a := ha
            have hlen := R.len
            rw [List.getElem?_append_right (by omega)] at ha
            have ma : a ∈ l := List.mem_of_getElem? ha
            exact q ⟨ρ.l ++ [a], ρ.h⟩ H' (f.cut.shown (hl a ma)) (Rel.backK R' R.len hc.1 ma hH c rx) _ (.loc (by
              show (ρ.l ++ [a])[S.length]? = some a
              rw [List.getElem?_append_right (by omega), hlen]; simp))
          · exact q.elim
        · exact q.elim
      · exact q.elim
    | _ => exact q.elim
theorem spM_retV {n : Nat} {g : List D → Store → Res D} {vs : List V} {E : XK} (h : spM K mg n (M.retV g) vs H Q E) : spM K mg n g vs H Q E := by
  obtain ⟨ρ, ds, S, hl, r, R, q⟩ := h
  exact ⟨ρ, ds, S, hl, r, R, PostE.retV R q⟩
theorem spM_retK {n : Nat} {g : List D → Store → Res D} {vs : List V} {E : XK} (h : spM K mg n (M.retK g) vs H Q E) : spM K mg n g vs H Q E := by
  obtain ⟨ρ, ds, S, hl, r, R, q⟩ := h
  exact ⟨ρ, ds, S, hl, r, R, PostE.retK R q⟩
end
section
variable {P : Program} {w : World} {K : PySem.W.Frag} {mg : Str → Option Value} {base : Heap} {k : Nat} {f : Addr} {fd : FuncData} {ps : List Str} {g : List D → Store → Res D}
theorem fn_retV (F : FnM P w K mg base k f fd ps g) : FnM P w K mg base k f fd ps (retV g) := FnOk.imp F fun _ _ _ _ h => spM_retV h
theorem fn_retK (F : FnM P w K mg base k f fd ps g) : FnM P w K mg base k f fd ps (retK g) := FnOk.imp F fun _ _ _ _ h => spM_retK h
end
end M


set_option Elab.async false
set_option linter.all false
set_option maxRecDepth 100000
set_option maxHeartbeats 4000000
namespace M
open PySem PySem.Spec PyProof.Rows L2
variable [Tabs]

/-! ### later, with other hidden lists -/
structure FrH (ρ : Rh) (H : Hp) (ρ' : Rh) (H' : Hp) : Prop where
  fr : Fr ⟨ρ.l, ρ'.h⟩ H ρ' H'
  hid : ∀ a ∈ ρ'.h, a ∈ ρ.h ∨ H a = none
section
variable {K : PySem.W.Frag} {ρ ρ' ρ2 : Rh} {H H' H2 : Hp} {S : Store}
theorem FrH.of (f : Fr ρ H ρ' H') : FrH ρ H ρ' H' := ⟨by
  have e : (⟨ρ.l, ρ'.h⟩ : Rh) = ρ := by rw [f.hid]
  rw [e]; exact f, fun a m => .inl (by rw [← f.hid]; exact m)⟩
theorem FrH.refl : FrH ρ H ρ H := .of (Fr.refl ρ H)
theorem FrH.trans (f : FrH ρ H ρ' H') (g : FrH ρ' H' ρ2 H2) : FrH ρ H ρ2 H2 := by
  obtain ⟨l, e, hl⟩ := f.fr.new
  obtain ⟨k, e2, hk⟩ := g.fr.new
  have e' : ρ'.l = ρ.l ++ l := by rw [e]
  have e2' : ρ2.l = ρ'.l ++ k := by rw [e2]
  refine ⟨⟨⟨l ++ k, ?_, fun a m => ?_⟩, fun a o h n nt => g.fr.keep a o (f.fr.keep a o h n nt) (fun m => ?_) nt, fun a o h => ?_⟩, fun a m => ?_⟩
  · show ρ2 = ⟨ρ.l ++ (l ++ k), ρ2.h⟩
    rw [← List.append_assoc, ← e', ← e2']
  · rcases List.mem_append.mp m with m | m
    · exact hl a m
    · cases q : H a with
      | none => rfl
      | some o =>
        obtain ⟨o', z⟩ := f.fr.live a o q
        rw [hk a m] at z; cases z
  · have m : a ∈ ρ'.l := m
    rw [e'] at m
    rcases List.mem_append.mp m with m | m
    · exact n m
    · rw [hl a m] at h; cases h
  · obtain ⟨o', z⟩ := f.fr.live a o h
    exact g.fr.live a o' z
  · rcases g.hid a m with q | q
    · exact f.hid a q
    · refine .inr ?_
      cases z : H a with
      | none => rfl
      | some o =>
        obtain ⟨o', z'⟩ := f.fr.live a o z
        rw [q] at z'; cases z'
theorem Sees.frh (f : FrH ρ H ρ' H') : Sees H ρ ⟨ρ.l, ρ'.h⟩ := ⟨fun _ _ e => e, fun a vs r n m => ⟨n, fun z => by
  rcases f.hid a z with q | q
  · exact m q
  · exact rd_some r q⟩⟩
theorem RepD.frh (F : Free ρ H) (f : FrH ρ H ρ' H') (d : D) (v : V) (h : RepD K ρ H d v) : RepD K ρ' H' d v := RepD.fr (ρ := ⟨ρ.l, ρ'.h⟩) F f.fr _ _ (RepD.sees (Sees.frh f) _ _ h)
theorem RepDs.frh (F : Free ρ H) (f : FrH ρ H ρ' H') (d : List D) (v : List V) (h : RepDs K ρ H d v) : RepDs K ρ' H' d v := RepDs.fr (ρ := ⟨ρ.l, ρ'.h⟩) F f.fr _ _ (RepDs.sees (Sees.frh f) _ _ h)
theorem EnvRel.frh {σ : L2.St} {e : Env} (F : Free ρ H) (f : FrH ρ H ρ' H') (h : EnvRel K ρ H σ e) : EnvRel K ρ' H' σ e := ⟨h.1, fun i d q => let ⟨v, a, b⟩ := h.2 i d q; ⟨v, a, RepD.frh F f d v b⟩⟩
theorem FrH.hide (f : Fr ρ H ρ' H') {p : Addr} (h : H p = none) : FrH ρ H (ρ'.hide p) H' := by
  obtain ⟨l, rfl, hl⟩ := f.new
  refine ⟨⟨⟨l, rfl, hl⟩, f.keep, f.live⟩, fun a m => ?_⟩
  rcases List.mem_cons.mp m with m | m
  · exact .inr (by rw [m]; exact h)
  · exact .inl m
end

/-! ### targets -/
abbrev MG := D → Env → Store → Option Env
def tG (K : PySem.W.Frag) (g : MG) (sl : List Nat) : TG := fun v σ H Q => ∃ ρ e S d e', EnvRel K ρ H σ e ∧ Rel K ρ H S ∧ RepD K ρ H d v ∧ g d e S = some e' ∧ ∀ σ', EnvRel K ρ H σ' e' → (∀ vs, (∀ i ∈ sl, i ∈ vs) → wipe σ' vs = wipe σ vs) → Q σ' H
abbrev GM (X : Cx) (tg : Expr) (g : MG) (sl : List Nat) : Prop := PG X tg (tG X.K g sl)
def tGs (K : PySem.W.Frag) (g : List D → Env → Store → Option Env) (sl : List Nat) : TGs := fun vs σ H Q => ∃ ρ e S ds e', EnvRel K ρ H σ e ∧ Rel K ρ H S ∧ RepDs K ρ H ds vs ∧ g ds e S = some e' ∧ ∀ σ', EnvRel K ρ H σ' e' → (∀ vs, (∀ i ∈ sl, i ∈ vs) → wipe σ' vs = wipe σ vs) → Q σ' H
abbrev GsM (X : Cx) (ts : List Expr) (g : List D → Env → Store → Option Env) (sl : List Nat) : Prop := PGs X ts (tGs X.K g sl)
theorem pg_imp {X : Cx} {tg : Expr} {t t' : TG} (h : PG X tg t) (i : ∀ v σ H Q, t' v σ H Q → t v σ H Q) : PG X tg t' := ⟨fun pins s σ H v u Q I r q => h.run pins s σ H v u Q I r (i _ _ _ _ q)⟩
theorem pgs_imp {X : Cx} {ts : List Expr} {t t' : TGs} (h : PGs X ts t) (i : ∀ v σ H Q, t' v σ H Q → t v σ H Q) : PGs X ts t' := ⟨fun pins s σ H v u Q I r q => h.run pins s σ H v u Q I r (i _ _ _ _ q)⟩
theorem EnvRel.set {K : PySem.W.Frag} {ρ : Rh} {H : Hp} {σ : L2.St} {e : Env} (h : EnvRel K ρ H σ e) (i : Nat) {d : D} {v : V} (r : RepD K ρ H d v) : EnvRel K ρ H (σ.set i (some v)) (e.set i (some d)) := by
  refine ⟨by simp [h.1], fun j d' q => ?_⟩
  by_cases hj : i = j
  · subst hj
    have hi : i < e.length := by
      have := (List.getElem?_eq_some_iff.mp q).1
      simpa using this
    rw [List.getElem?_set_self hi] at q
    cases q
    exact ⟨v, by rw [List.getElem?_set_self (by rw [h.1]; exact hi)], r⟩
  · rw [List.getElem?_set_ne hj] at q
    rw [List.getElem?_set_ne hj]
    exact h.2 j d' q
theorem wipe_set {σ : L2.St} {i : Nat} {x : Option V} : ∀ {vs : List Nat}, i ∈ vs → wipe (σ.set i x) vs = wipe σ vs
  | [], h => by simp at h
  | v :: vs, h => by
    unfold wipe
    by_cases hv : v = i
    · subst hv
      have : ∀ (ws : List Nat), (wipe (σ.set v x) ws).set v none = (wipe σ ws).set v none := by
        intro ws
        induction ws with
        | nil => unfold wipe; rw [List.set_set]
        | cons w ws ih =>
          unfold wipe
          by_cases hw : w = v
          · subst hw; rw [List.set_set, List.set_set]; exact ih
          · rw [List.set_comm _ _ hw, ih, List.set_comm _ _ (Ne.symm hw)]
      exact this vs
    · rw [wipe_set (by rcases List.mem_cons.mp h with e | m; exact absurd e.symm hv; exact m)]
/-! the mirrors of targets -/
def gN (i : Nat) : MG := fun d e _ => some (e.set i (some d))
def gNil : List D → Env → Store → Option Env := fun ds e _ => match ds with
  | [] => some e
  | _ => none
def gCons (g : MG) (r : List D → Env → Store → Option Env) : List D → Env → Store → Option Env := fun ds e S => match ds with
  | d :: ds => (g d e S).bind fun e1 => r ds e1 S
  | [] => none
def gTup (n : Nat) (r : List D → Env → Store → Option Env) : MG := fun d e S => match d with
  | .tup ds => if ds.length = n then r ds e S else none
  | _ => none
def gLst (n : Nat) (r : List D → Env → Store → Option Env) : MG := fun d e S => match lstOf S d with
  | some ds => if ds.length = n then r ds e S else none
  | none => none
section
variable {X : Cx} {W : WX} {tg e a b c : Expr} {es : List Expr} {g : MG} {gs : List D → Env → Store → Option Env} {sl sl2 : List Nat} {x : Str} {pos pos' : Pos} {m ma mb : ME} {i : Nat}
theorem gm_name (hN : X.N.Nodup) (hi : X.N[i]? = some x) (hx : Loc X.env.scope x) (hf : X.fn x = true ∨ X.env.scope.names.lookup x = some .local := by first | exact .inl rfl | exact .inr rfl | assumption) : GM X (.Name x pos) (gN i) [i] :=
  pg_imp (pg_name hN hi hx hf) fun v σ H Q ⟨ρ, e, S, d, e', he, R, r, hg, q⟩ => by
    cases hg
    exact q _ (he.set i r) fun vs h => wipe_set (h i (by simp))
theorem gms_nil : GsM X [] gNil [] := pgs_imp pgs_nil fun v σ H Q ⟨ρ, e, S, ds, e', he, R, r, hg, q⟩ => by
  cases r with
  | nil => cases hg; exact ⟨rfl, q σ he fun _ _ => rfl⟩
  | cons _ _ => cases hg
theorem gms_cons (h1 : GM X e g sl) (h2 : GsM X es gs sl2) (hs : (assignEach (e :: es) X.env).map (·.2) = assign e X.env :: (assignEach es X.env).map (·.2) := by rfl) : GsM X (e :: es) (gCons g gs) (sl ++ sl2) :=
  pgs_imp (pgs_cons h1 h2 hs) fun vs σ H Q ⟨ρ, e, S, ds, e', he, R, r, hg, q⟩ => by
    cases r with
    | nil => cases hg
    | @cons d ds v vs r1 r2 =>
      unfold gCons at hg
      simp only at hg
      cases h : g d e S with
      | none => rw [h] at hg; cases hg
      | some e1 =>
        rw [h] at hg
        exact ⟨v, vs, rfl, ρ, e, S, d, e1, he, R, r1, h, fun σ1 he1 w1 => ⟨ρ, e1, S, ds, e', he1, R, r2, hg, fun σ2 he2 w2 => q σ2 he2 fun us hu =>
          (w2 us fun i hi => hu i (List.mem_append_right _ hi)).trans (w1 us fun i hi => hu i (List.mem_append_left _ hi))⟩⟩
theorem gm_tup {k n : Nat} (hc : X.calm = true) (h : GsM X es gs sl) (hn : (assignEach es X.env).length = n := by rfl) (hst : (assignEach es X.env).findIdx? (·.1) = none := by rfl) : GM X (.Tuple es k pos) (gTup n gs) sl :=
  pg_imp (pg_tup hc h hn hst) fun v σ H Q ⟨ρ, e, S, d, e', he, R, r, hg, q⟩ => by
    unfold gTup at hg
    split at hg
    · rename_i ds
      split at hg
      · rename_i hl
        cases r with
        | tup hs rd => exact ⟨_, _, rfl, hs, by rw [← rd.length]; exact hl, ρ, e, S, ds, e', he, R, rd, hg, q⟩
      · cases hg
    · cases hg
theorem gm_lst {k n : Nat} (hc : X.calm = true) (h : GsM X es gs sl) (hn : (assignEach es X.env).length = n := by rfl) (hst : (assignEach es X.env).findIdx? (·.1) = none := by rfl) : GM X (.Tuple es k pos) (gLst n gs) sl :=
  pg_imp (pg_lst hc h hn hst) fun v σ H Q ⟨ρ, e, S, d, e', he, R, r, hg, q⟩ => by
    unfold gLst at hg
    cases hd : lstOf S d with
    | none => rw [hd] at hg; cases hg
    | some ds =>
      rw [hd] at hg
      simp only at hg
      split at hg
      · rename_i hl
        obtain ⟨a, vs, rfl, hr, rd⟩ := lstOf_rep R r hd
        exact ⟨a, vs, rfl, hr, by rw [← rd.length]; exact hl, ρ, e, S, ds, e', he, R, rd, hg, q⟩
      · cases hg
end

/-! ### statements -/
def Res.st {α : Type} (r : Res α) (e : Env) (k : α → Store → Option (Fl × Env × Store)) : Option (Fl × Env × Store) := match r with
  | .ok a S => k a S
  | .ex c S => some (.ex c, e, S)
  | .bad => none
@[simp] theorem Res.st_ok {α : Type} (a : α) (S : Store) (e : Env) (k : α → Store → Option (Fl × Env × Store)) : (Res.ok a S).st e k = k a S := rfl
@[simp] theorem Res.st_ex {α : Type} (c : Str) (S : Store) (e : Env) (k : α → Store → Option (Fl × Env × Store)) : (Res.ex c S).st e k = some (.ex c, e, S) := rfl
@[simp] theorem Res.st_bad {α : Type} (e : Env) (k : α → Store → Option (Fl × Env × Store)) : (Res.bad : Res α).st e k = none := rfl
theorem PostS.st {K : PySem.W.Frag} {mg : Str → Option Value} {W : WX} {ρ : Rh} {H : Hp} {σ : L2.St} {S : Store} {Dn : Ends} {e : Env} {α : Type} {k : α → Store → Option (Fl × Env × Store)} (R : Rel K ρ H S) (he : EnvRel K ρ H σ e) :
    ∀ {r : Res α}, PostS K mg W ρ H Dn (r.st e k) → Post K mg W (fun a S1 ρ1 H1 => PostS K mg W ρ1 H1 Dn (k a S1)) ρ H σ r
  | .ok _ _, q => fun ρ' H' f R' => PostS.fr f q
  | .ex _ _, q => fun ρ' H' C f R' hC => q ρ' H' σ C f R' (he.fr R.free f) hC
  | .bad, q => q
def sSkip : MS := fun e S => some (.nx, e, S)
def sBreak : MS := fun e S => some (.bk, e, S)
def sCont : MS := fun e S => some (.ct, e, S)
def sNever : MS := fun _ _ => none
def sSeq (a b : MS) : MS := fun e S => match a e S with
  | some (.nx, e1, S1) => b e1 S1
  | r => r
def sSet (g : MG) (m : ME) : MS := fun e S => (m e S).st e fun d S1 => (g d e S1).bind fun e1 => some (.nx, e1, S1)
def sRet (m : ME) : MS := fun e S => (m e S).st e fun d S1 => some (.rt d, e, S1)
def sExpr (m : ME) : MS := fun e S => (m e S).st e fun _ S1 => some (.nx, e, S1)
def sIf (t : MT) (a b : MS) : MS := fun e S => (t e S).st e fun c S1 => if c = true then a e S1 else b e S1
section
variable {X : Cx} {W : WX} {tg e a b c : Expr} {es : List Expr} {g : MG} {sl : List Nat} {x : Str} {pos pos' : Pos} {m ma mb : ME} {t : MT} {sa sb : MS} {st : Stmt} {p q rest : List Stmt} {i : Nat}
theorem bm_nil : BM X W [] sSkip := pss_imp pss_nil fun Dn σ H ⟨ρ, e, S, he, R, q⟩ => q ρ H σ (Fr.refl _ _) R he
theorem bm_one (h : SM X W st sa) : BM X W [st] sa := pss_one h
theorem bm_cons (h1 : SM X W st sa) (h2 : BM X W rest sb) : BM X W (st :: rest) (sSeq sa sb) :=
  pss_imp (pss_cons h1 h2) fun Dn σ H ⟨ρ, e, S, he, R, q⟩ => ⟨ρ, e, S, he, R, by
    unfold sSeq at q
    cases hk : sa e S with
    | none => rw [hk] at q; exact q
    | some r =>
      obtain ⟨fl, e1, S1⟩ := r
      rw [hk] at q
      cases fl with
      | nx => exact fun ρ' H' σ' f R' he' => ⟨ρ', e1, S1, he', R', PostS.fr f q⟩
      | rt d => exact q
      | bk => exact q
      | ct => exact q
      | ex c => exact q⟩
theorem bm_never : BM X W p sNever := pss_imp pss_never fun _ _ _ ⟨ρ, e, S, he, R, q⟩ => q
theorem sm_never : SM X W st sNever := ps_imp ps_never fun _ _ _ ⟨ρ, e, S, he, R, q⟩ => q
theorem sm_pass : SM X W (.Pass pos) sSkip := ps_imp ps_pass fun Dn σ H ⟨ρ, e, S, he, R, q⟩ => q ρ H σ (Fr.refl _ _) R he
theorem sm_break : SM X W (.Break pos) sBreak := ps_imp ps_break fun Dn σ H ⟨ρ, e, S, he, R, q⟩ => q ρ H σ (Fr.refl _ _) R he
theorem sm_cont : SM X W (.Continue pos) sCont := ps_imp ps_continue fun Dn σ H ⟨ρ, e, S, he, R, q⟩ => q ρ H σ (Fr.refl _ _) R he
theorem tE_st {Dn : Ends} {σ : L2.St} {H : Hp} {k : D → Env → Store → Option (Fl × Env × Store)} {u : VK} (hu : ∀ ρ H d v e S, EnvRel X.K ρ H σ e → Rel X.K ρ H S → RepD X.K ρ H d v → PostS X.K X.mg W ρ H Dn (k d e S) → u v H)
    (h : tS X.K X.mg W (fun e S => (m e S).st e fun d S1 => k d e S1) Dn σ H) : tE X.K X.mg W m σ H u := by
  obtain ⟨ρ, e, S, he, R, q⟩ := h
  exact ⟨ρ, e, S, he, R, (PostS.st R he q).mono fun d S1 ρ1 H1 f1 R1 q v r => hu ρ1 H1 d v e S1 (he.fr R.free f1) R1 r q⟩
theorem sm_ret (h : EM X W e m) : SM X W (.Return (some e) pos) (sRet m) :=
  ps_imp (ps_ret h) fun Dn σ H h => tE_st (k := fun d e S1 => some (.rt d, e, S1)) (fun ρ H d v e S he R r q => q ρ H v (Fr.refl _ _) R r) h
def sRetN : MS := fun e S => some (.rt .non, e, S)
theorem sm_retN : SM X W (.Return none pos) sRetN := ps_imp ps_retN fun Dn σ H ⟨ρ, e, S, he, R, q⟩ => q ρ H .non (Fr.refl _ _) R .non
theorem sm_expr (h : EM X W e m) (hs : swapsWith e none pos.line X.env = pure false := by rfl) : SM X W (.Expr e pos) (sExpr m) :=
  ps_imp (ps_expr h hs) fun Dn σ H h => tE_st (k := fun d e S1 => some (.nx, e, S1)) (fun ρ H d v e S he R r q => q ρ H σ (Fr.refl _ _) R he) h
theorem sm_if (hc : TM X W c t) (ha : BM X W p sa) (hb : BM X W q sb) : SM X W (.If c p q pos) (sIf t sa sb) :=
  ps_imp (ps_if hc ha hb) fun Dn σ H ⟨ρ, e, S, he, R, q⟩ => ⟨ρ, e, S, he, R, (PostS.st R he q).mono fun c S1 ρ1 H1 f1 R1 q => by
    cases c with
    | true => exact ⟨ρ1, e, S1, he.fr R.free f1, R1, q⟩
    | false => exact ⟨ρ1, e, S1, he.fr R.free f1, R1, q⟩⟩
theorem set_of {te : TE} {Dn : Ends} {σ : L2.St} {H : Hp} (hte : te = tE X.K X.mg W m) (h : tS X.K X.mg W (sSet (gN i) m) Dn σ H) : tAsg te (gName i) Dn σ H := by
  subst hte
  exact tE_st (k := fun d e S1 => (gN i d e S1).bind fun e1 => some (.nx, e1, S1)) (fun ρ H d v e S he R r q => q ρ H _ (Fr.refl _ _) R (he.set i r)) h
/-- name = e -/
theorem sm_set (hN : X.N.Nodup) (hi : X.N[i]? = some x) (hx : Loc X.env.scope x) (h : EM X W e m) (hs : swapsWith e (some (.Name x pos')) pos.line X.env = pure false := by rfl) (hf : X.fn x = true ∨ X.env.scope.names.lookup x = some .local := by first | exact .inl rfl | exact .inr rfl | assumption) :
    SM X W (.Assign [.Name x pos'] e pos) (sSet (gN i) m) :=
  ps_imp (ps_set hN hi hx h hs hf) fun Dn σ H h => set_of rfl h
/-- a, b = e (e no display with plain names) -/
theorem sm_asg (h : EM X W e m) (hg : GM X tg g sl) (hs : swapsWithSole [tg] e pos.line X.env = pure false := by rfl) (hw : swappedStores [tg] e X.env = pure none := by rfl)
    (h1 : (assignEach [tg] X.env).map (·.2) = [assign tg X.env] := by rfl) : SM X W (.Assign [tg] e pos) (sSet g m) :=
  ps_imp (ps_asg h hg hs hw h1) fun Dn σ H h => tE_st (k := fun d e S1 => (g d e S1).bind fun e1 => some (.nx, e1, S1)) (fun ρ H d v e S he R r q => by
    cases hk : g d e S with
    | none => rw [hk] at q; exact q.elim
    | some e1 =>
      rw [hk] at q
      exact ⟨ρ, e, S, d, e1, he, R, r, hk, fun σ' he' _ => q ρ H σ' (Fr.refl _ _) R he'⟩) h
/-- a, b = x, y -/
def sPar (i j : Nat) (m : MA) : MS := fun e S => (m e S).st e fun ds S1 => match ds with
  | [d1, d2] => some (.nx, (e.set i (some d1)).set j (some d2), S1)
  | _ => none
theorem sm_par {i j : Nat} {x y : Str} {a b : Expr} {m : MA} {px py pt : Pos} {kt k2 pt2} (hc : X.calm = true) (hN : X.N.Nodup) (hi : X.N[i]? = some x) (hj : X.N[j]? = some y) (hij : i ≠ j)
    (hx : X.env.scope.names.lookup x = some .local) (hy : X.env.scope.names.lookup y = some .local) (ha : AM X W [a, b] m)
    (hw : swappedStores [.Tuple [.Name x px, .Name y py] kt pt] (.Tuple [a, b] k2 pt2) X.env = pure (some [x, y]))
    (hs : swapsWithSole [.Tuple [.Name x px, .Name y py] kt pt] (.Tuple [a, b] k2 pt2) pos.line X.env = pure false := by rfl) :
    SM X W (.Assign [.Tuple [.Name x px, .Name y py] kt pt] (.Tuple [a, b] k2 pt2) pos) (sPar i j m) :=
  ps_imp (ps_par hc hN hi hj hij hx hy ha hw hs) fun Dn σ H ⟨ρ, e, S, he, R, q⟩ => ⟨ρ, e, S, he, R, (PostS.st R he q).mono fun ds S1 ρ1 H1 f1 R1 q vs r => by
    match ds, r, q with
    | [], _, q => exact q.elim
    | [_], _, q => exact q.elim
    | _ :: _ :: _ :: _, _, q => exact q.elim
    | [d1, d2], r, q =>
      obtain ⟨v, w, rfl, r1, r2⟩ := reps2 r
      exact ⟨v, w, rfl, q ρ1 H1 _ (Fr.refl _ _) R1 (((he.fr R.free f1).set i r1).set j r2)⟩⟩
/-- name op= e on ints -/
def sAug (i : Nat) (f : Int → Int → Int) (m : ME) : MS := fun e S => match e[i]? with
  | some (some (.int a)) => (m e S).st e fun d S1 => match d with
    | .int b => some (.nx, e.set i (some (.int (f a b))), S1)
    | _ => none
  | _ => none
theorem sm_aug {op : Operator} {f : Int → Int → Int} (ho : PIp X op (ipI f)) (hN : X.N.Nodup) (hi : X.N[i]? = some x) (hx : Loc X.env.scope x) (h : EM X W e m) (hf : X.fn x = true ∨ X.env.scope.names.lookup x = some .local := by first | exact .inl rfl | exact .inr rfl | assumption) :
    SM X W (.AugAssign (.Name x pos') op e pos) (sAug i f m) :=
  ps_imp (ps_aug hN hi hx h ho hf) fun Dn σ H ⟨ρ, e, S, he, R, q⟩ => by
    unfold sAug at q
    split at q
    · rename_i a hk
      obtain ⟨v, h1, r1⟩ := he.2 i _ hk
      cases r1
      refine ⟨.int a, h1, ρ, e, S, he, R, (PostS.st R he q).mono fun d S1 ρ1 H1 f1 R1 q v r => ?_⟩
      cases d with
      | int b => cases r; exact ⟨a, b, rfl, rfl, q ρ1 H1 _ (Fr.refl _ _) R1 ((he.fr R.free f1).set i (.int _))⟩
      | _ => exact q.elim
    · exact q.elim
/-- o[i] = e on a list of the store -/
def sPut (mo mi me : ME) : MS := fun e S => (me e S).st e fun d S1 => (mo e S1).st e fun o S2 => (mi e S2).st e fun i S3 => match o, i with
  | .loc n, .int k => match S3[n]? with
    | some (.lst xs) => match ixN xs.length k with
      | some j => some (.nx, e, S3.set n (.lst (xs.set j d)))
      | none => none
    | none => none
  | _, _ => none
end
end M


set_option Elab.async false
set_option linter.all false
set_option maxRecDepth 100000
set_option maxHeartbeats 4000000
namespace M
open PySem PySem.Spec PyProof.Rows L2 RZ
variable [Tabs]

section
variable {X : Cx} {W : WX} {tg e a b c : Expr} {es : List Expr} {g : MG} {sl : List Nat} {x : Str} {pos pos' : Pos} {m ma mb mo mi me : ME} {t : MT} {sa sb : MS} {st : Stmt} {p q rest : List Stmt} {i : Nat}
theorem sm_put {o i : Expr} (ho : EM X W o mo) (hi : EM X W i mi) (he : EM X W e me) (hs : swapsWithSole [.Subscript o i pos'] e pos.line X.env = pure false := by rfl) (hw : swappedStores [.Subscript o i pos'] e X.env = pure none := by rfl)
    (h1 : (assignEach [.Subscript o i pos'] X.env).map (·.2) = [assign (.Subscript o i pos') X.env] := by rfl)
    (ha : ∀ v, assign (.Subscript o i pos') X.env v = (do
      let ov ← holding [v] (eval o X.env)
      let iv ← holding [v, ov] (eval i X.env)
      standAt pos'
      holding [v, ov, iv] (setItem ov iv v)
      release [v, ov, iv] []) := by intro _; rfl) : SM X W (.Assign [.Subscript o i pos'] e pos) (sPut mo mi me) :=
  ps_imp (ps_asg he (pg_sub ho hi set_list ha) hs hw h1) fun Dn σ H ⟨ρ, e, S, he, R, q⟩ => ⟨ρ, e, S, he, R, (PostS.st R he q).mono fun d S1 ρ1 H1 f1 R1 q v r =>
    ⟨ρ1, e, S1, he.fr R.free f1, R1, (PostS.st R1 (he.fr R.free f1) q).mono fun o S2 ρ2 H2 f2 R2 q vo ro =>
      ⟨ρ2, e, S2, (he.fr R.free f1).fr R1.free f2, R2, (PostS.st R2 ((he.fr R.free f1).fr R1.free f2) q).mono fun i S3 ρ3 H3 f3 R3 q vi ri => by
        have r3 := RepD.fr R2.free f3 _ _ (RepD.fr R1.free f2 _ _ r)
        have ro3 := RepD.fr R2.free f3 _ _ ro
        cases o with
        | loc n =>
          cases i with
          | int k =>
            dsimp only at q
            cases hn : S3[n]? with
            | none => rw [hn] at q; exact q.elim
            | some ob =>
              cases ob with
              | lst xs =>
                rw [hn] at q
                cases hk : ixN xs.length k with
                | none => simp only [hk] at q; exact q.elim
                | some j =>
                  simp only [hk] at q
                  cases ri
                  obtain ⟨p, ws, rfl, ha, hH, rx⟩ := loc_at R3 ro3 hn
                  have mp : p ∈ ρ3.l := List.mem_of_getElem? ha
                  have f4 : Fr ρ3 H3 ρ3 (upd H3 p (.lst (ws.set j v))) := Fr.put mp
                  exact ⟨p, ws, k, j, rfl, rfl, hH, by rw [← rx.length]; exact hk, q ρ3 _ σ f4 (R3.put ha (RepDs.set r3 j rx)) ((((he.fr R.free f1).fr R1.free f2).fr R2.free f3).fr R3.free f4)⟩
          | _ => exact q.elim
        | _ => exact q.elim⟩⟩⟩
end

/-! ### sources -/
structure Src where
  xs : List D
  w : List (Nat × List D)
def Src.ok (s : Src) (S : Store) : Prop := ∀ p ∈ s.w, S[p.1]? = some (.lst p.2)
@[simp] theorem Src.ok_nil (xs : List D) (S : Store) : (Src.mk xs []).ok S := fun p h => by simp at h
structure JOk (K : PySem.W.Frag) (src : Src) (J : It) (ρ : Rh) (H : Hp) : Prop where
  go : ∀ ρ' H' S' i d, FrH ρ H ρ' H' → Rel K ρ' H' S' → src.ok S' → src.xs[i]? = some d → J.go i H' ∧ ∀ x H'', J.yld i H' x H'' → Fr ρ' H' ρ' H'' ∧ Rel K ρ' H'' S' ∧ RepD K ρ' H'' d x
  stop : ∀ ρ' H' S', FrH ρ H ρ' H' → Rel K ρ' H' S' → src.ok S' → J.stop src.xs.length H'
abbrev MI := Env → Store → Res Src
def tI (K : PySem.W.Frag) (mg : Str → Option Value) (W : WX) (m : MI) : TI := fun σ H R => ∃ ρ e S, EnvRel K ρ H σ e ∧ Rel K ρ H S ∧ Post K mg W (fun src S' ρ' H' => ∀ J, JOk K src J ρ' H' → R J H') ρ H σ (m e S)
abbrev IM (X : Cx) (W : WX) (tg e : Expr) (m : MI) : Prop := PI X tg e (tI X.K X.mg W m)
theorem pi_imp {X : Cx} {tg e : Expr} {t t' : TI} (h : PI X tg e t) (i : ∀ σ H Q, t' σ H Q → t σ H Q) : PI X tg e t' := ⟨fun pins s σ H Q I q => h.run pins s σ H Q I (i _ _ _ q)⟩
/-- from a Walk whose items are there, the heap as it was -/
theorem jok_at {K : PySem.W.Frag} {src : Src} {J : It} {ρ : Rh} {H : Hp} {n : Nat} (G : Hp → Prop) {Y : Nat → Hp → V → Hp → Prop} (w : Walk J n G Y) (hn : src.xs.length = n)
    (hG : ∀ ρ' H' S', FrH ρ H ρ' H' → Rel K ρ' H' S' → src.ok S' → G H')
    (hy : ∀ ρ' H' S' i d x H'', FrH ρ H ρ' H' → Rel K ρ' H' S' → src.ok S' → src.xs[i]? = some d → Y i H' x H'' → H'' = H' ∧ RepD K ρ' H' d x) : JOk K src J ρ H where
  go := fun ρ' H' S' i d f R ok hd => by
    have hi : i < n := by rw [← hn]; exact (List.getElem?_eq_some_iff.mp hd).1
    refine ⟨w.goes i H' hi (hG ρ' H' S' f R ok), fun x H'' y => ?_⟩
    obtain ⟨rfl, r⟩ := hy ρ' H' S' i d x H'' f R ok hd (w.yields i H' x H'' hi (hG ρ' H' S' f R ok) y)
    exact ⟨Fr.refl _ _, R, r⟩
  stop := fun ρ' H' S' f R ok => by rw [hn]; exact w.stops H' (hG ρ' H' S' f R ok)
/-- .. items in new pairs -/
theorem jok_pair {K : PySem.W.Frag} {src : Src} {J : It} {ρ : Rh} {H : Hp} {n : Nat} (G : Hp → Prop) {f1 f2 : Nat → Option V} (w : Walk J n G (YPair f1 f2)) (hn : src.xs.length = n)
    (hG : ∀ ρ' H' S', FrH ρ H ρ' H' → Rel K ρ' H' S' → src.ok S' → G H')
    (hy : ∀ ρ' H' S' i d x y, FrH ρ H ρ' H' → Rel K ρ' H' S' → src.ok S' → src.xs[i]? = some d → f1 i = some x → f2 i = some y → ∃ d1 d2, d = .tup [d1, d2] ∧ RepD K ρ' H' d1 x ∧ RepD K ρ' H' d2 y) : JOk K src J ρ H where
  go := fun ρ' H' S' i d f R ok hd => by
    have hi : i < n := by rw [← hn]; exact (List.getElem?_eq_some_iff.mp hd).1
    refine ⟨w.goes i H' hi (hG ρ' H' S' f R ok), fun v H'' yy => ?_⟩
    obtain ⟨T, x, y, rfl, hT, rfl, e1, e2⟩ := w.yields i H' v H'' hi (hG ρ' H' S' f R ok) yy
    obtain ⟨d1, d2, rfl, r1, r2⟩ := hy ρ' H' S' i d x y f R ok hd e1 e2
    exact ⟨Fr.laid hT, R.laid hT, .tup (SqT.of upd_same) (RepDs.fr R.free (Fr.laid hT) _ _ (.cons r1 (.cons r2 .nil)))⟩
  stop := fun ρ' H' S' f R ok => by rw [hn]; exact w.stops H' (hG ρ' H' S' f R ok)

/-- the items of a list, a tuple, a text -/
def strItems (s : Str) : List D := s.cps.toList.map fun c => .str ⟨#[c]⟩
def srcOf (S : Store) : D → Option Src
  | .tup xs => some ⟨xs, []⟩
  | .lst xs => some ⟨xs, []⟩
  | .fro xs => some ⟨xs, []⟩
  | .loc n => match S[n]? with
    | some (.lst xs) => some ⟨xs, [(n, xs)]⟩
    | _ => none
  | .str s => some ⟨strItems s, []⟩
  | _ => none
/-- a list that d is stands as it did -/
structure Stands (K : PySem.W.Frag) (xs : List D) (w : List (Nat × List D)) (a : Addr) (ρ : Rh) (H : Hp) : Prop where
  at_ : ∀ ρ' H' S', FrH ρ H ρ' H' → Rel K ρ' H' S' → (∀ p ∈ w, S'[p.1]? = some (.lst p.2)) → ∃ vs, SqL K H' a vs ∧ RepDs K ρ' H' xs vs
theorem frh_rd {ρ ρ' : Rh} {H H' : Hp} (f : FrH ρ H ρ' H') {a : Addr} {ws : List V} (h : Rd H a (.lst ws)) (n : a ∉ ρ.l) : Rd H' a (.lst ws) := (rd_fr (ρ := ⟨ρ.l, ρ'.h⟩) f.fr h n).1
theorem FrH.at_ {ρ ρ' : Rh} {H H' : Hp} (f : FrH ρ H ρ' H') {n : Nat} {a : Addr} (h : ρ.l[n]? = some a) : ρ'.l[n]? = some a := Fr.at_ (ρ := ⟨ρ.l, ρ'.h⟩) f.fr h
def watch : D → List D → List (Nat × List D)
  | .loc n, xs => [(n, xs)]
  | _, _ => []
theorem stands_of {K : PySem.W.Frag} {ρ : Rh} {H : Hp} {S : Store} {d : D} {v : V} {xs : List D} (R : Rel K ρ H S) (r : RepD K ρ H d v) (e : lstOf S d = some xs) : ∃ a, v = .ref a ∧ Stands K xs (watch d xs) a ρ H := by
  cases d <;> simp only [lstOf] at e <;> try cases e
  case lst =>
    cases r with
    | lst a b b' c => exact ⟨_, rfl, ⟨fun ρ' H' S' f R' _ => ⟨_, .inl (frh_rd f (Rd.of a) b), RepDs.frh R.free f _ _ c⟩⟩⟩
  case fro =>
    cases r with
    | fro a b b' c => exact ⟨_, rfl, ⟨fun ρ' H' S' f R' _ => ⟨_, .inl (frh_rd f a b), RepDs.frh R.free f _ _ c⟩⟩⟩
    | frk a c => exact ⟨_, rfl, ⟨fun ρ' H' S' f R' _ => ⟨_, .inr a, RepDs.frh R.free f _ _ c⟩⟩⟩
  case loc n =>
    cases r with
    | loc ha =>
      split at e
      · rename_i ys hs
        cases e
        refine ⟨_, rfl, ⟨fun ρ' H' S' f R' hw => ?_⟩⟩
        obtain ⟨vs, q, rr⟩ := R'.at_ n _ _ (hw (n, xs) (by simp [watch])) (f.at_ ha)
        exact ⟨vs, .inl (.inl q), rr⟩
      · cases e
theorem jok_list {K : PySem.W.Frag} {ρ : Rh} {H : Hp} {S : Store} {a : Addr} {xs : List D} {w : List (Nat × List D)} (R : Rel K ρ H S) (hw : ∀ p ∈ w, S[p.1]? = some (.lst p.2)) (st : Stands K xs w a ρ H) : JOk K ⟨xs, w⟩ (Itl K a) ρ H where
  go := fun ρ' H' S' i d f R' ok hd => by
    obtain ⟨vs, q, r⟩ := st.at_ ρ' H' S' f R' ok
    obtain ⟨v, hv, rv⟩ := r.get hd
    refine ⟨⟨vs, v, q, hv⟩, fun x H'' y => ?_⟩
    obtain ⟨rfl, y⟩ := y
    have := y vs q
    rw [hv] at this; cases this
    exact ⟨Fr.refl _ _, R', rv⟩
  stop := fun ρ' H' S' f R' ok => by
    obtain ⟨vs, q, r⟩ := st.at_ ρ' H' S' f R' ok
    exact ⟨vs, q, by rw [← r.length]; exact Nat.le_refl _⟩
theorem sqt_frh {K : PySem.W.Frag} {ρ ρ' : Rh} {H H' : Hp} (F : Free ρ H) (f : FrH ρ H ρ' H') {a : Addr} {vs : List V} (h : SqT K H a vs) : SqT K H' a vs := sqt_fr (ρ := ⟨ρ.l, ρ'.h⟩) F f.fr h
theorem jok_tup {K : PySem.W.Frag} {ρ : Rh} {H : Hp} {S : Store} {a : Addr} {vs : List V} {xs : List D} (R : Rel K ρ H S) (q : SqT K H a vs) (r : RepDs K ρ H xs vs) : JOk K ⟨xs, []⟩ (Itt K a) ρ H :=
  jok_at (fun H' => SqT K H' a vs) walk_tup r.length (fun ρ' H' S' f R' ok => sqt_frh R.free f q) fun ρ' H' S' i d x H'' f R' ok hd y => by
    obtain ⟨rfl, y⟩ := y
    obtain ⟨v, hv, rv⟩ := (RepDs.frh R.free f _ _ r).get hd
    rw [hv] at y; cases y
    exact ⟨rfl, rv⟩
theorem jok_str {K : PySem.W.Frag} {ρ : Rh} {H : Hp} (s : Str) : JOk K ⟨strItems s, []⟩ (Its s) ρ H :=
  jok_at (fun _ => True) walk_str (by simp [strItems]) (fun _ _ _ _ _ _ => trivial) fun ρ' H' S' i d x H'' f R' ok hd y => by
    obtain ⟨rfl, c, hc, rfl⟩ := y
    have : d = .str ⟨#[c]⟩ := by
      simp only [strItems, List.getElem?_map, Array.getElem?_toList, hc, Option.map_some, Option.some.injEq] at hd
      exact hd.symm
    subst this
    exact ⟨rfl, .str _⟩
/-- whatever of the three it is -/
def iAny (K : PySem.W.Frag) (tl : TE) : TI := fun σ H R => tl σ H fun x H1 => (∃ a xs, x = .ref a ∧ SqL K H1 a xs ∧ R (Itl K a) H1) ∨ (∃ a xs, x = .ref a ∧ SqT K H1 a xs ∧ R (Itt K a) H1) ∨ ∃ s, x = .str s ∧ R (Its s) H1
theorem pi_any {X : Cx} {tg l : Expr} {tl : TE} (hl : PE X l tl) : PI X tg l (iAny X.K tl) := by
  refine ⟨fun pins s σ H R I h => ?_⟩
  refine thn (hl.run pins s σ H _ I h) fun v s1 ⟨x, H1, I1, r1, q1⟩ => ?_
  rcases q1 with ⟨a, xs, e, hq, q⟩ | ⟨a, xs, e, hq, q⟩ | ⟨z, e, q⟩
  · subst e
    cases r1
    obtain ⟨its, rv, p, hz⟩ := I1.list hq
    exact wpAny_pyIter_list p.isList (pi_one (tk := s1.toks) I1 _ (turn_list a _) ⟨_, Heap.get?_push_size _ rfl, rfl, rfl⟩ q)
  · subst e
    cases r1
    obtain ⟨its, rv, p, hz⟩ := I1.tuple hq
    exact wpAny_pyIter_tuple (show s1.heap.IsTuple a its.toArray from p) (pi_one (tk := s1.toks) I1 _ (turn_tuple a _) ⟨_, Heap.get?_push_size _ rfl, rfl, rfl⟩ q)
  · subst e
    obtain ⟨t, rfl⟩ := r1
    cases ha : z.cps.all (· < 128)
    · exact wpAny_pyIter_wide ha (pi_one (tk := s1.toks) I1 _ (turn_str _ z t "str_iterator" (.inr rfl)) ⟨_, Heap.get?_push_size _ rfl, rfl, rfl⟩ q)
    · exact wpAny_pyIter_ascii ha (pi_one (tk := s1.toks) I1 _ (turn_str _ z t "str_ascii_iterator" (.inl rfl)) ⟨_, Heap.get?_push_size _ rfl, rfl, rfl⟩ q)
def mSrc (m : ME) : MI := fun e S => (m e S).bind fun d S1 => .of (srcOf S1 d) S1
theorem srcOf_list {S : Store} {d : D} {src : Src} (h : srcOf S d = some src) (nt : ∀ ys, d ≠ .tup ys) (ns : ∀ s, d ≠ .str s) : lstOf S d = some src.xs ∧ src.w = watch d src.xs ∧ src.ok S := by
  cases d <;> simp only [srcOf] at h <;> try cases h
  case tup => exact absurd rfl (nt _)
  case lst => exact ⟨rfl, rfl, Src.ok_nil _ _⟩
  case fro => exact ⟨rfl, rfl, Src.ok_nil _ _⟩
  case str => exact absurd rfl (ns _)
  case loc n =>
    split at h
    · rename_i xs hs
      cases h
      refine ⟨by simp only [lstOf, hs], rfl, fun p hp => ?_⟩
      simp at hp; subst hp; exact hs
    · cases h
theorem im_any {X : Cx} {W : WX} {tg e : Expr} {m : ME} (he : EM X W e m) : IM X W tg e (mSrc m) :=
  pi_imp (pi_any he) fun σ H R' ⟨ρ, e, S, he, R, q⟩ => ⟨ρ, e, S, he, R, (Post.bind q).mono fun d S1 ρ1 H1 f1 R1 q v r => by
    cases hk : srcOf S1 d with
    | none => rw [hk] at q; exact q.elim
    | some src =>
      rw [hk] at q
      have q := q ρ1 H1 (Fr.refl _ _) R1
      by_cases ht : ∃ ys, d = .tup ys
      · obtain ⟨ys, rfl⟩ := ht
        cases hk
        cases r with
        | tup hs rd => exact .inr (.inl ⟨_, _, rfl, hs, q _ (jok_tup R1 hs rd)⟩)
      · by_cases hs : ∃ s, d = .str s
        · obtain ⟨s, rfl⟩ := hs
          cases hk
          cases r
          exact .inr (.inr ⟨s, rfl, q _ (jok_str s)⟩)
        · obtain ⟨h1, h2, h3⟩ := srcOf_list hk (fun ys z => ht ⟨ys, z⟩) fun s z => hs ⟨s, z⟩
          obtain ⟨a, rfl, st⟩ := stands_of R1 r h1
          obtain ⟨vs, hq, _⟩ := st.at_ ρ1 H1 S1 .refl R1 (by rw [← h2]; exact h3)
          refine .inl ⟨a, vs, rfl, hq, q _ ?_⟩
          have := jok_list R1 (by rw [← h2]; exact h3) st
          have es : (⟨src.xs, watch d src.xs⟩ : Src) = src := by rw [← h2]
          rw [es] at this
          exact this⟩
/-! ranges -/
def rng (lo : Int) (n : Nat) : List D := (List.range n).map fun (i : Nat) => .int (lo + (i : Int))
def rngC (lo c : Int) (n : Nat) : List D := (List.range n).map fun (i : Nat) => .int (lo + (i : Int) * c)
def inR (i : Int) : Bool := decide (-(2 ^ 62) ≤ i ∧ i < 2 ^ 62)
def srcR1 : List D → Store → Option Src
  | [.int j], _ => if inR j then some ⟨rng 0 j.toNat, []⟩ else none
  | _, _ => none
def srcR2 : List D → Store → Option Src
  | [.int i, .int j], _ => if inR i && inR j then some ⟨rng i (j - i).toNat, []⟩ else none
  | _, _ => none
def mSrcA (f : List D → Store → Option Src) (m : MA) : MI := fun e S => (m e S).bind fun ds S1 => .of (f ds S1) S1
theorem jok_rng {K : PySem.W.Frag} {ρ : Rh} {H : Hp} (lo : Int) (n : Nat) : JOk K ⟨rng lo n, []⟩ (Itr lo n) ρ H :=
  jok_at (fun _ => True) walk_range (by simp [rng]) (fun _ _ _ _ _ _ => trivial) fun ρ' H' S' i d x H'' f R' ok hd y => by
    obtain ⟨rfl, rfl⟩ := y
    have hi : i < n := by have := (List.getElem?_eq_some_iff.mp hd).1; simpa [rng] using this
    simp only [rng, List.getElem?_map, List.getElem?_range hi, Option.map_some, Option.some.injEq] at hd
    subst hd
    exact ⟨rfl, .int _⟩
section
variable {X : Cx} {W : WX} {tg a b c e : Expr} {m : MA} {p pos : Pos}
theorem tA_src {f : List D → Store → Option Src} {σ : L2.St} {H : Hp} {R' : It → Hp → Prop} {u : List V → Hp → Prop}
    (hu : ∀ ρ H ds vs S src, Rel X.K ρ H S → RepDs X.K ρ H ds vs → f ds S = some src → (∀ J, JOk X.K src J ρ H → R' J H) → u vs H)
    (h : tI X.K X.mg W (mSrcA f m) σ H R') : tA X.K X.mg W m σ H u := by
  obtain ⟨ρ, e, S, he, R, q⟩ := h
  exact ⟨ρ, e, S, he, R, (Post.bind q).mono fun ds S1 ρ1 H1 f1 R1 q vs r => by
    cases hk : f ds S1 with
    | none => rw [hk] at q; exact q.elim
    | some src => rw [hk] at q; exact hu ρ1 H1 ds vs S1 src R1 r hk (q ρ1 H1 (Fr.refl _ _) R1)⟩
theorem im_range1 (hg : Gl X "range") (hm : X.mg "range" = none) (ha : AM X W [a] m) (hs : starEach [a] X.env = [(false, eval a X.env)] := by rfl) : IM X W tg (.Call (.Name "range" p) [a] [] pos) (mSrcA srcR1 m) :=
  pi_imp (pi_range1 hg hm ha hs) fun σ H R' h => tA_src (fun ρ H ds vs S src R r hk q => by
    unfold srcR1 at hk
    split at hk
    · rename_i j
      split at hk
      · rename_i hj
        cases hk
        obtain ⟨v, rfl, r1⟩ := reps1 r
        cases r1
        simp only [inR, decide_eq_true_eq] at hj
        exact ⟨j, rfl, hj.1, hj.2, q _ (jok_rng 0 _)⟩
      · cases hk
    · cases hk) h
theorem im_range2 (hg : Gl X "range") (hm : X.mg "range" = none) (ha : AM X W [a, b] m) (hs : starEach [a, b] X.env = [(false, eval a X.env), (false, eval b X.env)] := by rfl) (hs2 : starEach [b] X.env = [(false, eval b X.env)] := by rfl) : IM X W tg (.Call (.Name "range" p) [a, b] [] pos) (mSrcA srcR2 m) :=
  pi_imp (pi_range2 hg hm ha hs hs2) fun σ H R' h => tA_src (fun ρ H ds vs S src R r hk q => by
    unfold srcR2 at hk
    split at hk
    · rename_i i j
      split at hk
      · rename_i hj
        cases hk
        obtain ⟨v, w, rfl, r1, r2⟩ := reps2 r
        cases r1
        cases r2
        simp only [inR, Bool.and_eq_true, decide_eq_true_eq] at hj
        exact ⟨i, j, rfl, ⟨hj.1.1, hj.1.2, hj.2.1, hj.2.2⟩, q _ (jok_rng i _)⟩
      · cases hk
    · cases hk) h
/-! zip, enumerate, reversed -/
def zipD : List D → List D → List D
  | x :: xs, y :: ys => .tup [x, y] :: zipD xs ys
  | _, _ => []
theorem zipD_length : ∀ (xs ys : List D), (zipD xs ys).length = min xs.length ys.length
  | [], _ => by simp [zipD]
  | _ :: _, [] => by simp [zipD]
  | _ :: xs, _ :: ys => by simp only [zipD, List.length_cons, zipD_length xs ys]; omega
theorem zipD_get : ∀ {xs ys : List D} {i : Nat} {d : D}, (zipD xs ys)[i]? = some d → ∃ x y, xs[i]? = some x ∧ ys[i]? = some y ∧ d = .tup [x, y]
  | [], _, _, _, h => by simp [zipD] at h
  | _ :: _, [], _, _, h => by simp [zipD] at h
  | x :: xs, y :: ys, 0, d, h => by simp [zipD] at h; exact ⟨x, y, rfl, rfl, h.symm⟩
  | x :: xs, y :: ys, i + 1, d, h => by
    simp only [zipD, List.getElem?_cons_succ] at h
    obtain ⟨a, b, h1, h2, h3⟩ := zipD_get h
    exact ⟨a, b, by simpa using h1, by simpa using h2, h3⟩
def srcZip : List D → Store → Option Src
  | [d1, d2], S => match d1, d2 with
    | .tup xs, .tup ys => some ⟨zipD xs ys, []⟩
    | d1, d2 => match lstOf S d1, lstOf S d2 with
      | some xs, some ys => some ⟨zipD xs ys, watch d1 xs ++ watch d2 ys⟩
      | _, _ => none
  | _, _ => none
theorem watch_ok {S : Store} {d : D} {xs : List D} (h : lstOf S d = some xs) : ∀ p ∈ watch d xs, S[p.1]? = some (.lst p.2) := by
  cases d <;> simp only [lstOf] at h <;> try cases h
  case lst => simp [watch]
  case fro => simp [watch]
  case loc n =>
    split at h
    · rename_i ys hs
      cases h
      intro p hp; simp [watch] at hp; subst hp; exact hs
    · cases h
theorem jok_zipL {K : PySem.W.Frag} {ρ : Rh} {H : Hp} {S : Store} {a b : Addr} {xs ys : List D} {w1 w2 : List (Nat × List D)} (s1 : Stands K xs w1 a ρ H) (s2 : Stands K ys w2 b ρ H) : JOk K ⟨zipD xs ys, w1 ++ w2⟩ (Itz K a b) ρ H where
  go := fun ρ' H' S' i d f R' ok hd => by
    obtain ⟨vs, q1, r1⟩ := s1.at_ ρ' H' S' f R' fun p hp => ok p (List.mem_append_left _ hp)
    obtain ⟨ws, q2, r2⟩ := s2.at_ ρ' H' S' f R' fun p hp => ok p (List.mem_append_right _ hp)
    obtain ⟨x, y, e1, e2, rfl⟩ := zipD_get hd
    obtain ⟨v, hv, rv⟩ := r1.get e1
    obtain ⟨w, hw, rw'⟩ := r2.get e2
    refine ⟨⟨vs, ws, v, w, q1, q2, hv, hw⟩, fun u H'' yy => ?_⟩
    obtain ⟨T, v', w', rfl, hT, rfl, y1, y2⟩ := yy
    have e3 := y1 vs q1
    have e4 := y2 ws q2
    rw [hv] at e3; cases e3
    rw [hw] at e4; cases e4
    exact ⟨Fr.laid hT, R'.laid hT, .tup (SqT.of upd_same) (RepDs.fr R'.free (Fr.laid hT) _ _ (.cons rv (.cons rw' .nil)))⟩
  stop := fun ρ' H' S' f R' ok => by
    obtain ⟨vs, q1, r1⟩ := s1.at_ ρ' H' S' f R' fun p hp => ok p (List.mem_append_left _ hp)
    obtain ⟨ws, q2, r2⟩ := s2.at_ ρ' H' S' f R' fun p hp => ok p (List.mem_append_right _ hp)
    refine ⟨vs, ws, q1, q2, ?_⟩
    have h1 := r1.length
    have h2 := r2.length
    show vs.length ≤ (zipD xs ys).length ∨ ws.length ≤ (zipD xs ys).length
    rw [zipD_length]; omega
theorem jok_zipT {K : PySem.W.Frag} {ρ : Rh} {H : Hp} {S : Store} {a b : Addr} {xs ys : List D} {vs ws : List V} (R : Rel K ρ H S) (q1 : SqT K H a vs) (r1 : RepDs K ρ H xs vs) (q2 : SqT K H b ws) (r2 : RepDs K ρ H ys ws) : JOk K ⟨zipD xs ys, []⟩ (ItzT K a b) ρ H where
  go := fun ρ' H' S' i d f R' ok hd => by
    obtain ⟨x, y, e1, e2, rfl⟩ := zipD_get hd
    obtain ⟨v, hv, rv⟩ := (RepDs.frh R.free f _ _ r1).get e1
    obtain ⟨w, hw, rw'⟩ := (RepDs.frh R.free f _ _ r2).get e2
    refine ⟨⟨vs, ws, v, w, sqt_frh R.free f q1, sqt_frh R.free f q2, hv, hw⟩, fun u H'' yy => ?_⟩
    obtain ⟨T, v', w', rfl, hT, rfl, y1, y2⟩ := yy
    have e3 := y1 vs (sqt_frh R.free f q1)
    have e4 := y2 ws (sqt_frh R.free f q2)
    rw [hv] at e3; cases e3
    rw [hw] at e4; cases e4
    exact ⟨Fr.laid hT, R'.laid hT, .tup (SqT.of upd_same) (RepDs.fr R'.free (Fr.laid hT) _ _ (.cons rv (.cons rw' .nil)))⟩
  stop := fun ρ' H' S' f R' ok => by
    refine ⟨vs, ws, sqt_frh R.free f q1, sqt_frh R.free f q2, ?_⟩
    have h1 := r1.length
    have h2 := r2.length
    show vs.length ≤ (zipD xs ys).length ∨ ws.length ≤ (zipD xs ys).length
    rw [zipD_length]; omega
theorem im_zip {elts : List Expr} {kk : Nat} {tpos : Pos} {e2 : Expr} (hg : Gl X "zip") (hm : X.mg "zip" = none) (ha : AM X W [e, e2] m)
    (hs : starEach [e, e2] X.env = (false, eval e X.env) :: starEach [e2] X.env := by rfl) (hpl : (backTo pos (starEach [e2] X.env)).any (·.1) = false := by rfl) : IM X W (.Tuple elts kk tpos) (.Call (.Name "zip" p) [e, e2] [] pos) (mSrcA srcZip m) :=
  pi_imp (pi_zipA hg hm ha hs hpl) fun σ H R' h => tA_src (fun ρ H ds vs S src R r hk q => by
    match ds, r, hk with
    | [], _, hk => cases hk
    | [_], _, hk => cases hk
    | _ :: _ :: _ :: _, _, hk => cases hk
    | [d1, d2], r, hk =>
      obtain ⟨v, w, rfl, r1, r2⟩ := reps2 r
      by_cases ht : ∃ xs ys, d1 = .tup xs ∧ d2 = .tup ys
      · obtain ⟨xs, ys, rfl, rfl⟩ := ht
        cases hk
        cases r1 with
        | tup h1 x1 =>
          cases r2 with
          | tup h2 x2 => exact ⟨_, _, _, _, rfl, .inr ⟨h1, h2, q _ (jok_zipT R h1 x1 h2 x2)⟩⟩
      · have hk : (match lstOf S d1, lstOf S d2 with
          | some xs, some ys => some (Src.mk (zipD xs ys) (watch d1 xs ++ watch d2 ys))
          | _, _ => none) = some src := by
          rw [← hk]
          cases d1 <;> cases d2 <;> first | rfl | exact absurd ⟨_, _, rfl, rfl⟩ ht
        cases h1 : lstOf S d1 with
        | none => rw [h1] at hk; cases hk
        | some xs =>
          cases h2 : lstOf S d2 with
          | none => rw [h1, h2] at hk; cases hk
          | some ys =>
            rw [h1, h2] at hk
            cases hk
            obtain ⟨a, rfl, st1⟩ := stands_of R r1 h1
            obtain ⟨b, rfl, st2⟩ := stands_of R r2 h2
            obtain ⟨vs1, q1, _⟩ := st1.at_ ρ H S .refl R (watch_ok h1)
            obtain ⟨vs2, q2, _⟩ := st2.at_ ρ H S .refl R (watch_ok h2)
            exact ⟨a, b, _, _, rfl, .inl ⟨q1, q2, q _ (jok_zipL (S := S) st1 st2)⟩⟩) h
end

/-! ### for -/
def stepF (r : Option (Fl × Env × Store)) (k : Env → Store → Option (Fl × Env × Store)) : Option (Fl × Env × Store) := match r with
  | some (.nx, e, S) => k e S
  | some (.ct, e, S) => k e S
  | some (.bk, e, S) => some (.nx, e, S)
  | r => r
open Classical in
noncomputable def forM (src : Src) (g : MG) (b : MS) : List D → MS
  | [], e, S => if src.ok S then some (.nx, e, S) else none
  | d :: ds, e, S => if src.ok S then (g d e S).bind fun e1 => stepF (b e1 S) (forM src g b ds) else none
noncomputable def sFor (mi : MI) (g : MG) (b : MS) : MS := fun e S => (mi e S).st e fun src S1 => forM src g b src.xs e S1
theorem PostS.step {K : PySem.W.Frag} {mg : Str → Option Value} {W : WX} {ρ : Rh} {H : Hp} {Dn : Ends} {k : Env → Store → Option (Fl × Env × Store)} {N : L2.St → Hp → Prop} {r : Option (Fl × Env × Store)} (q : PostS K mg W ρ H Dn (stepF r k))
    (hk : ∀ ρ' H' e S σ', Fr ρ H ρ' H' → Rel K ρ' H' S → EnvRel K ρ' H' σ' e → PostS K mg W ρ' H' Dn (k e S) → N σ' H') : PostS K mg W ρ H { Dn with nx := N, ct := N, bk := Dn.nx } r := by
  cases r with
  | none => exact q
  | some x =>
    obtain ⟨fl, e, S⟩ := x
    cases fl with
    | nx => exact fun ρ' H' σ' f R' he' => hk ρ' H' e S σ' f R' he' (PostS.fr f q)
    | ct => exact fun ρ' H' σ' f R' he' => hk ρ' H' e S σ' f R' he' (PostS.fr f q)
    | bk => exact q
    | rt d => exact q
    | ex c => exact q
section
variable {X : Cx} {W : WX} {tg iter c : Expr} {body : List Stmt} {mi : MI} {g : MG} {sl : List Nat} {sb : MS} {mt : MT} {pos : Pos}
theorem sm_for (hp : PassesOwn (model X.prog X.w) X.A X.env X.xe) (hc : X.calm = true) (hi : IM X W tg iter mi) (hg : GM X tg g sl) (hb : BM X W body sb) (hs : ∀ x, foldedSetIterable iter X.env x = pure x := by intro _; rfl) :
    SM X W (.For tg iter body [] pos) (sFor mi g sb) :=
  ps_imp (ps_for hp hc hi hg hb hs) fun Dn σ H ⟨ρ, e, S, he, R, q⟩ => ⟨ρ, e, S, he, R, (PostS.st R he q).mono fun src S1 ρ1 H1 f1 R1 q J hJ => by
    refine ⟨fun i m σ' H' => m = src.xs.length - i ∧ i ≤ src.xs.length ∧ ∃ ρ' e' S', Fr ρ1 H1 ρ' H' ∧ Rel X.K ρ' H' S' ∧ EnvRel X.K ρ' H' σ' e' ∧ PostS X.K X.mg W ρ' H' Dn (forM src g sb (src.xs.drop i) e' S'),
      ⟨_, rfl, Nat.zero_le _, ρ1, e, S1, Fr.refl _ _, R1, he.fr R.free f1, q⟩, ?_⟩
    rintro i m σ' H' ⟨rfl, hi, ρ', e', S', f, R', he', q⟩
    rcases Nat.lt_or_ge i src.xs.length with hlt | hge
    · rw [List.drop_eq_getElem_cons hlt] at q
      unfold forM at q
      by_cases hok : src.ok S'
      · rw [if_pos hok] at q
        obtain ⟨hgo, hy⟩ := hJ.go ρ' H' S' i _ (.of f) R' hok (List.getElem?_eq_getElem hlt)
        cases hgd : g src.xs[i] e' S' with
        | none => rw [hgd] at q; exact q.elim
        | some e1 =>
          rw [hgd] at q
          have q : PostS X.K X.mg W ρ' H' Dn (stepF (sb e1 S') (forM src g sb (src.xs.drop (i + 1)))) := q
          refine .inr ⟨hgo, fun σ2 H2 => i + 1 ≤ src.xs.length ∧ ∃ ρ' e' S', Fr ρ1 H1 ρ' H2 ∧ Rel X.K ρ' H2 S' ∧ EnvRel X.K ρ' H2 σ2 e' ∧ PostS X.K X.mg W ρ' H2 Dn (forM src g sb (src.xs.drop (i + 1)) e' S'),
            fun σ2 H2 n => ⟨src.xs.length - (i + 1), by omega, rfl, n⟩, fun x H'' yy => ?_⟩
          obtain ⟨f2, R2, r2⟩ := hy x H'' yy
          exact ⟨ρ', e', S', _, e1, he'.fr R'.free f2, R2, r2, hgd, fun σ2 he2 _ => ⟨ρ', e1, S', he2, R2, PostS.step (PostS.fr f2 q) fun ρ3 H3 e3 S3 σ3 f3 R3 he3 q3 =>
            ⟨hlt, ρ3, e3, S3, (f.trans f2).trans f3, R3, he3, q3⟩⟩⟩
      · rw [if_neg hok] at q; exact q.elim
    · have e0 : i = src.xs.length := by omega
      subst e0
      rw [List.drop_length] at q
      unfold forM at q
      by_cases hok : src.ok S'
      · rw [if_pos hok] at q
        exact .inl ⟨hJ.stop ρ' H' S' (.of f) R' hok, q ρ' H' σ' (Fr.refl _ _) R' he'⟩
      · rw [if_neg hok] at q; exact q.elim⟩
/-! ### while -/
def whileM (c : MT) (b : MS) : Nat → MS
  | 0, _, _ => none
  | n + 1, e, S => (c e S).st e fun t S1 => if t = true then stepF (b e S1) (whileM c b n) else some (.nx, e, S1)
def sWhile (n : Nat) (c : MT) (b : MS) : MS := whileM c b n
theorem sm_while (n : Nat) (hp : PassesOwn (model X.prog X.w) X.A X.env X.xe) (hc : TM X W c mt) (hb : BM X W body sb) : SM X W (.While c body [] pos) (sWhile n mt sb) :=
  ps_imp (ps_while hp hc hb) fun Dn σ H ⟨ρ, e, S, he, R, q⟩ => by
    refine ⟨fun m σ' H' => ∃ ρ' e' S', Rel X.K ρ' H' S' ∧ EnvRel X.K ρ' H' σ' e' ∧ PostS X.K X.mg W ρ' H' Dn (whileM mt sb m e' S'), ⟨n, ρ, e, S, R, he, q⟩, ?_⟩
    rintro m σ' H' ⟨ρ', e', S', R', he', q⟩
    cases m with
    | zero => exact q.elim
    | succ m =>
      unfold whileM at q
      refine ⟨ρ', e', S', he', R', (PostS.st R' he' q).mono fun t S1 ρ1 H1 f1 R1 q => ?_⟩
      cases t with
      | true =>
        rw [if_pos rfl] at q ⊢
        refine ⟨fun σ2 H2 => ∃ ρ' e' S', Rel X.K ρ' H2 S' ∧ EnvRel X.K ρ' H2 σ2 e' ∧ PostS X.K X.mg W ρ' H2 Dn (whileM mt sb m e' S'), fun σ2 H2 h => ⟨m, Nat.lt_succ_self _, h⟩, ρ1, e', S1, he'.fr R'.free f1, R1, PostS.step q fun ρ3 H3 e3 S3 σ3 f3 R3 he3 q3 => ⟨ρ3, e3, S3, R3, he3, q3⟩⟩
      | false =>
        rw [if_neg (by decide)] at q ⊢
        exact q ρ1 H1 σ' (Fr.refl _ _) R1 (he'.fr R'.free f1)
end
end M


set_option Elab.async false
set_option linter.all false
set_option maxRecDepth 100000
set_option maxHeartbeats 4000000
namespace M
open PySem PySem.Spec PyProof.Rows L2 RZ
variable [Tabs]

theorem Res.bind_assoc {α β γ : Type} (r : Res α) (f : α → Store → Res β) (g : β → Store → Res γ) : (r.bind f).bind g = r.bind fun a S => (f a S).bind g := by cases r <;> rfl
def noEx {α : Type} : Res α → Res α
  | .ok a S => .ok a S
  | _ => .bad
@[simp] theorem noEx_ok {α : Type} (a : α) (S : Store) : noEx (.ok a S) = .ok a S := rfl
@[simp] theorem noEx_ex {α : Type} (c : Str) (S : Store) : noEx (.ex c S : Res α) = .bad := rfl
@[simp] theorem noEx_bad {α : Type} : noEx (.bad : Res α) = .bad := rfl
/-- no exception -/
abbrev W0 : WX := fun _ _ _ _ => False
def wipeE (e : Env) : List Nat → Env
  | [] => e
  | v :: vs => (wipeE e vs).set v none
theorem wipeE_length (e : Env) : ∀ vs : List Nat, (wipeE e vs).length = e.length
  | [] => rfl
  | v :: vs => by unfold wipeE; rw [List.length_set, wipeE_length e vs]
theorem EnvRel.unset {K : PySem.W.Frag} {ρ : Rh} {H : Hp} {σ : L2.St} {e : Env} (h : EnvRel K ρ H σ e) (i : Nat) : EnvRel K ρ H (σ.set i none) (e.set i none) := by
  refine ⟨by simp [h.1], fun j d q => ?_⟩
  by_cases hj : i = j
  · subst hj
    have hi : i < e.length := by have := (List.getElem?_eq_some_iff.mp q).1; simpa using this
    rw [List.getElem?_set_self hi] at q; cases q
  · rw [List.getElem?_set_ne hj] at q
    rw [List.getElem?_set_ne hj]
    exact h.2 j d q
theorem EnvRel.wipe {K : PySem.W.Frag} {ρ : Rh} {H : Hp} {σ : L2.St} {e : Env} (h : EnvRel K ρ H σ e) : ∀ vs, EnvRel K ρ H (wipe σ vs) (wipeE e vs)
  | [] => h
  | v :: vs => (EnvRel.wipe h vs).unset v

theorem wipe_wipe {σ : L2.St} {vs : List Nat} : ∀ {us : List Nat}, (∀ i ∈ us, i ∈ vs) → wipe (wipe σ us) vs = wipe σ vs
  | [], _ => rfl
  | u :: us, h => by
    have e : wipe σ (u :: us) = (wipe σ us).set u none := rfl
    rw [e, wipe_set (h u (by simp)), wipe_wipe fun i hi => h i (List.mem_cons_of_mem _ hi)]
/-! ### what stands in a hidden list does not matter -/
section
variable {K : PySem.W.Frag} {ρ : Rh} {H : Hp} {p : Addr} {us ws : List V}
theorem sqt_ne {a : Addr} {vs : List V} {o : HO} (hp : H p = some (.lst us)) (h : SqT K H a vs) : SqT K (upd H p o) a vs := by
  rcases h with (h | ⟨q, h⟩) | h
  · exact .inl (.inl (by rw [upd_ne (fun z => by rw [z, hp] at h; cases h)]; exact h))
  · exact .inl (.inr ⟨q, by rw [upd_ne (fun z => by rw [z, hp] at h; cases h)]; exact h⟩)
  · exact .inr h
mutual
theorem RepD.putH (hp : H p = some (.lst us)) (mh : p ∈ ρ.h) : ∀ (d : D) (v : V), RepD K ρ H d v → RepD K ρ (upd H p (.lst ws)) d v
  | .non, _, h => by cases h; exact .non
  | .bl b, _, h => by cases h; exact .bl b
  | .int i, _, h => by cases h; exact .int i
  | .str x, _, h => by cases h; exact .str x
  | .tup ds, _, h => by
    cases h with
    | tup hs hd => exact .tup (sqt_ne hp hs) (RepDs.putH hp mh ds _ hd)
  | .lst ds, _, h => by
    cases h with
    | @lst a vs _ hs hn hh hd =>
      have ne : a ≠ p := fun z => hh (by rw [z]; exact mh)
      exact .lst (by rw [upd_ne ne]; exact hs) hn hh (RepDs.putH hp mh ds _ hd)
  | .fro ds, _, h => by
    cases h with
    | @fro a vs _ hs hn hh hd =>
      have ne : a ≠ p := fun z => hh (by rw [z]; exact mh)
      exact .fro (by
        rcases hs with hs | ⟨o, hs⟩
        · exact .inl (by rw [upd_ne ne]; exact hs)
        · exact .inr ⟨o, by rw [upd_ne ne]; exact hs⟩) hn hh (RepDs.putH hp mh ds _ hd)
    | frk hk hd => exact .frk hk (RepDs.putH hp mh ds _ hd)
  | .loc n, _, h => by
    cases h with
    | loc e => exact .loc e
  | .ref a, _, h => by cases h; exact .ref a
  | .ty n, _, h => by cases h; exact .ty n
theorem RepDs.putH (hp : H p = some (.lst us)) (mh : p ∈ ρ.h) : ∀ (ds : List D) (vs : List V), RepDs K ρ H ds vs → RepDs K ρ (upd H p (.lst ws)) ds vs
  | [], _, h => by cases h; exact .nil
  | d :: ds, _, h => by
    cases h with
    | cons h1 h2 => exact .cons (RepD.putH hp mh d _ h1) (RepDs.putH hp mh ds _ h2)
end
theorem Rel.putH {S : Store} (r : Rel K ρ H S) (hp : H p = some (.lst us)) (mh : p ∈ ρ.h) (hn : p ∉ ρ.l) : Rel K ρ (upd H p (.lst ws)) S :=
  ⟨r.len, r.nd, fun n o a e1 e2 => by
    have q := r.at_ n o a e1 e2
    have ne : a ≠ p := fun z => hn (z ▸ List.mem_of_getElem? e2)
    cases o with
    | lst ds => obtain ⟨vs, h1, h2⟩ := q; exact ⟨vs, by rw [upd_ne ne]; exact h1, RepDs.putH hp mh _ _ h2⟩,
   fun a m => by
    by_cases e : a = p
    · exact ⟨ws, by rw [e, upd_same]⟩
    · obtain ⟨vs, h1⟩ := r.hid a m
      exact ⟨vs, by rw [upd_ne e]; exact h1⟩,
   fun a m => by
    exact tabN_upd (r.tab a m) fun o' e => by rw [hp] at e; exact ⟨us, (Option.some.inj e).symm⟩⟩
theorem EnvRel.putH {σ : L2.St} {e : Env} (r : EnvRel K ρ H σ e) (hp : H p = some (.lst us)) (mh : p ∈ ρ.h) : EnvRel K ρ (upd H p (.lst ws)) σ e := ⟨r.1, fun i d q => let ⟨v, a, b⟩ := r.2 i d q; ⟨v, a, RepD.putH hp mh d v b⟩⟩
end

/-! ### the mirror -/
open Classical in
noncomputable def lcM (src : Src) (g : MG) (mt : MT) (me : ME) (e : Env) : List D → Store → Res (List D)
  | [], S => if src.ok S then .ok [] S else .bad
  | d :: ds, S => if src.ok S then match g d e S with
    | some e1 => (noEx (mt e1 S)).bind fun b S2 => if b = true then (noEx (me e1 S2)).bind fun y S3 => (lcM src g mt me e ds S3).bind fun ys S4 => .ok (y :: ys) S4 else lcM src g mt me e ds S2
    | none => .bad else .bad
noncomputable def mLc (mi : MI) (g : MG) (mt : MT) (me : ME) (vs : List Nat) : MA := fun e S => (mi e S).bind fun src S1 => if src.xs.length ≤ sizeLine then lcM src g mt me (wipeE e vs) src.xs S1 else .bad
def mYes : MT := fun _ S => .ok true S
abbrev TsM (X : Cx) (ifs : List Expr) (mt : MT) : Prop := PTs X ifs (tT X.K X.mg W0 mt)
theorem ptsm_nil {X : Cx} : TsM X [] mYes := ⟨fun pins s σ H Q I ⟨ρ, e, S, he, R, q⟩ => pts_nil.run pins s σ H Q I (q ρ H (Fr.refl _ _) R)⟩
theorem ptsm_one {X : Cx} {c : Expr} {mt : MT} (h : TM X W0 c mt) : TsM X [c] mt := pts_one h
section
variable {X : Cx} {W : WX} {mi : MI} {g : MG} {sl : List Nat} {mt : MT} {me : ME} {wi : TI}
theorem noEx_post {α : Type} {K : PySem.W.Frag} {mg : Str → Option Value} {P : α → Store → Rh → Hp → Prop} {ρ : Rh} {H : Hp} {σ : L2.St} {r : Res α} (h : ∀ a S, r = .ok a S → ∀ ρ' H', Fr ρ H ρ' H' → Rel K ρ' H' S → P a S ρ' H') (nb : ∃ a S, r = .ok a S) : Post K mg W0 P ρ H σ r := by
  obtain ⟨a, S, rfl⟩ := nb
  exact h a S rfl
theorem lc_imp {vs : List Nat} (hsl : ∀ i ∈ sl, i ∈ vs) {σ : L2.St} {H : Hp} {Q : VK} (h : tN X.K X.mg W (mLc mi g mt me vs) σ H Q) :
    tLc (tI X.K X.mg W mi) (tG X.K g sl) (tT X.K X.mg W0 mt) (tE X.K X.mg W0 me) vs σ H Q := by
  obtain ⟨ρ, e, S, he, R, q⟩ := h
  refine ⟨ρ, e, S, he, R, (PostN.bind q).mono fun src S1 ρ1 H1 f1 R1 q J hJ Dl hD => ?_⟩
  by_cases hz : src.xs.length ≤ sizeLine
  case neg => rw [if_neg hz] at q; exact q.elim
  rw [if_pos hz] at q
  have he1 := he.fr R.free f1
  have hDl := R1.newh hD
  -- the invariant
  let Iv : Nat → Hp → Prop := fun i H' => i ≤ src.xs.length ∧ ∃ ρ' S' accD accV, Fr ρ1 H1 ρ' H' ∧ Rel X.K (ρ'.hide Dl) H' S' ∧ Dl ∉ ρ'.l ∧ H' Dl = some (.lst accV) ∧ RepDs X.K (ρ'.hide Dl) H' accD accV ∧ accD.length ≤ i ∧
    PostN X.K X.mg W ρ1 H1 σ Q ((lcM src g mt me (wipeE e vs) (src.xs.drop i) S').bind fun ys S3 => .ok (accD ++ ys) S3)
  refine ⟨fun i m H' => m = src.xs.length - i ∧ Iv i H', ⟨_, rfl, Nat.zero_le _, ρ1, S1, [], [], Fr.laid hD, R1.laidH hD, hDl.1, upd_same, .nil, Nat.le_refl _, ?_⟩, ?_⟩
  · have e0 : (lcM src g mt me (wipeE e vs) (src.xs.drop 0) S1).bind (fun ys S3 => .ok ([] ++ ys) S3) = lcM src g mt me (wipeE e vs) src.xs S1 := by
      rw [List.drop_zero]
      cases lcM src g mt me (wipeE e vs) src.xs S1 <;> rfl
    rw [e0]; exact q
  rintro i m H' ⟨rfl, hi, ρ', S', accD, accV, f, R', hn, hH, rx, hl, q⟩
  have fh : FrH ρ1 H1 (ρ'.hide Dl) H' := .hide f hD
  rcases Nat.lt_or_ge i src.xs.length with hlt | hge
  · rw [List.drop_eq_getElem_cons hlt] at q
    unfold lcM at q
    by_cases hok : src.ok S'
    case neg => rw [if_neg hok] at q; exact q.elim
    rw [if_pos hok] at q
    obtain ⟨hgo, hy⟩ := hJ.go _ H' S' i _ fh R' hok (List.getElem?_eq_getElem hlt)
    refine .inr ⟨hgo, Iv (i + 1), fun H2 n => ⟨src.xs.length - (i + 1), by omega, rfl, n⟩, fun x H'' yy => ?_⟩
    obtain ⟨f2, R2, r2⟩ := hy x H'' yy
    cases hgd : g src.xs[i] (wipeE e vs) S' with
    | none => rw [hgd] at q; exact q.elim
    | some e1 =>
      rw [hgd] at q
      dsimp only at q
      have he2 : EnvRel X.K (ρ'.hide Dl) H'' (wipe σ vs) (wipeE e vs) := ((he1.frh R1.free fh).fr R'.free f2).wipe vs
      refine ⟨_, _, S', _, e1, he2, R2, r2, hgd, fun σ2 hσ2 hw => ⟨(hw vs hsl).trans (wipe_wipe fun _ h => h), ?_⟩⟩
      have hH2 : H'' Dl = some (.lst accV) := f2.keep _ _ hH hn fun _ z => by cases z
      have rx2 := RepDs.fr R'.free f2 _ _ rx
      -- a frame from ρ'.hide to one more
      have fr_of : ∀ {ρ3 H3}, Fr (ρ'.hide Dl) H'' ρ3 H3 → ∃ ρ4, ρ3 = ρ4.hide Dl ∧ Fr ρ1 H1 ρ4 H3 ∧ Dl ∉ ρ4.l ∧ H3 Dl = some (.lst accV) := fun {ρ3 H3} f3 => by
        obtain ⟨l, e3, hl3⟩ := f3.new
        refine ⟨⟨ρ'.l ++ l, ρ'.h⟩, e3, ?_, ?_, f3.keep _ _ hH2 hn fun _ z => by cases z⟩
        · refine f.trans ⟨⟨l, rfl, fun a m => ?_⟩, fun a o h n nt => f3.keep a o (f2.keep a o h n nt) n nt, fun a o h => let ⟨o', z⟩ := f2.live a o h; f3.live a o' z⟩
          cases z : H' a with
          | none => rfl
          | some o => obtain ⟨o', z'⟩ := f2.live a o z; rw [hl3 a m] at z'; cases z'
        · intro m
          rcases List.mem_append.mp m with m | m
          · exact hn m
          · rw [hl3 _ m] at hH2; cases hH2
      cases hm : mt e1 S' with
      | bad => rw [hm] at q; exact q.elim
      | ex c S2 => rw [hm] at q; exact q.elim
      | ok b S2 =>
        rw [hm] at q
        simp only [noEx_ok, Res.bind_ok] at q
        refine ⟨_, e1, S', hσ2, R2, ?_⟩
        rw [hm]
        intro ρ3 H3 f3 R3
        obtain ⟨ρ4, rfl, f4, hn4, hH4⟩ := fr_of f3
        have rx3 := RepDs.fr R2.free f3 _ _ rx2
        cases b with
        | false =>
          rw [if_neg (by decide)] at q ⊢
          exact ⟨hlt, ρ4, S2, accD, accV, f4, R3, hn4, hH4, rx3, Nat.le_succ_of_le hl, q⟩
        | true =>
          rw [if_pos rfl] at q ⊢
          cases hm2 : me e1 S2 with
          | bad => rw [hm2] at q; exact q.elim
          | ex c S3 => rw [hm2] at q; exact q.elim
          | ok y S3 =>
            rw [hm2] at q
            simp only [noEx_ok, Res.bind_ok] at q
            refine ⟨_, e1, S2, hσ2.fr R2.free f3, R3, ?_⟩
            rw [hm2]
            intro ρ5 H5 f5 R5 v r5
            obtain ⟨ρ6, rfl, f6, hn6, hH6⟩ := fr_of (f3.trans f5)
            have rx5 := RepDs.fr R3.free f5 _ _ rx3
            have hzV : accV.length < sizeLine := by rw [← rx5.length]; omega
            refine ⟨accV, hH6, hzV, hlt, ρ6, S3, accD ++ [y], accV ++ [v], ?_, R5.putH hH6 List.mem_cons_self hn6, hn6, upd_same, RepDs.putH hH6 List.mem_cons_self _ _ (rx5.append (.cons r5 .nil)), by simp; omega, ?_⟩
            · obtain ⟨l, e6, hl6⟩ := f6.new
              refine ⟨⟨l, e6, hl6⟩, fun a o h n nt => ?_, fun a o h => ?_⟩
              · have ne : a ≠ Dl := fun z => by rw [z, hD] at h; cases h
                rw [upd_ne ne]; exact f6.keep a o h n nt
              · have ne : a ≠ Dl := fun z => by rw [z, hD] at h; cases h
                rw [upd_ne ne]; exact f6.live a o h
            · rw [Res.bind_assoc] at q
              simp only [Res.bind_ok] at q
              have e7 : (fun (ys : List D) (S3 : Store) => (Res.ok (accD ++ [y] ++ ys) S3 : Res (List D))) = fun ys S3 => .ok (accD ++ y :: ys) S3 := by
                funext ys S3; simp
              rw [e7]; exact q
  · have e0 : i = src.xs.length := by omega
    subst e0
    rw [List.drop_length] at q
    unfold lcM at q
    by_cases hok : src.ok S'
    case neg => rw [if_neg hok] at q; exact q.elim
    rw [if_pos hok] at q
    simp only [Res.bind_ok, List.append_nil] at q
    exact .inl ⟨hJ.stop _ H' S' fh R' hok, q ρ' H' Dl accV f R' hD hn hH rx⟩
variable {elt tg iter : Expr} {ifs : List Expr} {scope : Scope} {own : List (Str × Nat)} {pos spos py : Pos} {i : Nat} {y : Str}
theorem nm_lc (own : List (Str × Nat)) (hc : X.calm = true) (hN : X.N.Nodup) (hi : IM X W tg iter mi) (ok : BlkOk X.N X.env.scope scope own) (hsl : ∀ i ∈ sl, i ∈ own.map (·.2))
    (hg : ∀ (s : Shared) (H : Hp) (C : Addr) (cl : List (Str × Addr)) (fp : List Addr), GM (X.blk s H scope (compEnvC scope cl C X.env) fp) tg g sl) (ht : ∀ (s : Shared) (H : Hp) (C : Addr) (cl : List (Str × Addr)) (fp : List Addr), TsM (X.blk s H scope (compEnvC scope cl C X.env) fp) ifs mt)
    (he : ∀ (s : Shared) (H : Hp) (C : Addr) (cl : List (Str × Addr)) (fp : List Addr), EM (X.blk s H scope (compEnvC scope cl C X.env) fp) W0 elt me) (hs : ∀ x, foldedSetIterable iter X.env x = pure x := by intro _; rfl) :
    NM X W (.ListComp elt [⟨tg, iter, ifs, 0⟩] scope pos) (mLc mi g mt me (own.map (·.2))) :=
  pe_imp (pe_lc hc hN hi ok hg ht he hs) fun σ H Q h => lc_imp hsl h
theorem tN_set {ma : MA} {Dn : Ends} {σ : L2.St} {H : Hp} (f : MA → ME) (hf : f = asV ∨ f = asL)
    (h : tS X.K X.mg W (sSet (gN i) (f ma)) Dn σ H) : tN X.K X.mg W ma σ H fun v H1 => gName i v σ H1 Dn.nx := by
  have key : tE X.K X.mg W (f ma) σ H fun v H1 => gName i v σ H1 Dn.nx :=
    tE_st (k := fun d e S1 => (gN i d e S1).bind fun e1 => some (.nx, e1, S1)) (fun ρ H d v e S he R r q => q ρ H _ (Fr.refl _ _) R (he.set i r)) h
  obtain ⟨ρ, e, S, he, R, q⟩ := key
  refine ⟨ρ, e, S, he, R, ?_⟩
  rcases hf with rfl | rfl
  · unfold asV at q
    cases hk : ma e S with
    | bad => rw [hk] at q; exact q
    | ex c S1 => rw [hk] at q; exact q
    | ok ds S1 =>
      rw [hk] at q
      exact fun ρ' H' p vs f R' hp hn e1 r => q ρ' H' f R'.unhide _ (.lst e1 hn (fun m => by
        obtain ⟨ws, z⟩ := R.hid p (by rw [← f.hid]; exact m)
        rw [hp] at z; cases z) (RepDs.sees Sees.unhide _ _ r))
  · unfold asL at q
    cases hk : ma e S with
    | bad => rw [hk] at q; exact q
    | ex c S1 => rw [hk] at q; exact q
    | ok ds S1 =>
      rw [hk] at q
      exact fun ρ' H' p vs f R' hp hn e1 r => q _ H' (f.shown hp) (R'.shown hn e1 r) _ (.loc (by
        show (ρ'.l ++ [p])[S1.length]? = some p
        have : ρ'.l.length = S1.length := R'.len
        rw [List.getElem?_append_right (by omega), this]; simp))
/-- y = [..] -/
theorem sm_setLc (f : MA → ME) (hf : f = asV ∨ f = asL) (own : List (Str × Nat)) (hc : X.calm = true) (hN : X.N.Nodup) (hy : X.N[i]? = some y) (hyl : X.env.scope.names.lookup y = some .local)
    (hsw : swapsWith (.ListComp elt [⟨tg, iter, ifs, 0⟩] scope pos) (some (.Name y py)) spos.line X.env = pure true) (hi : IM X W tg iter mi) (ok : BlkOk X.N X.env.scope scope own) (hsl : ∀ i ∈ sl, i ∈ own.map (·.2))
    (hg : ∀ (s : Shared) (H : Hp) (C : Addr) (cl : List (Str × Addr)) (fp : List Addr), GM (X.blk s H scope (compEnvC scope cl C X.env) fp) tg g sl) (ht : ∀ (s : Shared) (H : Hp) (C : Addr) (cl : List (Str × Addr)) (fp : List Addr), TsM (X.blk s H scope (compEnvC scope cl C X.env) fp) ifs mt)
    (he : ∀ (s : Shared) (H : Hp) (C : Addr) (cl : List (Str × Addr)) (fp : List Addr), EM (X.blk s H scope (compEnvC scope cl C X.env) fp) W0 elt me) (hs : ∀ x, foldedSetIterable iter X.env x = pure x := by intro _; rfl) :
    SM X W (.Assign [.Name y py] (.ListComp elt [⟨tg, iter, ifs, 0⟩] scope pos) spos) (sSet (gN i) (f (mLc mi g mt me (own.map (·.2))))) :=
  ps_imp (ps_setLc hc hN hy hyl hsw hi ok hg ht he hs) fun Dn σ H h => lc_imp hsl (tN_set f hf h)
end
end M


set_option Elab.async false
set_option linter.all false
set_option maxRecDepth 100000
set_option maxHeartbeats 4000000
namespace M
open PySem PySem.Spec PyProof.Rows L2 GenW
variable [Tabs]

/-- the context of a generator expression's frame -/
abbrev genCx (X : Cx) (s : Shared) (H : Hp) (cenv : PySem.Env) (fp : List Addr) (p : Addr × Obj) : Cx :=
  { X with A := X.A.in1.in1.deeper cenv, s_0 := s, H_0 := H, env := cenv, outer := X.stack, stack := cenv :: X.stack, ex := fp, fn := fun _ => false, pn := [p], xe := fun _ _ => False }
theorem over_gen {A : Around} {elt : Expr} {gs : List Comprehension} {scope : Scope} {pos : Pos} {it acc : Value} {env : PySem.Env} : A.over (.compLoop (.GeneratorExp elt gs scope pos) 0 it acc env) [] = A.deeper env := by
  first
    | rfl
    | (obtain ⟨hd, d, fr, gs, u⟩ := A; simp [Around.over, Around.deeper, marksOver, frameCount, unitsOf, envsOf, guardsOf, pushEnvs, pushGuards, Code.envs, Code.env?, Code.isFrame, Code.guards, Code.isGuard, Code.weight, Code.frames, Code.isCreation, Code.isCaller, Code.cUnits])
section
variable {X : Cx} {pins : List (Addr × Obj)} {σ : L2.St} {H : Hp} {s : Shared}
theorem gen_start {scope : Scope} {own : List (Str × Nat)} {fp : List Addr} (I : Inv X pins σ H s) (ok : BlkOk X.N X.env.scope scope own) (hN : X.N.Nodup) (hfp : ∀ b ∈ fp, FpOk X pins H b ∧ b < s.heap.objs.size)
    (hcell : ∀ y ∈ scope.names, y.2 ≠ .cell) (hh : X.A.handled = none) {h' : Heap} {it code : Value}
    (hn' : h'.Ns s.heap.objs.size (fun y => if y = ".0" then some it else none)) (hs' : Heap.SameBut s.heap.objs.size (s.heap.push { cls := .type "frame", data := .dict #[] }) h')
    (go : Obj) (hgd : ∀ v, go.data ≠ .cell v) (hgf : (h'.push go).get? h'.objs.size = some go) (gs : GenState) (hgb : gs.bare = true) (tk : Nat) :
    Inv (genCx X s H (genEnv scope (cloFrom X.env.cells scope.names []) s.heap.objs.size code builtinsNs X.env) fp (h'.objs.size, go)) [] (wipe σ (own.map (·.2))) H { s with gens := s.gens.push gs, toks := tk, heap := h'.push go } := by
  have hsz : h'.objs.size = s.heap.objs.size + 1 := by rw [hs'.1, Heap.size_push]
  have kp : ∀ b o, s.heap.get? b = some o → (h'.push go).get? b = some o := fun b o e => Heap.get?_push_of_some _ (hs'.extBut b o (Nat.ne_of_lt (Heap.lt_size e)) (Heap.get?_push_of_some _ e))
  have hfree : ∀ y ∈ scope.names, y.2 = .free → ∃ c, X.env.cells.lookup y.1 = some c := fun y hy e => by
    rcases ok.free y hy e with k | k
    · exact I.ok.has _ (.inl k)
    · exact I.ok.has _ (.inr k)
  generalize hcenv : genEnv scope (cloFrom X.env.cells scope.names []) s.heap.objs.size code builtinsNs X.env = cenv
  have hL : cenv.locals = s.heap.objs.size := by rw [← hcenv]; rfl
  have hfr : cenv.frame = some s.heap.objs.size := by rw [← hcenv]; rfl
  have hcl : cenv.cells = cloFrom X.env.cells scope.names [] := by rw [← hcenv]; rfl
  have hsc : cenv.scope = scope := by rw [← hcenv]; rfl
  have cm : ∀ {y c}, (y, c) ∈ cloFrom X.env.cells scope.names [] → X.env.cells.lookup y = some c ∧ c < s.heap.objs.size := fun {y c} hm => by
    rcases cloFrom_mem hm with hm | ⟨h1, rfl⟩
    · cases hm
    · obtain ⟨c, hc⟩ := hfree _ h1 rfl
      rw [hc]
      obtain ⟨w, z⟩ := I.cell _ _ hc
      exact ⟨rfl, z.lt⟩
  have mem : ∀ {y c}, cenv.cells.lookup y = some c → X.env.cells.lookup y = some c ∧ c < s.heap.objs.size := fun {y c} e => by
    rw [hcl] at e
    exact cm (PySem.mem_of_lookup e)
  have look : ∀ {y}, scope.names.lookup y = some .free → ∃ c, cenv.cells.lookup y = some c ∧ X.env.cells.lookup y = some c := fun {y} hl => by
    have hy : (y, NameKind.free) ∈ scope.names := PySem.mem_of_lookup hl
    obtain ⟨c', e'⟩ := mem_lookup (cloFrom_has (cells := X.env.cells) (acc := []) hy)
    rw [← hcl] at e'
    exact ⟨c', e', (mem e').1⟩
  have young : ∀ b, s.heap.objs.size ≤ b → H b = none ∧ b ∉ frs X.stack := fun b hb => ⟨I.hok.fresh hb, fun m => by
    rcases List.mem_cons.mp (I.stkSub b m) with z | z
    · have := I.lt; rw [z] at hb; exact absurd (Nat.lt_of_lt_of_le this hb) (Nat.lt_irrefl _)
    · exact I.nofs hb z⟩
  have hlt : s.heap.objs.size < h'.objs.size := by rw [hsz]; exact Nat.lt_succ_self _
  have okG : (genCx X s H cenv fp (h'.objs.size, go)).Ok := by
    refine ⟨I.ok.mod, by show cenv.scope.kind = _; rw [hsc]; exact ok.kind, by show cenv.globals = _; rw [← hcenv]; exact I.ok.glob, by show cenv.builtins = _; rw [← hcenv]; rfl, by show s.heap.objs.size ≤ cenv.locals; rw [hL]; exact Nat.le_refl _,
      fun y z c e1 e2 => I.ok.inj y z c (mem e1).1 (mem e2).1, fun y hy => ?_, fun y c z e => ?_, fun _ => hh, ?_, .inr ⟨rfl, by show cenv.frame = some cenv.locals; rw [hfr, hL]⟩,
      fun b hb => ⟨by show b ≠ cenv.locals; rw [hL]; exact Nat.ne_of_lt (hfp b hb).2, fun y c e => (hfp b hb).1.2.2.2.2.1 y c (mem e).1⟩, I.bs, Nat.le_trans I.ok.bsz I.sz, fun b o e hb => ?_, fun b hb z => ?_, I.stack, I.stkFree⟩
    · show ∃ c, cenv.cells.lookup y = some c
      have hk : scope.names.lookup y = some .cell ∨ scope.names.lookup y = some .free := by rw [← hsc]; exact hy
      rcases hk with k | k
      · exact absurd rfl (hcell _ (PySem.mem_of_lookup k))
      · obtain ⟨c, h1, _⟩ := look k; exact ⟨c, h1⟩
    · cases z
    · show (X.A.in1.in1.deeper cenv).frames = some (cenv :: X.stack)
      exact Around.frames_deeper I.ok.frames
    · rcases (hfp b hb).1.2.2.2.1 with z | z
      · exact I.ok.noex b o e z
      · exact absurd (Nat.lt_of_lt_of_le (Heap.lt_size e) (Nat.le_trans I.ok.bsz z)) (Nat.lt_irrefl _)
    · rcases List.mem_cons.mp (I.stkSub b z) with z | z
      · exact (hfp b hb).1.2.1 z
      · exact (hfp b hb).1.2.2.1 z
  refine ⟨okG, rfl, AllBare.push I.bare hgb, Un.kept kp, ⟨fun y => if y = ".0" then some it else none, ?_, fun i y av e1 e2 e3 => ?_⟩, fun y c e => ?_, ?_, fun y c e => ?_, fun p hp => ?_, I.hok.kept kp, by rw [wipe_length]; exact I.len⟩
  · show Heap.Ns _ cenv.locals _
    rw [hL]; exact hn'.push _
  · obtain ⟨e2, hne⟩ := wipe_some e2
    have e3 : scope.names.lookup y = some .local ∨ scope.names.lookup y = some .cell ∨ scope.names.lookup y = some .free := by rw [← hsc]; exact e3
    have no : ∀ k, scope.names.lookup y = some k → ¬ (k = .local ∨ k = .cell) := fun k e hh => by
      rcases ok.own _ (PySem.mem_of_lookup e) hh with e' | e'
      · obtain ⟨p, hp, hpy⟩ := List.mem_map.mp e'
        have e3 := ok.ix p hp
        have : p.1 = y := hpy
        rw [this] at e3
        exact hne (List.mem_map.mpr ⟨p, hp, nodup_ix hN e3 e1⟩)
      · exact e' (List.mem_of_getElem? e1)
    have hf : scope.names.lookup y = some .free := by
      rcases e3 with k | k | k
      · exact absurd (.inl rfl) (no _ k)
      · exact absurd (.inr rfl) (no _ k)
      · exact k
    obtain ⟨m, hn, hl⟩ := I.loc
    have hvis : Vis X.env.scope y := (ok.free _ (PySem.mem_of_lookup hf) rfl).elim (fun k => .inr (.inl k)) (fun k => .inr (.inr k))
    obtain ⟨w, r, q⟩ := hl i y av e1 e2 hvis
    refine ⟨w, r, .inr ⟨.inr (by show cenv.scope.names.lookup y = _; rw [hsc]; exact hf), ?_⟩⟩
    obtain ⟨c, h1, h2⟩ := look hf
    rcases q with ⟨k, _⟩ | ⟨_, c', e', z⟩
    · have k : X.env.scope.names.lookup y = some .local := k
      rcases ok.free _ (PySem.mem_of_lookup hf) rfl with k' | k' <;> rw [show X.env.scope.names.lookup y = _ from k'] at k <;> cases k
    · rw [h2] at e'; cases e'
      exact ⟨c, h1, z.keeps kp⟩
  · obtain ⟨w, z⟩ := I.cell y c (mem e).1
    exact ⟨w, z.keeps kp⟩
  · show H cenv.locals = none
    rw [hL]; exact (young _ (Nat.le_refl _)).1
  · exact I.freeC y c (mem e).1
  · have hp : p = (h'.objs.size, go) := by simpa using hp
    subst hp
    exact ⟨hgf, (young _ (Nat.le_of_lt hlt)).1, by show h'.objs.size ≠ cenv.locals; rw [hL]; exact Nat.ne_of_gt hlt, (young _ (Nat.le_of_lt hlt)).2, hgd⟩
end

/-! ### the generator's turns -/
section
variable {X : Cx}
/-- what stays true between the turns -/
def genW (J : It) (g : TG) (te : TE) (stp : Bool) (Q : VK) (σw : L2.St) (vs : List Nat) (W : Nat → Nat → Hp → Prop) : Prop := ∀ i m H, W i m H → (J.stop i H ∧ Q (.bl (!stp)) H) ∨
  (J.go i H ∧ ∀ x H', J.yld i H x H' → g x σw H' fun σ2 H2 => wipe σ2 vs = σw ∧ te σ2 H2 fun y H4 => ∃ b, y = .bl b ∧ if b = stp then Q (.bl stp) H4 else ∃ m', m' < m ∧ W (i + 1) m' H4)
def genR (Xg : Cx) (σw : L2.St) (stp : Bool) (Q : VK) : GenEnd := fun n s₀ r s => r = .ok .next ∧ ∃ H, Inv Xg [] σw H s ∧ Q (.bl (!stp)) H
def genY (Xg : Cx) (σw : L2.St) (stp : Bool) (Q : VK) : Protocol := fun n s₀ v s kap => ∃ b H, v = .bool b ∧ Inv Xg [] σw H s ∧ if b = stp then Q (.bl stp) H else ∀ s', s'.heap = s.heap → s'.os = s.os → AllBare s'.gens → kap (.send .none) s'
theorem inv_same {pins : List (Addr × Obj)} {σ : L2.St} {H : Hp} {s s' : Shared} (I : Inv X pins σ H s) (e : s'.heap = s.heap) (o : s'.os = s.os) (b : AllBare s'.gens) : Inv X pins σ H s' :=
  I.call' (ch := []) o (Un.kept fun c ob q => by rw [e]; exact q) (I.hok.kept fun c ob q => by rw [e]; exact q) b fun b hb => by simp at hb
theorem seg_gen {s0 : Shared} {H0 : Hp} {cenv : PySem.Env} {fp : List Addr} {p : Addr × Obj} {elt tg iter : Expr} {scope : Scope} {pos : Pos} {it : Addr} {J : It} {tn : Nat → Heap → Prop} {g : TG} {te : TE} {stp : Bool} {Q : VK} {σ : L2.St} {vs : List Nat} {W : Nat → Nat → Hp → Prop}
    (hc : X.calm = true) (T : Turn X.prog X.w X.K tg J fp it tn) (hg : PG (genCx X s0 H0 cenv fp p) tg g) (he : PE (genCx X s0 H0 cenv fp p) elt te) (hco : cenv.scope.isCoroutine = false) (hfp : ∀ b ∈ fp, b ≠ p.1) (hW : genW J g te stp Q (wipe σ vs) vs W) :
    ∀ (m n i : Nat) (s₀ s : Shared) (H : Hp), m < n → W i m H → Inv (genCx X s0 H0 cenv fp p) [] (wipe σ vs) H s → tn i s.heap → (∀ b ∈ fp, H b = none) →
      Seg (model X.prog X.w) X.A.in1.in1 (genR (genCx X s0 H0 cenv fp p) (wipe σ vs) stp Q) (genY (genCx X s0 H0 cenv fp p) (wipe σ vs) stp Q) n s₀
        (.compLoop (.GeneratorExp elt [⟨tg, iter, [], 0⟩] scope pos) 0 (.ref it) .none cenv) ((model X.prog X.w).den (.compLoop (.GeneratorExp elt [⟨tg, iter, [], 0⟩] scope pos) 0 (.ref it) .none cenv)) [] s := by
  have stat : ∀ {σ' : L2.St} {H' : Hp} {s' : Shared}, Inv (genCx X s0 H0 cenv fp p) [] σ' H' s' → (∀ b ∈ fp, H' b = none) → (∀ b ∈ fp, b ≠ p.1) → ∀ b ∈ fp, FpOk (genCx X s0 H0 cenv fp p) [] H' b := fun {σ' H' s'} I' hn hp b hb =>
    ⟨hn b hb, (I'.ok.exf b hb).1, I'.ok.exfs b hb, .inl hb, fun x c e => (I'.ok.exf b hb).2 x c e, fun q hq => by
      have : q = p := by simpa using hq
      rw [this]; exact (hp b hb).symm⟩
  intro m
  induction m using Nat.strongRecOn with
  | ind m ih =>
  intro n i s₀ s H hmn w I st fr
  show Seg _ X.A.in1.in1 _ _ _ s₀ _ ((compTurn (.GeneratorExp elt [⟨tg, iter, [], 0⟩] scope pos) 0 (.ref it) .none cenv).onRaise (leaving cenv)) [] s
  rw [compTurn_gen, Sem.onRaise_eq_wrap]
  refine seg_bind_wrap (wpAny_standAt ?_)
  rcases hW i m H w with ⟨stop, q⟩ | ⟨go, step⟩
  · refine seg_bind_wrap ?_
    rw [over_gen]
    refine thnF (T.done (genCx X s0 H0 cenv fp p) rfl rfl rfl hc i [] s _ H (fun _ _ => False) I (stat I fr hfp) st stop) fun r s1 ⟨hr, I1⟩ => ?_
    subst hr
    exact seg_end (.ok .next) ⟨rfl, H, I1, q⟩
  · obtain ⟨n, rfl⟩ : ∃ n', n = n' + 1 := ⟨n - 1, by omega⟩
    refine seg_bind_wrap ?_
    rw [over_gen]
    refine thnF (T.item (genCx X s0 H0 cenv fp p) rfl rfl rfl hc i [] s _ H (fun _ _ => False) I (stat I fr hfp) st go) fun r s1 ⟨u, hr, h1⟩ => ?_
    subst hr
    refine seg_bind_wrap ?_
    rw [over_gen]
    refine thnF h1 fun _ s2 ⟨x, H2, I2, r2, y2, st2, fr2⟩ => ?_
    have I2' := I2.pinned (stat I2 fr2 hfp) (T.obj _ _ st2)
    refine seg_bind_wrap ?_
    rw [over_gen]
    refine thnF (hg.run _ s2 _ H2 x u _ I2' r2 (step x H2 y2)) fun _ s3 ⟨σ3, H3, I3, hw3, q3⟩ => ?_
    refine seg_bind_wrap (wpAny_tests_nil ?_)
    simp only [if_true]
    have hy : ∀ v, yieldOut cenv v = yieldValue v := fun v => by simp only [yieldOut, hco, Bool.false_eq_true, if_false]
    simp only [hy]
    rw [Sem.bind_eq_wrap', Sem.bind_eq_wrap', Sem.wrap_wrap, Sem.wrap_wrap]
    refine seg_wrap ?_
    rw [over_gen]
    refine thnF (he.run _ s3 σ3 H3 _ I3 q3) fun v s4 ⟨yv, H4, I4, r4, b, hb, q4⟩ => ?_
    subst hb
    obtain rfl : v = .bool b := r4
    have pin' : ∀ a ∈ fp, ∀ o, s2.heap.get? a = some o → s4.heap.get? a = some o ∧ H4 a = none := fun a ha o e =>
      let z := I4.pin (a, o) (List.mem_append_right _ (List.mem_append_right _ (mem_pinsAt ha e)))
      ⟨z.1, z.2.1⟩
    have hl : (wipe σ vs).length = σ3.length := by rw [← hw3, wipe_length]
    have I5 : Inv (genCx X s0 H0 cenv fp p) [] (wipe σ vs) H4 s4 := (I4.unpinned (pins := [])).weak hl fun j v e => by
      rw [← hw3] at e
      exact (wipe_some e).1
    refine seg_at (seg_yield rfl rfl rfl ⟨b, H4, rfl, I5, ?_⟩)
    by_cases hbs : b = stp
    · rw [if_pos hbs] at q4 ⊢
      exact q4
    · rw [if_neg hbs] at q4 ⊢
      obtain ⟨m', hm, w'⟩ := q4
      intro s' e1 e2 e3
      refine seg_again rfl (ih m' hm n (i + 1) s' s' H4 (by omega) w' (inv_same I5 e1 e2 e3) ?_ fun a ha => ?_)
      · rw [e1]; exact T.keep _ _ _ st2 fun a ha o e => (pin' a ha o e).1
      · obtain ⟨o, e, _⟩ := T.obj _ _ st2 a ha
        exact (pin' a ha o e).2
/-! ### all, any: who asks -/
def GSt (Xg : Cx) (A : Around) (σw : L2.St) (stp : Bool) (Q : VK) (g : Nat) (n : Nat) (s : Shared) : Prop :=
  (∃ H, Inv Xg [] σw H s) ∧ ∃ gs, s.gens[g]? = some gs ∧ gs.Goes (model Xg.prog Xg.w) A (genR Xg σw stp Q) (genY Xg σw stp Q) n (.send .none) (s.setGen g .running)
theorem all_go {Xg : Cx} {A : Around} {σw : L2.St} {Q : VK} {a : Addr} {g : Nat} {R' : Result → Shared → Prop} (hh : A.handled = none) (hd : A.depth < recursionLimit) (hga : ∀ s H, Inv Xg [] σw H s → s.heap.IsGen a g)
    (fin : ∀ b s' H, Inv Xg [] σw H s' → Q (.bl b) H → R' (.ok (.ret (.bool b))) s') : ∀ (n : Nat) (s : Shared), GSt Xg A.in1.in1 σw false Q g n s → codeAny (model Xg.prog Xg.w) A (.builtin "all.loop" ⟨[.ref a], []⟩) R' s := by
  intro n
  induction n with
  | zero =>
    intro s ⟨⟨H, I⟩, gs, hgs, hgo⟩
    refine codeAny_builtin F.entry_all_loop ?_
    rw [Around.under_plainId F.plain_all_loop _]
    show wpAny _ A.in1 (pyNext (.ref a) >>= _) _ _ s
    refine wpAny_bind (wpAny_pyNext_genexpQ (A := A.in1) hh I.nolimit hd (hga s H I) hgs hgo (fun v s₁ gs' hb hv => ?_) fun s₁ hp h' hk => ?_)
    · obtain ⟨b, H1, rfl, I1, q⟩ := hv
      refine wpAny_bind (wpAny_holding (wpAny_truthy_bool ?_))
      refine wpAny_bind (wpAny_letGo ?_)
      cases b with
      | true =>
        rw [if_neg (by decide)] at q
        exact (q s₁ rfl rfl I1.bare).elim
      | false =>
        simp only [Bool.false_eq_true, if_false]
        refine wpAny_bind (wpAny_rule (wpAny_pure ?_))
        rw [if_pos rfl] at q
        exact fin false _ H1 (inv_same I1 rfl rfl (allBare_setGen I1.bare hb)) q
    · obtain ⟨H1, I1, q⟩ := hp
      refine wpAny_bind (wpAny_rule (wpAny_pure ?_))
      exact fin true _ H1 (I1.call' (ch := []) rfl (Un.kept hk) (I1.hok.kept hk) (allBare_setGen I1.bare rfl) fun b hb => by simp at hb) q
  | succ n ih =>
    intro s ⟨⟨H, I⟩, gs, hgs, hgo⟩
    have hgl : g < s.gens.size := (Array.getElem?_eq_some_iff.mp hgs).1
    refine codeAny_builtin F.entry_all_loop ?_
    rw [Around.under_plainId F.plain_all_loop _]
    show wpAny _ A.in1 (pyNext (.ref a) >>= _) _ _ s
    refine wpAny_bind (wpAny_gsz (n := g + 1) hgl (wpAny_pyNext_genexpQ (A := A.in1) hh I.nolimit hd (hga s H I) hgs hgo (fun v s₁ gs' hb hv => ?_) fun s₁ hp h' hk => ?_))
    · intro hsz
      obtain ⟨b, H1, rfl, I1, q⟩ := hv
      refine wpAny_bind (wpAny_holding (wpAny_truthy_bool ?_))
      refine wpAny_bind (wpAny_letGo ?_)
      have hgl : g < s₁.gens.size := by
        have q : (s₁.setGen g gs').gens.size = s₁.gens.size := setGen_size _ _ _
        have hsz' : g + 1 ≤ (s₁.setGen g gs').gens.size := hsz
        omega
      cases b with
      | true =>
        rw [if_neg (by decide)] at q
        simp only [if_true]
        refine wpAny_pure ⟨plainId_quiet F.plain_all_loop _, ih _ ⟨⟨H1, inv_same I1 rfl rfl (allBare_setGen I1.bare hb)⟩, gs', setGen_at hgl, ?_⟩⟩
        exact q _ rfl rfl (allBare_setGen (allBare_setGen I1.bare hb) rfl)
      | false =>
        simp only [Bool.false_eq_true, if_false]
        refine wpAny_bind (wpAny_rule (wpAny_pure ?_))
        rw [if_pos rfl] at q
        exact fin false _ H1 (inv_same I1 rfl rfl (allBare_setGen I1.bare hb)) q
    · intro hsz
      obtain ⟨H1, I1, q⟩ := hp
      refine wpAny_bind (wpAny_rule (wpAny_pure ?_))
      exact fin true _ H1 (I1.call' (ch := []) rfl (Un.kept hk) (I1.hok.kept hk) (allBare_setGen I1.bare rfl) fun b hb => by simp at hb) q
theorem any_go {Xg : Cx} {A : Around} {σw : L2.St} {Q : VK} {a : Addr} {g : Nat} {R' : Result → Shared → Prop} (hh : A.handled = none) (hd : A.depth < recursionLimit) (hga : ∀ s H, Inv Xg [] σw H s → s.heap.IsGen a g)
    (fin : ∀ b s' H, Inv Xg [] σw H s' → Q (.bl b) H → R' (.ok (.ret (.bool b))) s') : ∀ (n : Nat) (s : Shared), GSt Xg A.in1.in1 σw true Q g n s → codeAny (model Xg.prog Xg.w) A (.builtin "any.loop" ⟨[.ref a], []⟩) R' s := by
  intro n
  induction n with
  | zero =>
    intro s ⟨⟨H, I⟩, gs, hgs, hgo⟩
    refine codeAny_builtin F.entry_any_loop ?_
    rw [Around.under_plainId F.plain_any_loop _]
    show wpAny _ A.in1 (pyNext (.ref a) >>= _) _ _ s
    refine wpAny_bind (wpAny_pyNext_genexpQ (A := A.in1) hh I.nolimit hd (hga s H I) hgs hgo (fun v s₁ gs' hb hv => ?_) fun s₁ hp h' hk => ?_)
    · obtain ⟨b, H1, rfl, I1, q⟩ := hv
      refine wpAny_bind (wpAny_holding (wpAny_truthy_bool ?_))
      refine wpAny_bind (wpAny_letGo ?_)
      cases b with
      | false =>
        rw [if_neg (by decide)] at q
        exact (q s₁ rfl rfl I1.bare).elim
      | true =>
        simp only [if_true]
        refine wpAny_bind (wpAny_rule (wpAny_pure ?_))
        rw [if_pos rfl] at q
        exact fin true _ H1 (inv_same I1 rfl rfl (allBare_setGen I1.bare hb)) q
    · obtain ⟨H1, I1, q⟩ := hp
      refine wpAny_bind (wpAny_rule (wpAny_pure ?_))
      exact fin false _ H1 (I1.call' (ch := []) rfl (Un.kept hk) (I1.hok.kept hk) (allBare_setGen I1.bare rfl) fun b hb => by simp at hb) q
  | succ n ih =>
    intro s ⟨⟨H, I⟩, gs, hgs, hgo⟩
    have hgl : g < s.gens.size := (Array.getElem?_eq_some_iff.mp hgs).1
    refine codeAny_builtin F.entry_any_loop ?_
    rw [Around.under_plainId F.plain_any_loop _]
    show wpAny _ A.in1 (pyNext (.ref a) >>= _) _ _ s
    refine wpAny_bind (wpAny_gsz (n := g + 1) hgl (wpAny_pyNext_genexpQ (A := A.in1) hh I.nolimit hd (hga s H I) hgs hgo (fun v s₁ gs' hb hv => ?_) fun s₁ hp h' hk => ?_))
    · intro hsz
      obtain ⟨b, H1, rfl, I1, q⟩ := hv
      refine wpAny_bind (wpAny_holding (wpAny_truthy_bool ?_))
      refine wpAny_bind (wpAny_letGo ?_)
      have hgl : g < s₁.gens.size := by
        have q : (s₁.setGen g gs').gens.size = s₁.gens.size := setGen_size _ _ _
        have hsz' : g + 1 ≤ (s₁.setGen g gs').gens.size := hsz
        omega
      cases b with
      | false =>
        rw [if_neg (by decide)] at q
        simp only [Bool.false_eq_true, if_false]
        refine wpAny_pure ⟨plainId_quiet F.plain_any_loop _, ih _ ⟨⟨H1, inv_same I1 rfl rfl (allBare_setGen I1.bare hb)⟩, gs', setGen_at hgl, ?_⟩⟩
        exact q _ rfl rfl (allBare_setGen (allBare_setGen I1.bare hb) rfl)
      | true =>
        simp only [if_true]
        refine wpAny_bind (wpAny_rule (wpAny_pure ?_))
        rw [if_pos rfl] at q
        exact fin true _ H1 (inv_same I1 rfl rfl (allBare_setGen I1.bare hb)) q
    · intro hsz
      obtain ⟨H1, I1, q⟩ := hp
      refine wpAny_bind (wpAny_rule (wpAny_pure ?_))
      exact fin false _ H1 (I1.call' (ch := []) rfl (Un.kept hk) (I1.hok.kept hk) (allBare_setGen I1.bare rfl) fun b hb => by simp at hb) q
end
end M


set_option Elab.async false
set_option linter.all false
set_option maxRecDepth 100000
set_option maxHeartbeats 4000000
namespace M
open PySem PySem.Spec PyProof.Rows L2 GenW
variable [Tabs]
section
variable {X : Cx} {pins : List (Addr × Obj)} {σ : L2.St} {H : Hp} {s : Shared}
/-- nothing, or one more code object in a table, with an empty table of its own -/
def Grown (H H' : Hp) : Prop := H' = H ∨ ∃ (P : Addr) (ps : Array Value) (pos : Pos) (c P' : Addr), H P = some (.tbl ps) ∧ TriplesOk ps.toList ∧ TriplesOk (ps ++ #[rawInt pos.line, rawInt pos.col, .ref c]).toList ∧ H c = none ∧ H P' = none ∧ c ≠ P' ∧
  H' = upd (upd (upd H P (.tbl (ps ++ #[rawInt pos.line, rawInt pos.col, .ref c]))) c (CodeX c P')) P' (.tbl #[])
theorem codeHd_stay {h1 h2 : Heap} {c P : Addr} (x : PySem.W.CodeHd h1 c P) (k : ∀ o, h1.get? c = some o → h2.get? c = some o) : PySem.W.CodeHd h2 c P := by
  obtain ⟨o, vs, file, tf, flags, tg, inF, text, tt, e, r⟩ := x
  exact ⟨o, vs, file, tf, flags, tg, inF, text, tt, k o e, r⟩
theorem inv_grow {P c P' : Addr} {ps : Array Value} {pos : Pos} {h' : Heap} {t' : Nat} (I : Inv X pins σ H s) (hP : H P = some (.tbl ps)) (k : ∀ b o, b ≠ P → s.heap.get? b = some o → h'.get? b = some o)
    (hm : h'.get? P = some { cls := .none, data := .fields (ps ++ #[rawInt pos.line, rawInt pos.col, .ref c]) }) (hc : s.heap.objs.size ≤ c) (hP' : s.heap.objs.size ≤ P') (hcd : PySem.W.CodeHd h' c P') (hm' : h'.get? P' = some { cls := .none, data := .fields #[] }) :
    Inv X pins σ (upd (upd (upd H P (.tbl (ps ++ #[rawInt pos.line, rawInt pos.col, .ref c]))) c (CodeX c P')) P' (.tbl #[])) { s with heap := h', toks := t' } ∧ c ≠ P' := by
  have hcn : H c = none := I.hok.fresh hc
  have hPn : H P' = none := I.hok.fresh hP'
  have ne : c ≠ P' := by
    obtain ⟨o, vs, file, tf, flags, tg, inF, text, tt, e, r1, r2, r3, r4, r5, r6, r7, r8, r9⟩ := hcd
    exact r9
  have nPc : P ≠ c := fun z => by rw [z, hcn] at hP; cases hP
  have nPP : P ≠ P' := fun z => by rw [z, hPn] at hP; cases hP
  have at_ : ∀ b, b ≠ P → b ≠ c → b ≠ P' → (upd (upd (upd H P (.tbl (ps ++ #[rawInt pos.line, rawInt pos.col, .ref c]))) c (CodeX c P')) P' (.tbl #[])) b = H b := fun b h1 h2 h3 => by rw [upd_ne h3, upd_ne h2, upd_ne h1]
  have atP : (upd (upd (upd H P (.tbl (ps ++ #[rawInt pos.line, rawInt pos.col, .ref c]))) c (CodeX c P')) P' (.tbl #[])) P = some (.tbl (ps ++ #[rawInt pos.line, rawInt pos.col, .ref c])) := by rw [upd_ne nPP, upd_ne nPc, upd_same]
  have atc : (upd (upd (upd H P (.tbl (ps ++ #[rawInt pos.line, rawInt pos.col, .ref c]))) c (CodeX c P')) P' (.tbl #[])) c = some (CodeX c P') := by rw [upd_ne ne, upd_same]
  have sm : ∀ b u, H b = some u → (∀ q, u ≠ .tbl q) → (upd (upd (upd H P (.tbl (ps ++ #[rawInt pos.line, rawInt pos.col, .ref c]))) c (CodeX c P')) P' (.tbl #[])) b = some u := fun b u e q => by
    rw [at_ b (fun z => by rw [z, hP] at e; exact q ps (Option.some.inj e).symm) (fun z => by rw [z, hcn] at e; cases e) (fun z => by rw [z, hPn] at e; cases e)]; exact e
  have nP : ∀ b u, H b = some u → (∀ q, u ≠ .tbl q) → b ≠ P := fun b u e q z => by
    rw [z, hP] at e
    exact q ps (Option.some.inj e).symm
  have nN : ∀ b, H b = none → b ≠ P := fun b e z => by
    rw [z, hP] at e
    cases e
  have old : ∀ b o, s.heap.get? b = some o → b ≠ c ∧ b ≠ P' := fun b o e => ⟨fun z => by
    have := Heap.lt_size e; rw [z] at this; exact absurd (Nat.lt_of_lt_of_le this hc) (Nat.lt_irrefl _), fun z => by
    have := Heap.lt_size e; rw [z] at this; exact absurd (Nat.lt_of_lt_of_le this hP') (Nat.lt_irrefl _)⟩
  have J : Inv X pins σ (upd (upd (upd H P (.tbl (ps ++ #[rawInt pos.line, rawInt pos.col, .ref c]))) c (CodeX c P')) P' (.tbl #[])) { s with heap := h', gens := s.gens, drawn := s.drawn, toks := t' } := by
    refine I.step (ch := []) (fun b hb => absurd hb (by simp)) (fun b o _ _ _ e n => k b o (nN b n) e) (fun b o _ _ _ e n => ⟨o.slots, k b o (nN b n) e⟩)
      (fun b o _ e n => by rw [at_ b (nN b n) (old b o e).1 (old b o e).2]; exact n) (fun b o _ e => ?_) (fun b xs e => sm b _ e fun q z => by cases z) (fun b o u e => sm b _ e fun q z => by cases z) (fun b qs e => ?_) (fun m hn => ?_) (fun b u e => ?_) I.bare
    · by_cases hb : b = P
      · rw [hb]
        exact ⟨_, hm⟩
      · exact ⟨o, k b o hb e⟩
    · by_cases hb : b = P
      · rw [hb, hP] at e
        cases e
        rw [hb, atP]
        exact ⟨_, rfl⟩
      · rw [at_ b hb (fun z => by rw [z, hcn] at e; cases e) (fun z => by rw [z, hPn] at e; cases e), e]
        exact ⟨#[], by simp⟩
    · obtain ⟨ob, es, ep, ho, r⟩ := hn
      exact ⟨ob, es, ep, k _ ob (nN _ I.free) ho, r⟩
    · by_cases h1 : b = P'
      · rw [h1, upd_same] at e
        cases e
        rw [h1]
        exact hm'
      · by_cases h2 : b = c
        · rw [h2, atc] at e
          cases e
          rw [h2]
          obtain ⟨o, vs, file, tf, flags, tg, inF, text, tt, e, r⟩ := id hcd
          exact ⟨hcd, ⟨o, e⟩, fun _ _ x k => codeHd_stay x k⟩
        · by_cases hb2 : b = P
          · rw [hb2, atP] at e
            cases e
            rw [hb2]
            exact hm
          · rw [at_ b hb2 h2 h1] at e
            refine (I.hok b u e).stay (fun d v hd q => k d v ?_ q) (fun d q => sm d _ q fun _ z => by cases z) fun d xs q => sm d _ q fun _ z => by cases z
            rcases hd with z | z
            · rw [z]
              exact hb2
            · exact nP d _ z (fun q z => by cases z)
  exact ⟨J, ne⟩
/-- the frame's own code stands in a table of D's -/
def InTab (D : Addr → Prop) (gpos : Pos) (H : Hp) (code : Value) : Prop := ∃ P, D P ∧ ∃ ps : Array Value, H P = some (.tbl ps) ∧ TriplesOk ps.toList ∧ codeAmong gpos ps.toList = some code
theorem among_snoc {pos : Pos} {c : Value} : ∀ (l : List Value), TriplesOk l → codeAmong pos l = none → codeAmong pos (l ++ [rawInt pos.line, rawInt pos.col, c]) = some c := fun l h hn => codeAmong_snoc _ h hn
theorem mk_gen {k : Nat} {D : Addr → Prop} {elt tg iter : Expr} {scope : Scope} {own : List (Str × Nat)} {gpos : Pos} {wi : TI} {g : TG} {te : TE} {stp : Bool} {Q : VK} {Q' : Value → Shared → Prop}
    (hr : Room k X.A) (bb : ∃ P, X.base.BuiltinsAt X.mg P) (hT : ∀ (pins : List (Addr × Obj)) (σ : L2.St) (H : Hp) (s : Shared), Inv X pins σ H s → (∀ a ∈ Tabs.t, TabN H a) → ∃ c P qs, X.env.code = .ref c ∧ D P ∧ PySem.W.CodeHd s.heap c P ∧ H P = some (.tbl qs) ∧ TriplesOk qs.toList) (hi : PI X tg iter wi) (ok : BlkOk X.N X.env.scope scope own) (hN : X.N.Nodup) (hc : X.calm = true) (hco : scope.isCoroutine = false) (hcell : ∀ y ∈ scope.names, y.2 ≠ .cell)
    (h0 : scope.names.lookup (".0" : Str) = some NameKind.local)
    (hg : ∀ (s : Shared) (H : Hp) (C : Addr) (code : Value) (cl : List (Str × Addr)) (fp : List Addr) (p : Addr × Obj), PG (genCx X s H (genEnv scope cl C code builtinsNs X.env) fp p) tg g)
    (he : ∀ (s : Shared) (H : Hp) (C : Addr) (code : Value) (cl : List (Str × Addr)) (fp : List Addr) (p : Addr × Obj), InTab D gpos H code → PE (genCx X s H (genEnv scope cl C code builtinsNs X.env) fp p) elt te)
    (hs : ∀ v, genFold iter X.env v = pure v) (I : Inv X pins σ H s)
    (h : wi σ H fun J H1 => (∀ a ∈ Tabs.t, TabN H1 a) ∧ ∀ H2, Grown H1 H2 → ∃ (W : Nat → Nat → Hp → Prop) (m0 : Nat), W 0 m0 H2 ∧ genW J g te stp Q (wipe σ (own.map (·.2))) (own.map (·.2)) W)
    (hQ : ∀ (Xg : Cx) (a : Addr) (gi n : Nat) (s5 : Shared), Xg.prog = X.prog → Xg.w = X.w → GSt Xg X.A.in1.in1 (wipe σ (own.map (·.2))) stp Q gi n s5 → s5.heap.IsGen a gi → (∀ s H, Inv Xg [] (wipe σ (own.map (·.2))) H s → s.heap.IsGen a gi) → (∀ s' H, Inv Xg [] (wipe σ (own.map (·.2))) H s' → Inv X pins σ H s') → Q' (.ref a) s5) :
    wpAny (model X.prog X.w) X.A (eval (.GeneratorExp elt [⟨tg, iter, [], 0⟩] scope gpos) X.env) Q' X.xe s := by
  have hfree : ∀ y ∈ scope.names, y.2 = .free → ∃ c, X.env.cells.lookup y.1 = some c := fun y hy e => by
    rcases ok.free y hy e with k | k
    · exact I.ok.has _ (.inl k)
    · exact I.ok.has _ (.inr k)
  refine wpAny_GeneratorExp_make hco (closure_ok hfree) hcell h0 ok.kind (by have := hr.dp; omega) ?_ hs
  refine thn (hi.run pins s σ H _ I h) fun xv s1 hx => thn hx fun itv s2 h2 => ?_
  obtain ⟨it, fp, tn, J, H2, e, I2, T, st2, f2, tN, q⟩ := h2
  subst e
  refine ⟨I2.nolimit, ?_⟩
  obtain ⟨c, P, ps, hcode, hD, cd, hP, htr⟩ := hT pins σ H2 s2 I2 tN
  have hPs : s2.heap.get? P = some { cls := .none, data := .fields ps } := I2.hok P _ hP
  have cont : ∀ (code : Value) (h3 : Heap) (tk : Nat) (H4 : Hp), Inv X pins σ H4 { s2 with heap := h3, toks := tk } → Heap.ExtBut P s2.heap h3 → s2.heap.objs.size ≤ h3.objs.size → Grown H2 H4 → (∀ b, b < s2.heap.objs.size → H2 b = none → H4 b = none) → InTab D gpos H4 code →
      wpAny (model X.prog X.w) X.A (builtinsFor X.env.globals X.env.builtins) (fun bi s₄ =>
        ∀ h', h'.Ns s₄.heap.objs.size (fun y => if y = ".0" then some (.ref it) else none) → Heap.SameBut s₄.heap.objs.size (s₄.heap.push { cls := .type "frame", data := .dict #[] }) h' →
          Q' (.ref h'.objs.size) { s₄ with
            gens := s₄.gens.push (.fresh (.compStart (.GeneratorExp elt [⟨tg, iter, [], 0⟩] scope gpos) 0 (.ref it) .none (genEnv scope (cloFrom X.env.cells scope.names []) s₄.heap.objs.size code bi X.env))),
            toks := s₄.toks + 1 + 1 + 1,
            heap := h'.push { cls := .type "generator", data := .fields #[.int s₄.gens.size 0, .str "<genexpr>" (s₄.toks + 1), .str (X.env.qual ++ "<genexpr>") (s₄.toks + 1 + 1)] } }) X.xe { s2 with heap := h3, toks := tk } := by
    intro code h3 tk H4 I4 hx3 hsz hgr hlow hin
    obtain ⟨P0, bm, ob, e1, e2, e3, e4, e5, e6, e7, e8⟩ := bb
    refine wpAny_builtinsFor (m := X.mg) (by rw [I4.ok.glob]; exact I4.mod.glob.keeps I4.bk) e1 e2 (I4.bk _ _ e5) e6 e7 e8 ?_
    intro h' hn' hs'
    obtain ⟨W, m0, w0, hW⟩ := q H4 hgr
    have keep3 : ∀ b u, b ≠ P → s2.heap.get? b = some u → h3.get? b = some u := fun b u hb e => hx3 b u hb e
    have nP : ∀ b ∈ fp, b ≠ P := fun b hb z => by
      have := (f2 b hb).1
      rw [z, hP] at this; cases this
    have f4 : ∀ b ∈ fp, FpOk X pins H4 b ∧ b < h3.objs.size := fun b hb => by
      obtain ⟨o, e, _⟩ := T.obj _ _ st2 b hb
      exact ⟨⟨hlow b (Heap.lt_size e) (f2 b hb).1, (f2 b hb).2⟩, Nat.lt_of_lt_of_le (Heap.lt_size e) hsz⟩
    have st3 : tn 0 h3 := T.keep _ _ _ st2 fun b hb o e => keep3 b o (nP b hb) e
    have hsz' : h'.objs.size = h3.objs.size + 1 := by rw [hs'.1, Heap.size_push]
    have Ig := gen_start (code := code) (tk := tk + 1 + 1 + 1) I4 ok hN f4 hcell hr.hd hn' hs' { cls := .type "generator", data := .fields #[.int s2.gens.size 0, .str "<genexpr>" (tk + 1), .str (X.env.qual ++ "<genexpr>") (tk + 1 + 1)] } (fun v z => by cases z) (Heap.get?_push_size _ rfl)
      (.fresh (.compStart (.GeneratorExp elt [⟨tg, iter, [], 0⟩] scope gpos) 0 (.ref it) .none (genEnv scope (cloFrom X.env.cells scope.names []) h3.objs.size code builtinsNs X.env))) rfl
    have st5 : tn 0 (h'.push { cls := .type "generator", data := .fields #[.int s2.gens.size 0, .str "<genexpr>" (tk + 1), .str (X.env.qual ++ "<genexpr>") (tk + 1 + 1)] }) := T.keep _ _ _ st3 fun b hb o e =>
      Heap.get?_push_of_some _ (hs'.extBut b o (Nat.ne_of_lt (Heap.lt_size e)) (Heap.get?_push_of_some _ e))
    have hfpn : ∀ b ∈ fp, H4 b = none := fun b hb => (f4 b hb).1.1
    have hfpa : ∀ b ∈ fp, b ≠ h'.objs.size := fun b hb z => by
      have h1 : h'.objs.size < h3.objs.size := by rw [← z]; exact (f4 b hb).2
      exact absurd h1 (by omega)
    refine hQ (genCx X { s2 with heap := h3, toks := tk } H4 (genEnv scope (cloFrom X.env.cells scope.names []) h3.objs.size code builtinsNs X.env) fp (h'.objs.size, { cls := .type "generator", data := .fields #[.int s2.gens.size 0, .str "<genexpr>" (tk + 1), .str (X.env.qual ++ "<genexpr>") (tk + 1 + 1)] })) h'.objs.size s2.gens.size (m0 + 1) _ rfl rfl ⟨⟨_, Ig⟩, _, Array.getElem?_push_size .., ⟨rfl, ?_⟩⟩ ⟨_, _, _, Heap.get?_push_size _ rfl, rfl, rfl, rfl⟩ (fun s H J => ?_) fun s' H J => ?_
    · have loop := fun (s₀ s' : Shared) (e1 : s'.heap = h'.push { cls := .type "generator", data := .fields #[.int s2.gens.size 0, .str "<genexpr>" (tk + 1), .str (X.env.qual ++ "<genexpr>") (tk + 1 + 1)] }) (e2 : s'.os = s2.os) (e3 : AllBare s'.gens) => seg_gen (iter := iter) (scope := scope) (pos := gpos) (stp := stp) (Q := Q) hc T (hg _ _ _ code _ fp _) (he _ _ _ code _ fp _ hin) hco hfpa hW m0 (m0 + 1) 0 s₀ s' _ (Nat.lt_succ_self _) w0 (inv_same Ig e1 e2 e3) (by rw [e1]; exact st5) hfpn
      show Seg _ X.A.in1.in1 _ _ _ _ _ ((compStart (.GeneratorExp elt [⟨tg, iter, [], 0⟩] scope gpos) 0 (.ref it) .none (genEnv scope (cloFrom X.env.cells scope.names []) h3.objs.size code builtinsNs X.env)).onRaise (leaving (genEnv scope (cloFrom X.env.cells scope.names []) h3.objs.size code builtinsNs X.env))) [] _
      unfold compStart
      rw [Sem.onRaise_eq_wrap]
      show Seg _ X.A.in1.in1 _ _ _ _ _ ((ask >>= _).wrap _ _ _ _) [] _
      refine seg_bind_wrap (wpAny_askSetting ?_)
      split
      · exact seg_again rfl (loop _ _ rfl rfl (allBare_setGen Ig.bare rfl))
      · first
          | exact seg_bind_wrap (wpAny_rule (seg_bind_wrap (wpAny_standAt (seg_bind_wrap (T.self _ 0 _ _ _ st5 (seg_again rfl (loop _ _ rfl rfl (allBare_setGen Ig.bare rfl))))))))
          | (refine seg_bind_wrap (wpAny_rule ?_); show Seg _ X.A.in1.in1 _ _ _ _ _ ((standAt iter.pos >>= _).wrap _ _ _ _) [] _; exact seg_bind_wrap (wpAny_standAt (seg_bind_wrap (T.self _ 0 _ _ _ st5 (seg_again rfl (loop _ _ rfl rfl (allBare_setGen Ig.bare rfl)))))))
    · obtain ⟨z, _⟩ := J.pin (h'.objs.size, _) (List.mem_append_left _ (List.mem_singleton.mpr rfl))
      exact ⟨_, _, _, z, rfl, rfl, rfl⟩
    · exact I4.call' (ch := fp) J.os J.base J.hok J.bare fun b hb => ⟨(f4 b hb).1.2.2.2.1, (f4 b hb).1.2.1, (f4 b hb).1.2.2.2.2.1, (f4 b hb).1.2.2.2.2.2⟩
  cases hf : codeAmong gpos ps.toList with
  | none =>
    refine wpAny_genexprCodeX hcode (cd.code hPs htr) (cd.tab hPs) hf fun c' h' tk hx hge hlt hco' _ htab' hnew => ?_
    obtain ⟨o1, vs, f1, tf, fl, tg', inF, tx, tt, op, _, _, _, _, _, _, _, _, _, htr', _⟩ := hco'
    obtain ⟨P', hP', hc1, ht1⟩ := hnew
    obtain ⟨I4, ne⟩ := inv_grow (t' := tk) (pos := gpos) I2 hP (fun b u hb e => hx b u hb e) htab'.2 hge hP' (PySem.W.CodeHd.of hc1 ht1) ht1.2
    have hcn : H2 c' = none := I2.hok.fresh hge
    have hPn : H2 P' = none := I2.hok.fresh hP'
    have nPc : P ≠ c' := fun z => by rw [z, hcn] at hP; cases hP
    have nPP : P ≠ P' := fun z => by rw [z, hPn] at hP; cases hP
    refine cont _ h' tk _ I4 hx (Nat.le_trans hge (Nat.le_of_lt hlt)) (.inr ⟨P, ps, gpos, c', P', hP, htr, htr', hcn, hPn, ne, rfl⟩) (fun b hb e => ?_) ⟨P, hD, _, by rw [upd_ne nPP, upd_ne nPc, upd_same], htr', ?_⟩
    · have n1 : b ≠ P := fun z => by rw [z, hP] at e; cases e
      have n2 : b ≠ c' := fun z => by rw [z] at hb; exact absurd (Nat.lt_of_lt_of_le hb hge) (Nat.lt_irrefl _)
      have n3 : b ≠ P' := fun z => by rw [z] at hb; exact absurd (Nat.lt_of_lt_of_le hb hP') (Nat.lt_irrefl _)
      rw [upd_ne n3, upd_ne n2, upd_ne n1]; exact e
    · have : (ps ++ #[rawInt gpos.line, rawInt gpos.col, Value.ref c']).toList = ps.toList ++ [rawInt gpos.line, rawInt gpos.col, .ref c'] := by simp
      rw [this]
      exact among_snoc _ htr hf
  | some cv =>
    refine wpAny_genexprCode_hit hcode (cd.code hPs htr) hf ?_
    exact cont cv s2.heap s2.toks H2 I2 (Heap.ExtBut.refl _ _) (Nat.le_refl _) (.inl rfl) (fun _ _ e => e) ⟨P, hD, ps, hP, htr, hf⟩
end
/-! ### the rule -/
open Classical in
noncomputable def allM (src : Src) (g : MG) (me : ME) (e : Env) (stp : Bool) : List D → Store → Res D
  | [], S => if src.ok S then .ok (.bl (!stp)) S else .bad
  | d :: ds, S => if src.ok S then match g d e S with
    | some e1 => (noEx (me e1 S)).bind fun y S2 => match y with
      | .bl b => if b = stp then .ok (.bl stp) S2 else allM src g me e stp ds S2
      | _ => .bad
    | none => .bad else .bad
noncomputable def mAll (stp : Bool) (mi : MI) (g : MG) (me : ME) (vs : List Nat) : ME := fun e S => (mi e S).bind fun src S1 => allM src g me (wipeE e vs) stp src.xs S1
theorem rel_grown {K : PySem.W.Frag} {ρ : Rh} {H H' : Hp} {S : Store} (R : Rel K ρ H S) (g : Grown H H') : Fr ρ H ρ H' ∧ Rel K ρ H' S := by
  rcases g with rfl | ⟨P, ps, pos, c, P', hP, ht, ht', hcn, hPn, ne, rfl⟩
  · exact ⟨Fr.refl _ _, R⟩
  have nPc : P ≠ c := fun z => by rw [z, hcn] at hP; cases hP
  have nPP : P ≠ P' := fun z => by rw [z, hPn] at hP; cases hP
  generalize hH' : upd (upd (upd H P (.tbl (ps ++ #[rawInt pos.line, rawInt pos.col, .ref c]))) c (CodeX c P')) P' (.tbl #[]) = H'
  have sm : ∀ b u, H b = some u → b ≠ P → H' b = some u := fun b u e q => by
    rw [← hH', upd_ne (fun z => by rw [z, hPn] at e; cases e), upd_ne (fun z => by rw [z, hcn] at e; cases e), upd_ne q]; exact e
  have atP : H' P = some (.tbl (ps ++ #[rawInt pos.line, rawInt pos.col, .ref c])) := by rw [← hH', upd_ne nPP, upd_ne nPc, upd_same]
  have atc : H' c = some (CodeX c P') := by rw [← hH', upd_ne ne, upd_same]
  have atP' : H' P' = some (.tbl #[]) := by rw [← hH', upd_same]
  have nP : ∀ b u, H b = some u → NT u → b ≠ P := fun b u e nt z => by rw [z, hP] at e; cases e; exact nt ps rfl
  have f : Fr ρ H ρ H' := ⟨⟨[], by simp, by simp⟩, fun a o h _ nt => sm a o h (nP a o h nt), fun a o h => by
    by_cases z : a = P
    · exact ⟨_, by rw [z]; exact atP⟩
    · exact ⟨o, sm a o h z⟩⟩
  have kid : ∀ (c0 P0 : Addr) (qs : Array Value), H c0 = some (CodeX c0 P0) → H P0 = some (.tbl qs) → TriplesOk qs.toList → H' c0 = some (CodeX c0 P0) ∧ ∃ qs', H' P0 = some (.tbl qs') ∧ TriplesOk qs'.toList := fun c0 P0 qs h1 h2 h3 => by
    refine ⟨sm c0 _ h1 (nP c0 _ h1 fun _ z => by cases z), ?_⟩
    by_cases z : P0 = P
    · exact ⟨_, by rw [z]; exact atP, ht'⟩
    · exact ⟨qs, sm P0 _ h2 z, h3⟩
  refine ⟨f, R.len, R.nd, fun n o a e1 e2 => ?_, fun a m => ?_, fun a m => ?_⟩
  · have q := R.at_ n o a e1 e2
    cases o with
    | lst ds => obtain ⟨vs, h1, h2⟩ := q; exact ⟨vs, sm a _ h1 (nP a _ h1 fun _ z => by cases z), RepDs.fr R.free f _ _ h2⟩
  · obtain ⟨vs, h1⟩ := R.hid a m
    exact ⟨vs, sm a _ h1 (nP a _ h1 fun _ z => by cases z)⟩
  · obtain ⟨qs, h1, h2, h3⟩ := R.tab a m
    by_cases z : a = P
    · subst z
      rw [hP] at h1; cases h1
      refine ⟨_, atP, ht', fun p0 cv hc => ?_⟩
      have e9 : (ps ++ #[rawInt pos.line, rawInt pos.col, Value.ref c]).toList = ps.toList ++ [rawInt pos.line, rawInt pos.col, .ref c] := by simp
      rw [e9] at hc
      rcases LamX.among_app _ ht hc with hc | rfl
      · obtain ⟨c0, P0, qs, g1, g2, g3, g4⟩ := h3 p0 cv hc
        obtain ⟨k1, qs', k2, k3⟩ := kid c0 P0 qs g2 g3 g4
        exact ⟨c0, P0, qs', g1, k1, k2, k3⟩
      · exact ⟨c, P', #[], rfl, atc, atP', trivial⟩
    · refine ⟨qs, sm a _ h1 z, h2, fun p0 cv hc => ?_⟩
      obtain ⟨c0, P0, qs, g1, g2, g3, g4⟩ := h3 p0 cv hc
      obtain ⟨k1, qs', k2, k3⟩ := kid c0 P0 qs g2 g3 g4
      exact ⟨c0, P0, qs', g1, k1, k2, k3⟩
section
variable {X : Cx} {W : WX} {mi : MI} {g : MG} {sl vs : List Nat} {me : ME} {stp : Bool}
theorem all_imp (hsl : ∀ i ∈ sl, i ∈ vs) {σ : L2.St} {H : Hp} {Q : VK} (h : tE X.K X.mg W (mAll stp mi g me vs) σ H Q) :
    tI X.K X.mg W mi σ H fun J H1 => (∀ a ∈ Tabs.t, TabN H1 a) ∧ ∀ H2, Grown H1 H2 → ∃ (W : Nat → Nat → Hp → Prop) (m0 : Nat), W 0 m0 H2 ∧ genW J (tG X.K g sl) (tE X.K X.mg W0 me) stp Q (wipe σ vs) vs W := by
  obtain ⟨ρ, e, S, he, R, q⟩ := h
  refine ⟨ρ, e, S, he, R, (Post.bind q).mono fun src S1 ρ1 H1 f1 R1 q J hJ => ?_⟩
  refine ⟨R1.tab, fun H2 hgr => ?_⟩
  obtain ⟨ft, Rt⟩ := rel_grown R1 hgr
  have het := (he.fr R.free f1).fr R1.free ft
  refine ⟨fun i m H' => m = src.xs.length - i ∧ i ≤ src.xs.length ∧ ∃ ρ' S', Fr ρ1 H1 ρ' H' ∧ Rel X.K ρ' H' S' ∧ PostE X.K X.mg W ρ' H' σ Q (allM src g me (wipeE e vs) stp (src.xs.drop i) S'), src.xs.length, ⟨rfl, Nat.zero_le _, ρ1, S1, ft, Rt, Post.fr ft q⟩, ?_⟩
  rintro i m H' ⟨rfl, hi, ρ', S', f, R', q⟩
  rcases Nat.lt_or_ge i src.xs.length with hlt | hge
  · rw [List.drop_eq_getElem_cons hlt] at q
    unfold allM at q
    by_cases hok : src.ok S'
    case neg => rw [if_neg hok] at q; exact q.elim
    rw [if_pos hok] at q
    obtain ⟨hgo, hy⟩ := hJ.go ρ' H' S' i _ (.of f) R' hok (List.getElem?_eq_getElem hlt)
    refine .inr ⟨hgo, fun x H'' yy => ?_⟩
    obtain ⟨f2, R2, r2⟩ := hy x H'' yy
    cases hgd : g src.xs[i] (wipeE e vs) S' with
    | none => rw [hgd] at q; exact q.elim
    | some e1 =>
      rw [hgd] at q
      dsimp only at q
      have he2 : EnvRel X.K ρ' H'' (wipe σ vs) (wipeE e vs) := ((((he.fr R.free f1).fr R1.free f)).fr R'.free f2).wipe vs
      refine ⟨ρ', _, S', _, e1, he2, R2, r2, hgd, fun σ2 hσ2 hw => ⟨(hw vs hsl).trans (wipe_wipe fun _ h => h), ρ', e1, S', hσ2, R2, ?_⟩⟩
      cases hm : me e1 S' with
      | bad => rw [hm] at q; exact q.elim
      | ex c S2 => rw [hm] at q; exact q.elim
      | ok y S2 =>
        rw [hm] at q
        simp only [noEx_ok, Res.bind_ok] at q
        intro ρ3 H3 f3 R3 v r3
        cases y with
        | bl b =>
          cases r3
          refine ⟨b, rfl, ?_⟩
          by_cases hb : b = stp
          · rw [if_pos hb]
            dsimp only at q
            rw [if_pos hb] at q
            exact q ρ3 H3 (f2.trans f3) R3 _ (.bl stp)
          · rw [if_neg hb]
            dsimp only at q
            rw [if_neg hb] at q
            exact ⟨src.xs.length - (i + 1), by omega, rfl, hlt, ρ3, S2, (f.trans f2).trans f3, R3, Post.fr (f2.trans f3) q⟩
        | _ => exact q.elim
  · have e0 : i = src.xs.length := by omega
    subst e0
    rw [List.drop_length] at q
    unfold allM at q
    by_cases hok : src.ok S'
    case neg => rw [if_neg hok] at q; exact q.elim
    rw [if_pos hok] at q
    exact .inl ⟨hJ.stop ρ' H' S' (.of f) R' hok, q ρ' H' (Fr.refl _ _) R' _ (.bl _)⟩
variable {k : Nat} {c : Addr} {elt tg iter : Expr} {scope : Scope} {own : List (Str × Nat)} {p gpos pos : Pos}
/-- where a frame's generator expressions have their code -/
structure GenIn (X : Cx) (D : Addr → Prop) : Prop where
  bb : ∃ P, X.base.BuiltinsAt X.mg P
  hT : ∀ (pins : List (Addr × Obj)) (σ : L2.St) (H : Hp) (s : Shared), Inv X pins σ H s → (∀ a ∈ Tabs.t, TabN H a) → ∃ c P qs, X.env.code = .ref c ∧ D P ∧ PySem.W.CodeHd s.heap c P ∧ H P = some (.tbl qs) ∧ TriplesOk qs.toList
theorem genIn_def {P : Addr} (TB : GxR.TabB X.base X.mg c P) (hP : P ∈ Tabs.t) (hcode : X.env.code = .ref c) : GenIn X (fun P => P ∈ Tabs.t) :=
  ⟨⟨P, TB.bm⟩, fun pins σ H s I tN => by
    obtain ⟨ps, h1, h2, _⟩ := tN P hP
    exact ⟨c, P, ps, hcode, hP, TB.code.keeps fun b u e => I.bk b u e, h1, h2⟩⟩
theorem among_more {pos : Pos} {cv : Value} (l r : List Value) (h : TriplesOk l) (hc : codeAmong pos l = some cv) : codeAmong pos (l ++ r) = some cv := by
  fun_induction TriplesOk l with
  | case1 => simp [codeAmong] at hc
  | case2 a t b u x rest ih =>
    simp only [List.cons_append, codeAmong] at hc ⊢
    split at hc
    · rename_i q
      rw [if_pos q]; exact hc
    · rename_i q
      rw [if_neg q]; exact ih h hc
  | case3 l h1 h2 => exact h.elim
theorem genIn_in {s : Shared} {H : Hp} {C : Addr} {code : Value} {cl : List (Str × Addr)} {fp : List Addr} {p : Addr × Obj} (bb : ∃ P, X.base.BuiltinsAt X.mg P) (hin : InTab (fun P => P ∈ Tabs.t) gpos H code) :
    GenIn (genCx X s H (genEnv scope cl C code builtinsNs X.env) fp p) (fun _ => True) :=
  ⟨bb, fun pins σ H' s' I tN => by
    obtain ⟨P, hP, ps, h1, h2, h3⟩ := hin
    obtain ⟨more, h4⟩ := I.base.tbls P ps h1
    obtain ⟨qs, e1, e2, e3⟩ := tN P hP
    rw [h4] at e1; cases e1
    obtain ⟨c, P', rs, g1, g2, g3, g4⟩ := e3 gpos code (by rw [Array.toList_append]; exact among_more _ _ h2 h3)
    have q : PySem.W.CodeHd s'.heap c P' := (I.hok c _ g2).1
    exact ⟨c, P', rs, g1, trivial, q, g3, g4⟩⟩
theorem em_all (own : List (Str × Nat)) (hr : Room k X.A) (hgl : Gl X "all") (hm : X.mg "all" = none) {D : Addr → Prop} (gin : GenIn X D) (hi : IM X W tg iter mi) (ok : BlkOk X.N X.env.scope scope own) (hsl : ∀ i ∈ sl, i ∈ own.map (·.2)) (hN : X.N.Nodup) (hc : X.calm = true) (hco : scope.isCoroutine = false) (hcell : ∀ y ∈ scope.names, y.2 ≠ .cell)
    (h0 : scope.names.lookup (".0" : Str) = some NameKind.local)
    (hg : ∀ (s : Shared) (H : Hp) (C : Addr) (code : Value) (cl : List (Str × Addr)) (fp : List Addr) (p : Addr × Obj), GM (genCx X s H (genEnv scope cl C code builtinsNs X.env) fp p) tg g sl)
    (he : ∀ (s : Shared) (H : Hp) (C : Addr) (code : Value) (cl : List (Str × Addr)) (fp : List Addr) (p : Addr × Obj), InTab D gpos H code → EM (genCx X s H (genEnv scope cl C code builtinsNs X.env) fp p) W0 elt me)
    (hs : ∀ v, genFold iter X.env v = pure v := by intro _; rfl) (hb : bootBuiltins "all" = some (.builtin "all") := by rfl)
    (hse : starEach [.GeneratorExp elt [⟨tg, iter, [], 0⟩] scope gpos] X.env = (false, eval (.GeneratorExp elt [⟨tg, iter, [], 0⟩] scope gpos) X.env) :: starEach [] X.env := by rfl) :
    EM X W (.Call (.Name "all" p) [.GeneratorExp elt [⟨tg, iter, [], 0⟩] scope gpos] [] pos) (mAll false mi g me (own.map (·.2))) := by
  refine ⟨fun pins s σ H Q I h => ?_⟩
  refine wpAny_Call_Name_kw (ld_blt I hgl hm hb ?_)
  refine PyProof.Rows.callWith_builtin1 ?_ hse (by rfl)
  rw [hse]
  show wpAny _ _ (spliced ((false, eval (.GeneratorExp elt [⟨tg, iter, [], 0⟩] scope gpos) X.env) :: backTo pos (starEach [] X.env))) _ _ s
  refine Calls.spliced_cons (mk_gen (stp := false) (Q := Q) hr gin.bb gin.hT hi ok hN hc hco hcell h0 hg he hs I (all_imp hsl h) fun Xg a gi n s5 e1 e2 hG hga hgal back => ?_)
  refine Calls.spliced_nil ?_
  refine call_function_tree F.kind_all F.plain_all F.entry_all (F.args_all1 _) ?_
  unfold Builtin.«all»
  refine wpAny_bind (m := oneArg "all" _) (wpAny_pure ?_)
  refine wpAny_bind (wpAny_pyIter_gen hga ?_)
  refine wpAny_pure ⟨plainId_quiet F.plain_all_loop _, ?_⟩
  rw [← e1, ← e2]
  refine all_go (A := X.A) hr.hd (by have := hr.dp; omega) hgal (fun b s' H' J q => ?_) n s5 hG
  exact ⟨.bl b, H', back s' H' J, rfl, q⟩
theorem em_any (own : List (Str × Nat)) (hr : Room k X.A) (hgl : Gl X "any") (hm : X.mg "any" = none) {D : Addr → Prop} (gin : GenIn X D) (hi : IM X W tg iter mi) (ok : BlkOk X.N X.env.scope scope own) (hsl : ∀ i ∈ sl, i ∈ own.map (·.2)) (hN : X.N.Nodup) (hc : X.calm = true) (hco : scope.isCoroutine = false) (hcell : ∀ y ∈ scope.names, y.2 ≠ .cell)
    (h0 : scope.names.lookup (".0" : Str) = some NameKind.local)
    (hg : ∀ (s : Shared) (H : Hp) (C : Addr) (code : Value) (cl : List (Str × Addr)) (fp : List Addr) (p : Addr × Obj), GM (genCx X s H (genEnv scope cl C code builtinsNs X.env) fp p) tg g sl)
    (he : ∀ (s : Shared) (H : Hp) (C : Addr) (code : Value) (cl : List (Str × Addr)) (fp : List Addr) (p : Addr × Obj), InTab D gpos H code → EM (genCx X s H (genEnv scope cl C code builtinsNs X.env) fp p) W0 elt me)
    (hs : ∀ v, genFold iter X.env v = pure v := by intro _; rfl) (hb : bootBuiltins "any" = some (.builtin "any") := by rfl)
    (hse : starEach [.GeneratorExp elt [⟨tg, iter, [], 0⟩] scope gpos] X.env = (false, eval (.GeneratorExp elt [⟨tg, iter, [], 0⟩] scope gpos) X.env) :: starEach [] X.env := by rfl) :
    EM X W (.Call (.Name "any" p) [.GeneratorExp elt [⟨tg, iter, [], 0⟩] scope gpos] [] pos) (mAll true mi g me (own.map (·.2))) := by
  refine ⟨fun pins s σ H Q I h => ?_⟩
  refine wpAny_Call_Name_kw (ld_blt I hgl hm hb ?_)
  refine PyProof.Rows.callWith_builtin1 ?_ hse (by rfl)
  rw [hse]
  show wpAny _ _ (spliced ((false, eval (.GeneratorExp elt [⟨tg, iter, [], 0⟩] scope gpos) X.env) :: backTo pos (starEach [] X.env))) _ _ s
  refine Calls.spliced_cons (mk_gen (stp := true) (Q := Q) hr gin.bb gin.hT hi ok hN hc hco hcell h0 hg he hs I (all_imp hsl h) fun Xg a gi n s5 e1 e2 hG hga hgal back => ?_)
  refine Calls.spliced_nil ?_
  refine call_function_tree F.kind_any F.plain_any F.entry_any (F.args_any1 _) ?_
  unfold Builtin.«any»
  refine wpAny_bind (m := oneArg "any" _) (wpAny_pure ?_)
  refine wpAny_bind (wpAny_pyIter_gen hga ?_)
  refine wpAny_pure ⟨plainId_quiet F.plain_any_loop _, ?_⟩
  rw [← e1, ← e2]
  refine any_go (A := X.A) hr.hd (by have := hr.dp; omega) hgal (fun b s' H' J q => ?_) n s5 hG
  exact ⟨.bl b, H', back s' H' J, rfl, q⟩
end
end M


set_option Elab.async false
set_option linter.all false
set_option maxRecDepth 100000
set_option maxHeartbeats 4000000
namespace M
open PySem PySem.Spec PyProof.Rows L2 RT
variable [Tabs]
section
variable {prog : Program} {w : World} {A : Around} {E : Value → Shared → Prop} {s : Shared}
theorem call_list_rev {it l : Addr} {items : Array Value} {Q : Value → Shared → Prop} (hh : A.handled = none) (hit : s.heap.IsRevIter it l ((items.size : Int) - 1)) (hl : s.heap.IsList l items) (hne : l ≠ it) (hn : items.size ≤ sizeLine)
    (hQ : ∀ (h' : Heap) (tk : Nat) (acc : Array Value) (c : Nat), (∀ b o, b ≠ it → s.heap.get? b = some o → h'.get? b = some o) → h'.get? s.heap.objs.size = some { cls := .type "list", dict := none, data := .seq acc c, slots := #[] } → ItemsOf (fun i v => items[items.size - 1 - i]? = some v) acc items.size → Q (.ref s.heap.objs.size) { s with heap := h', toks := tk }) :
    wpAny (model prog w) A (call (.type "list") [.ref it]) Q E s := by
  have W := (Walks.listRev (prog := prog) (w := w) (A := A.in1.in1) hh it l hne items).toS
  obtain ⟨oi, hoi, _⟩ := id hit
  obtain ⟨ol, hol, _⟩ := id hl
  have hSi : s.heap.objs.size ≠ it := Nat.ne_of_gt (Heap.lt_size hoi)
  have hSl : s.heap.objs.size ≠ l := Nat.ne_of_gt (Heap.lt_size hol)
  have hSf : s.heap.objs.size ∉ [it, l] := by simp only [List.mem_cons, List.not_mem_nil, or_false, not_or]; exact ⟨hSi, hSl⟩
  refine callType_codes (Q₁ := fun obj s₁ => obj = .ref s.heap.objs.size ∧ s₁ = { s with heap := s.heap.push { cls := .type "list", data := .seq #[] } }) F.called_list (F.typeCall_list_1 _) F.entry_list_init
    (code_list_new _ ⟨rfl, rfl⟩) fun obj s₁ h₁ => ?_
  obtain ⟨rfl, rfl⟩ := h₁
  have hS : (s.heap.push { cls := .type "list", data := .seq #[] }).get? s.heap.objs.size = some { cls := .type "list", data := .seq #[] } := Heap.get?_push_size _ rfl
  refine ⟨⟨_, hS, rfl⟩, F.args_list_init_2 _ _, ?_⟩
  show wpAny _ A.in1.in1 (do let old ← Builtin.List.listItems (.ref s.heap.objs.size); Builtin.List.listUpdate (.ref s.heap.objs.size) (fun _ => #[]); letGo old.toList.reverse; Builtin.List.listExtendWith (.ref s.heap.objs.size) (.ref it) .none) _ _ _
  refine wpAny_bind ?_
  unfold Builtin.List.listItems
  refine wpAny_bind (wpAny_seqItems hS rfl (wpAny_pure ?_))
  show wpAny _ A.in1.in1 (updateSeq s.heap.objs.size (fun _ => #[]) >>= fun _ => letGo (#[] : Array Value).toList.reverse >>= fun _ => Builtin.List.listExtendWith (.ref s.heap.objs.size) (.ref it) .none) _ _ _
  refine wpAny_bind (wpAny_updateSeq hS rfl ?_)
  have hS2 := Heap.get?_update_self (Obj.mapSeq (fun _ => (#[] : Array Value))) hS rfl
  have k2 : ∀ b o, s.heap.get? b = some o → ((s.heap.push { cls := .type "list", data := .seq #[] }).update s.heap.objs.size (Obj.mapSeq (fun _ => (#[] : Array Value)))).get? b = some o := fun b o e =>
    (Heap.get?_update_other _ _ (Ne.symm (Nat.ne_of_lt (Heap.lt_size e)))).trans (Heap.get?_push_of_some _ e)
  refine wpAny_bind (wpAny_letGo ?_)
  unfold Builtin.List.listExtendWith
  generalize hh2 : ((s.heap.push { cls := .type "list", data := .seq #[] }).update s.heap.objs.size (Obj.mapSeq (fun _ => (#[] : Array Value)))) = h2 at hS2 k2 ⊢
  have hit1 : h2.IsRevIter it l ((items.size : Int) - 1) := hit.at fun o e => k2 _ _ e
  have hl1 : h2.IsList l items := by
    obtain ⟨ol, hol, r⟩ := id hl
    exact ⟨ol, k2 _ _ hol, r⟩
  have hT : ({ s with heap := h2 } : Shared).TypeIs (.ref it) "list_reverseiterator" := Heap.IsRevIter.typeIs (s := { s with heap := h2 }) hit1
  have h1 : Builtin.List.listSameRef (.ref s.heap.objs.size) (.ref it) = false := by simp [Builtin.List.listSameRef, hSi]
  refine wpAny_bind (wpAny_typeOf hT ?_)
  rw [if_neg (by rw [h1]; decide)]
  refine wpAny_bind (wpAny_pyIter_revIter (s := { s with heap := h2 }) hit1 ?_)
  refine wpAny_bind (wpAny_holding ?_)
  unfold Builtin.List.listLengthHint
  refine wpAny_bind (wpAny_specialOf hT nolen_lri ?_)
  show wpAny _ A.in1.in1 (specialOf (Value.ref it) (Str.ofString "__length_hint__") >>= _) _ _ _
  refine wpAny_bind (wpAny_specialOf hT hint_lri ?_)
  generalize hid : ("list_reverseiterator.__length_hint__" : String) = id0
  wp_delta
  rw [show splitId id0 = some ("list_reverseiterator", "__length_hint__") from by subst hid; decide +kernel]
  subst hid
  refine wpAny_bind (wpAny_isInstance (b := true) hT (by rw [isSubtype_type]; kernel_rfl) ?_)
  refine wpAny_pure ?_
  rw [if_neg (by decide)]
  have e0 : ((items.size : Nat) : Int) - 1 - ((0 : Nat) : Int) = (items.size : Int) - 1 := by omega
  refine wpAny_pure ⟨plainId_quiet F.plain_extend_loop _, codeAny_extend_loopS W hn _ hSf _ items.size 0 _ _ _ rfl (Nat.zero_le _) ⟨Nat.zero_le _, by rw [e0]; exact hit1, hl1⟩ hS2 (ItemsOf.nil _) fun s' acc' c' hm hS' hacc => ?_⟩
  refine ⟨rfl, ?_⟩
  rw [Moved.eq_with hm]
  refine hQ s'.heap s'.toks acc' c' (fun b o hb e => hm.heap b o (fun hmem => ?_) (k2 b o e)) hS' hacc
  rcases List.mem_cons.mp hmem with e' | hmem
  · exact absurd (Heap.lt_size e) (by rw [e']; exact Nat.lt_irrefl _)
  · exact hb (List.mem_singleton.mp hmem)
end
def tListRev (K : PySem.W.Frag) (te : TE) : TE := fun σ H Q => te σ H fun v H1 => ∃ (a : Addr) (xs : List V), v = .ref a ∧ SqL K H1 a xs ∧ ∀ p, H1 p = none → Q (.ref p) (upd H1 p (.lst xs.reverse))
section
variable {X : Cx} {W : WX} {e : Expr} {m : ME}
theorem pe_listRev {te : TE} {p p2 pos pos2 : Pos} (hg : Gl X "list") (hm : X.mg "list" = none) (hg2 : Gl X "reversed") (hm2 : X.mg "reversed" = none) (hc : X.calm = true) (he : PE X e te)
    (hs : starEach [e] X.env = (false, eval e X.env) :: starEach [] X.env := by rfl)
    (hs2 : starEach [.Call (.Name "reversed" p2) [e] [] pos2] X.env = (false, eval (.Call (.Name "reversed" p2) [e] [] pos2) X.env) :: starEach [] X.env := by rfl) :
    PE X (.Call (.Name "list" p) [.Call (.Name "reversed" p2) [e] [] pos2] [] pos) (tListRev X.K te) := by
  refine ⟨fun pins s σ H Q I h => ?_⟩
  refine Call_ (ld_blt I hg hm (by rfl) (PyProof.Rows.callWith_type1 (args_cons (Call_ (ld_blt I hg2 hm2 PyProof.Rows.boot_reversed (PyProof.Rows.callWith_type1 (args_cons (thn (he.run pins s σ H _ I h) fun u s1 ⟨v, H1, I1, r1, q1⟩ => args_nil ?_) hs) hs rfl))) hs2) hs2 rfl))
  obtain ⟨a, xs, ev, hq, q⟩ := q1
  subst ev
  obtain rfl : u = Value.ref a := r1
  obtain ⟨its, rv, p', hz⟩ := I1.list hq
  refine call_reversed_list p'.isList (args_nil ?_)
  have k0 : ∀ b o, s1.heap.get? b = some o → (s1.heap.push (revObj a ((its.toArray.size : Int) - 1))).get? b = some o := fun b o e => Heap.get?_push_of_some _ e
  have I2 : Inv X pins σ H1 { s1 with heap := s1.heap.push (revObj a ((its.toArray.size : Int) - 1)) } := I1.kept (t' := s1.toks) k0
  obtain ⟨f0, f1, f2, f3, f4, f5⟩ := I1.fpOk (H' := H1) (b := s1.heap.objs.size) (Nat.le_refl _) (I1.hok.fresh (Nat.le_refl _))
  have hl := p'.isList
  obtain ⟨ol, hol, _⟩ := id hl
  have hne : a ≠ s1.heap.objs.size := Nat.ne_of_lt (Heap.lt_size hol)
  have hn : its.toArray.size ≤ sizeLine := by rw [List.size_toArray, ← rv.length]; exact hz
  refine call_list_rev (s := { s1 with heap := s1.heap.push (revObj a ((its.toArray.size : Int) - 1)) }) (I1.ok.hd hc) ⟨_, Heap.get?_push_size _ rfl, rfl, rfl⟩ (hl.push _) hne hn fun h' tk acc c hk hS hi => ?_
  have hsz2 : (s1.heap.push (revObj a ((its.toArray.size : Int) - 1))).objs.size = s1.heap.objs.size + 1 := Heap.size_push ..
  have I3 := I2.turnedNew (h' := h') (t' := tk) (ch := [s1.heap.objs.size]) (T := (s1.heap.push (revObj a ((its.toArray.size : Int) - 1))).objs.size) (ob := .lst xs.reverse) (fun b o hb e => hk b o (fun z => hb (by simp [z])) e)
    (fun b hb => by rw [List.mem_singleton.mp hb]; exact ⟨f0, f1, f2, f3, f4, f5⟩) (Nat.le_refl _) ⟨by rw [List.length_reverse]; exact hz, acc.toList, c, vals_rev rv hi, hS⟩
  exact ⟨.ref _, _, I3, rfl, q _ (I2.hok.fresh (Nat.le_refl _))⟩
end
section
variable {X : Cx} {W : WX} {e : Expr} {m : ME}
def mListRev (m : ME) : MA := fun e S => (m e S).bind fun d S1 => .of ((lstOf S1 d).map List.reverse) S1
theorem nm_listRev {p p2 pos pos2 : Pos} (hg : Gl X "list") (hm : X.mg "list" = none) (hg2 : Gl X "reversed") (hm2 : X.mg "reversed" = none) (hc : X.calm = true) (he : EM X W e m)
    (hs : starEach [e] X.env = (false, eval e X.env) :: starEach [] X.env := by rfl)
    (hs2 : starEach [.Call (.Name "reversed" p2) [e] [] pos2] X.env = (false, eval (.Call (.Name "reversed" p2) [e] [] pos2) X.env) :: starEach [] X.env := by rfl) :
    NM X W (.Call (.Name "list" p) [.Call (.Name "reversed" p2) [e] [] pos2] [] pos) (mListRev m) :=
  pe_imp (pe_listRev hg hm hg2 hm2 hc he hs hs2) fun σ H Q ⟨ρ, e, S, he, R, q⟩ => ⟨ρ, e, S, he, R, (PostN.bind q).mono fun d S1 ρ1 H1 f1 R1 q v r => by
    cases hd : lstOf S1 d with
    | none => rw [hd] at q; exact q.elim
    | some xs =>
      rw [hd] at q
      obtain ⟨a, vs, rfl, hr, rd⟩ := lstOf_rep R1 r hd
      exact ⟨a, vs, rfl, hr, PostN.of_new R1 rd.reverse q⟩⟩
/-- a global that the top has written -/
theorem em_glob {x : Str} {d : D} {v : V} {u : Value} {pos : Pos} (hg : Gl X x) (hm : X.mg x = some u) (r : RelV v u) (rd : ∀ ρ H, RepD X.K ρ H d v) (hd : (x == ("__debug__" : Str)) = false := by decide) : EM X W (.Name x pos) (mC d) := em_c (pe_glob hg hm r hd) rd
end
/-! ### a def of the hook -/
section
variable {P : Program} {w : World} {K : PySem.W.Frag} {mg : Str → Option Value} {base : Heap}
theorem fn_mD {x qual : Str} {params : Arguments} {body : List Stmt} {scope : Scope} {f : Addr} {fd : FuncData} {N ps : List Str} {k : Nat} {b : MS} (F : FunD K x qual params body scope [] [] f fd) (S : FnScope N ps scope)
    (hbody : ∀ (A : Around) (outer : List PySem.Env) (s : Shared) (H : Hp) (E : XK), Room k (A.deeper (envOfC qual scope s.heap.objs.size f fd.code)) →
      BM (cxOf (L2.CX P w) P w K mg base N qual scope f fd.code A outer s H E) (fun c d _ H => E c d H) body b) : FnM P w K mg base (k + 1) f fd ps (runF N.length b) := by
  obtain ⟨oc, od, dV, kV, doc, pm, an, cdv, ct, osl, rfl, lk, hcd, _, _⟩ := F.ex
  refine fn_of lk hcd S (fun vs H Q E h => spM_len h) (fun A outer s H vs Q E hr h => ⟨_, hbody A outer s H E hr, ?_⟩)
  obtain ⟨ρ, ds, S, hl, r, R, q⟩ := h
  refine ⟨ρ, _, S, env_start r, R, ?_⟩
  show PostS K mg _ ρ H _ _
  unfold runF at q
  split at q
  · rename_i d e' S' hb
    rw [hb]
    exact fun ρ' H' v f R' r => q ρ' H' f R' v r
  · rename_i e' S' hb
    rw [hb]
    exact fun ρ' H' σ' f R' _ => q ρ' H' f R' _ .non
  · rename_i c e' S' hb
    rw [hb]
    exact fun ρ' H' σ' C f R' _ => q ρ' H' C f R'
  · exact q.elim
variable {N : List Str} {qual : Str} {scope : Scope} {f : Addr} {cd : Value} {A : Around} {outer : List PySem.Env} {s : Shared} {H : Hp} {E : XK}
theorem tk0 {X : Cx} : Takes X W0 := fun _ _ ⟨_, _, _, _, _, _, _, _, _, _, _, _, _, _, _, _, w⟩ => w.elim
theorem takes_cx : Takes (cxOf (L2.CX P w) P w K mg base N qual scope f cd A outer s H E) (fun cls d _ H' => E cls d H') := takes_of rfl rfl rfl (E₁ := fun e' s'' => L2.CX P w outer H s E e' s'') rfl
theorem owns_cx : PassesOwn (model P w) (cxOf (L2.CX P w) P w K mg base N qual scope f cd A outer s H E).A (cxOf (L2.CX P w) P w K mg base N qual scope f cd A outer s H E).env (cxOf (L2.CX P w) P w K mg base N qual scope f cd A outer s H E).xe :=
  passes_of (X := cxOf (L2.CX P w) P w K mg base N qual scope f cd A outer s H E) (K := fun e s'' => L2.CX P w outer H s E e s'') (E₁ := fun e' s'' => L2.CX P w outer H s E e' s'') rfl
theorem fn_bad {n : Nat} {ps : List Str} {fd : FuncData} (k : Nat) : FnM P w K mg base k f fd ps (fun _ _ => .bad) :=
  ⟨fun _ _ _ _ h => spM_len h, fun _ _ _ _ _ _ _ _ _ _ _ _ _ ⟨_, _, _, _, _, _, q⟩ => q.elim⟩
end
end M


set_option Elab.async false
set_option linter.all false
set_option maxRecDepth 100000
set_option maxHeartbeats 4000000
namespace M
open PySem PySem.Spec PyProof.Rows L2 RZ
variable [Tabs]
/-! ### range with a step, list(range) -/
theorem jok_rngC {K : PySem.W.Frag} {ρ : Rh} {H : Hp} (lo c : Int) (n : Nat) : JOk K ⟨rngC lo c n, []⟩ (Itc lo c n) ρ H :=
  jok_at (fun _ => True) walk_rangeC (by simp [rngC]) (fun _ _ _ _ _ _ => trivial) fun ρ' H' S' i d x H'' f R' ok hd y => by
    obtain ⟨rfl, rfl⟩ := y
    have hi : i < n := by have := (List.getElem?_eq_some_iff.mp hd).1; simpa [rngC] using this
    simp only [rngC, List.getElem?_map, List.getElem?_range hi, Option.map_some, Option.some.injEq] at hd
    subst hd
    exact ⟨rfl, .int _⟩
def rgOk (i j c : Int) : Bool := decide (c ≠ 0 ∧ c.natAbs < 1073741824 ∧ Builtin.Range.small i j c = true ∧ 0 ≤ Builtin.Range.rangeSize i j c)
def srcR3 : List D → Store → Option Src
  | [.int i, .int j, .int c], _ => if rgOk i j c then some ⟨rngC i c (Builtin.Range.rangeSize i j c).toNat, []⟩ else none
  | _, _ => none
theorem reps3 {K : PySem.W.Frag} {ρ : Rh} {H : Hp} {d e f : D} {vs : List V} (h : RepDs K ρ H [d, e, f] vs) : ∃ v w u, vs = [v, w, u] ∧ RepD K ρ H d v ∧ RepD K ρ H e w ∧ RepD K ρ H f u := by
  cases h with
  | cons a h => cases h with
    | cons b h => cases h with
      | cons c h => cases h; exact ⟨_, _, _, rfl, a, b, c⟩
section
variable {X : Cx} {W : WX} {tg a b c e : Expr} {m : MA} {ma mb : ME} {p pos : Pos}
theorem im_range3 (hg : Gl X "range") (hm : X.mg "range" = none) (ha : AM X W [a, b, c] m) (hs : starEach [a, b, c] X.env = (false, eval a X.env) :: starEach [b, c] X.env := by rfl) (hpl : (backTo pos (starEach [b, c] X.env)).any (·.1) = false := by rfl) : IM X W tg (.Call (.Name "range" p) [a, b, c] [] pos) (mSrcA srcR3 m) :=
  pi_imp (pi_range3 hg hm ha hs hpl) fun σ H R' h => tA_src (fun ρ H ds vs S src R r hk q => by
    unfold srcR3 at hk
    split at hk
    · rename_i i j k
      split at hk
      · rename_i hj
        cases hk
        obtain ⟨v, w, u, rfl, r1, r2, r3⟩ := reps3 r
        cases r1
        cases r2
        cases r3
        unfold rgOk at hj
        simp only [decide_eq_true_eq] at hj
        exact ⟨i, j, k, _, rfl, ⟨hj.1, hj.2.1, hj.2.2.1, (Int.toNat_of_nonneg hj.2.2.2).symm⟩, q _ (jok_rngC i k _)⟩
      · cases hk
    · cases hk) h
theorem src_up {i j c : Int} {S : Store} (c0 : 0 < c) (c1 : c < 100000) (h1 : -100000000 ≤ i) (h2 : i < 100000000) (h3 : -100000000 ≤ j) (h4 : j < 100000000) : srcR3 [.int i, .int j, .int c] S = some ⟨rngC i c ((j - i + c - 1) / c).toNat, []⟩ := by
  have hn : 0 ≤ Builtin.Range.rangeSize i j c ∧ Builtin.Range.rangeSize i j c ≤ 200000000 ∧ (Builtin.Range.rangeSize i j c).toNat = ((j - i + c - 1) / c).toNat := by
    unfold Builtin.Range.rangeSize
    rw [if_pos c0]
    by_cases hij : i < j
    · rw [if_pos hij]
      have e : j - i + c - 1 = (j - i - 1) + c := by omega
      have e2 : (j - i - 1 + c) / c = (j - i - 1) / c + 1 := by
        rw [Int.add_ediv_of_dvd_right (Int.dvd_refl c), Int.ediv_self (by omega)]
      have e3 : 0 ≤ (j - i - 1) / c := Int.ediv_nonneg (by omega) (by omega)
      have e4 : (j - i - 1) / c ≤ j - i - 1 := Int.ediv_le_self _ (by omega)
      rw [e, e2]
      omega
    · rw [if_neg hij]
      have e : (j - i + c - 1) / c ≤ 0 := by
        have : (j - i + c - 1) / c < 1 := Int.ediv_lt_of_lt_mul c0 (by omega)
        omega
      omega
  have hs : Builtin.Range.small i j c = true := by
    unfold Builtin.Range.small
    generalize Builtin.Range.rangeSize i j c = n at hn
    rw [if_pos c0]
    simp only [Builtin.Range.rangeFitsLong, Bool.and_eq_true, Bool.or_eq_true, decide_eq_true_eq]
    omega
  have e : srcR3 [.int i, .int j, .int c] S = if rgOk i j c then some ⟨rngC i c (Builtin.Range.rangeSize i j c).toNat, []⟩ else none := rfl
  rw [e, if_pos, hn.2.2]
  exact decide_eq_true ⟨by omega, by omega, hs, hn.1⟩
theorem src_down {i j : Int} {S : Store} (h1 : -100000000 ≤ i) (h2 : i < 100000000) (h3 : -100000000 ≤ j) (h4 : j < 100000000) : srcR3 [.int i, .int j, .int (-1)] S = some ⟨rngC i (-1) (i - j).toNat, []⟩ := by
  have k := RgC.neg (i := i) (j := j) (by omega) (by omega) (by omega) (by omega)
  have e : srcR3 [.int i, .int j, .int (-1)] S = if rgOk i j (-1) then some ⟨rngC i (-1) (Builtin.Range.rangeSize i j (-1)).toNat, []⟩ else none := rfl
  rw [e, k.2.2.2, if_pos]
  · rfl
  · exact decide_eq_true ⟨k.1, k.2.1, k.2.2.1, by rw [k.2.2.2]; omega⟩
/-! list(range(n)) -/
def nRg1 : List D → Store → Option (List D)
  | [.int n], _ => if 0 ≤ n ∧ n ≤ 16777216 then some (rng 0 n.toNat) else none
  | _, _ => none
theorem rng_rep {K : PySem.W.Frag} {ρ : Rh} {H : Hp} (n : Int) : RepDs K ρ H (rng 0 n.toNat) (rgV 0 n) := by
  have e : rng 0 n.toNat = ((List.range n.toNat).map fun (i : Nat) => (0 : Int) + (i : Int)).map D.int := by rw [rng, List.map_map]; rfl
  have e2 : rgV 0 n = ((List.range n.toNat).map fun (i : Nat) => (0 : Int) + (i : Int)).map V.int := by rw [rgV, List.map_map, Int.sub_zero]; rfl
  rw [e, e2]
  exact .of_ints _
theorem nm_listRg {p2 pos2 : Pos} (hg : Gl X "list") (hm : X.mg "list" = none) (hg2 : Gl X "range") (hm2 : X.mg "range" = none) (hc : X.calm = true) (ha : EM X W a ma)
    (na : starEach [a] X.env = (false, eval a X.env) :: starEach [] X.env := by rfl)
    (nb : starEach [.Call (.Name "range" p2) [a] [] pos2] X.env = (false, eval (.Call (.Name "range" p2) [a] [] pos2) X.env) :: starEach [] X.env := by rfl) :
    NM X W (.Call (.Name "list" p) [.Call (.Name "range" p2) [a] [] pos2] [] pos) (mCallN nRg1 (mCons ma mNil)) :=
  pe_imp (pe_listRg hc hg hm (prg_1 hg2 hm2 ha na) nb) fun σ H Q ⟨ρ, e, S, he, R, q⟩ => ⟨ρ, e, S, he, R, by
    have q := PostN.bind q
    unfold mCons at q
    refine (Post.bind q).mono fun d S1 ρ1 H1 f1 R1 q v r => ?_
    have q : PostN X.K X.mg W ρ1 H1 σ Q (Res.of (nRg1 [d] S1) S1) := q ρ1 H1 (Fr.refl _ _) R1
    cases d with
    | int n =>
      by_cases hn : 0 ≤ n ∧ n ≤ 16777216
      · have e1 : nRg1 [.int n] S1 = some (rng 0 n.toNat) := if_pos hn
        rw [e1] at q
        cases r
        exact ⟨n, rfl, RgOk.of_le (by omega) hn.2 (by omega) hn.1, PostN.of_new R1 (rng_rep n) q⟩
      · have e1 : nRg1 [.int n] S1 = none := if_neg hn
        rw [e1] at q; exact q.elim
    | _ => exact q.elim⟩
/-- two lists, one behind the other: a new list -/
def mCat (a b : ME) : MA := fun e S => (a e S).bind fun x S1 => (b e S1).bind fun y S2 => .of (match lstOf' S2 x, lstOf' S2 y with
  | some xs, some ys => if xs.length + ys.length ≤ sizeLine then some (xs ++ ys) else none
  | _, _ => none) S2
theorem nm_cat (ha : EM X W a ma) (hb : EM X W b mb) : NM X W (.BinOp a .Add b pos) (mCat ma mb) :=
  pe_imp (pe_op op_cat ha hb) fun σ H Q ⟨ρ, e, S, he, R, q⟩ => ⟨ρ, e, S, he, R, (PostN.bind q).mono fun x S1 ρ1 H1 f1 R1 q v rv => ⟨ρ1, e, S1, he.fr R.free f1, R1, (PostN.bind q).mono fun y S2 ρ2 H2 f2 R2 q w rw' => by
    have rv2 := RepD.fr R1.free f2 _ _ rv
    cases h1 : lstOf' S2 x with
    | none => rw [h1] at q; exact q.elim
    | some xs =>
      cases h2 : lstOf' S2 y with
      | none => rw [h1, h2] at q; exact q.elim
      | some ys =>
        rw [h1, h2] at q
        dsimp only at q
        by_cases hz : xs.length + ys.length ≤ sizeLine
        · rw [if_pos hz] at q
          obtain ⟨a, vs, rfl, hA, ra⟩ := lstOf'_rep R2 rv2 h1
          obtain ⟨b, ws, rfl, hB, rb⟩ := lstOf'_rep R2 rw' h2
          exact ⟨a, b, vs, ws, rfl, rfl, hA, hB, by rw [← ra.length, ← rb.length]; exact hz, PostN.of_new R2 (ra.append rb) q⟩
        · rw [if_neg hz] at q; exact q.elim⟩⟩
end
end M


set_option Elab.async false
set_option linter.all false
set_option maxRecDepth 100000
set_option maxHeartbeats 4000000
namespace M
open PySem PySem.Spec PyProof.Rows L2 RZ
/-! ### insertion sort -/
section
variable {α : Type} (lt : α → α → Bool)
def insB (x : α) : List α → List α
  | [] => [x]
  | y :: ys => if lt y x = true then y :: insB x ys else x :: y :: ys
def isort : List α → List α
  | [] => []
  | x :: xs => insB lt x (isort xs)
variable {lt}
theorem insB_perm (x : α) : ∀ l : List α, (insB lt x l).Perm (x :: l)
  | [] => List.Perm.refl _
  | y :: ys => by
    unfold insB
    split
    · exact ((insB_perm x ys).cons y).trans (List.Perm.swap x y ys)
    · exact List.Perm.refl _
theorem isort_perm : ∀ l : List α, (isort lt l).Perm l
  | [] => List.Perm.refl _
  | x :: xs => (insB_perm x _).trans ((isort_perm xs).cons x)
theorem insB_srtd (O : SrtO.Swo lt) (x : α) : ∀ l : List α, SrtO.Srtd lt l → SrtO.Srtd lt (insB lt x l)
  | [], _ => List.pairwise_singleton _ _
  | y :: ys, h => by
    have h1 := List.pairwise_cons.mp h
    unfold insB
    split
    · rename_i hy
      refine List.pairwise_cons.mpr ⟨fun z hz => ?_, insB_srtd O x ys h1.2⟩
      rcases List.mem_cons.mp ((insB_perm x ys).mem_iff.mp hz) with rfl | hz
      · exact O.asym _ _ hy
      · exact h1.1 z hz
    · rename_i hy
      have hy : lt y x = false := by simpa using hy
      refine List.pairwise_cons.mpr ⟨fun z hz => ?_, h⟩
      rcases List.mem_cons.mp hz with rfl | hz
      · exact hy
      · exact O.tr x y z hy (h1.1 z hz)
theorem isort_srtd (O : SrtO.Swo lt) : ∀ l : List α, SrtO.Srtd lt (isort lt l)
  | [] => List.Pairwise.nil
  | x :: xs => insB_srtd O x _ (isort_srtd O xs)
theorem srt_uniq (O : SrtO.Swo lt) (ha : ∀ x y, lt x y = false → lt y x = false → x = y) : ∀ {l m : List α}, SrtO.Srtd lt l → SrtO.Srtd lt m → l.Perm m → l = m
  | [], m, _, _, h => (List.Perm.eq_nil h.symm).symm
  | x :: l, [], _, _, h => absurd h.length_eq (by simp)
  | x :: l, y :: m, hl, hm, h => by
    have h1 : lt x y = false := by
      rcases List.mem_cons.mp (h.mem_iff.mp (List.mem_cons_self (a := x) (l := l))) with e | hx
      · rw [e]; exact O.refl y
      · exact SrtO.srtd_head hm x hx
    have h2 : lt y x = false := by
      rcases List.mem_cons.mp (h.mem_iff.mpr (List.mem_cons_self (a := y) (l := m))) with e | hy
      · rw [e]; exact O.refl x
      · exact SrtO.srtd_head hl y hy
    have e : x = y := ha _ _ h1 h2
    subst e
    rw [srt_uniq O ha (List.pairwise_cons.mp hl).2 (List.pairwise_cons.mp hm).2 h.cons_inv]
end
abbrev lexB := SrtO.lexB
theorem lex_swo : SrtO.Swo lexB := by
  refine ⟨fun x y h => ?_, fun x y z h1 h2 => ?_⟩
  · have a := SrtO.lexB_iff.mp h
    refine SrtO.lexB_no.mpr ?_
    omega
  · have a := SrtO.lexB_no.mp h1
    have b := SrtO.lexB_no.mp h2
    refine SrtO.lexB_no.mpr ?_
    omega
theorem lex_anti (x y : Int × Int) (h1 : lexB x y = false) (h2 : lexB y x = false) : x = y := by
  have a := SrtO.lexB_no.mp h1
  have b := SrtO.lexB_no.mp h2
  exact Prod.ext (by omega) (by omega)
def ltI (x y : Int) : Bool := decide (x < y)
theorem ltI_swo : SrtO.Swo ltI := by
  refine ⟨fun x y h => ?_, fun x y z h1 h2 => ?_⟩
  · simp only [ltI, decide_eq_true_eq, decide_eq_false_iff_not] at *; omega
  · simp only [ltI, decide_eq_false_iff_not] at *; omega
theorem ltI_anti (x y : Int) (h1 : ltI x y = false) (h2 : ltI y x = false) : x = y := by
  simp only [ltI, decide_eq_false_iff_not] at *; omega
/-! ### sorted -/
def pD (p : Int × Int) : D := .tup [.int p.1, .int p.2]
def pairsOf : List D → Option (List (Int × Int))
  | [] => some []
  | .tup [.int i, .int j] :: ds => (pairsOf ds).map ((i, j) :: ·)
  | _ => none
theorem pairsOf_eq : ∀ {ds : List D} {ps : List (Int × Int)}, pairsOf ds = some ps → ds = ps.map pD := by
  intro ds
  induction ds with
  | nil => intro ps h; simp only [pairsOf, Option.some.injEq] at h; subst h; rfl
  | cons d ds ih =>
    intro ps h
    unfold pairsOf at h
    split at h
    · rename_i heq; cases heq
    · rename_i heq
      cases heq
      cases hp : pairsOf ds with
      | none => rw [hp] at h; cases h
      | some qs =>
        rw [hp] at h
        simp only [Option.map_some, Option.some.injEq] at h
        subst h
        rw [ih hp]; rfl
    · cases h
theorem pairsOf_pD : ∀ ps : List (Int × Int), pairsOf (ps.map pD) = some ps
  | [] => rfl
  | p :: ps => by
    show (pairsOf (ps.map pD)).map _ = _
    rw [pairsOf_pD ps]; rfl
variable [Tabs]
def nSorted : List D → Store → Option (List D)
  | [d], S => (lstOf S d).bind fun xs => match pairsOf xs with
    | some ps => some ((isort lexB ps).map pD)
    | none => (intsOf xs).map fun ns => (isort ltI ns).map .int
  | _, _ => none
section
variable {X : Cx}
theorem rep_pair {K : PySem.W.Frag} {ρ : Rh} {H : Hp} {p : Int × Int} {v : V} (h : RepD K ρ H (pD p) v) : ∃ t, v = .ref t ∧ SqT K H t [.int p.1, .int p.2] := by
  cases h with
  | tup hs hd =>
    cases hd with
    | cons a hd => cases hd with
      | cons b hd => cases hd; cases a; cases b; exact ⟨_, rfl, hs⟩
theorem reps_mem {K : PySem.W.Frag} {ρ : Rh} {H : Hp} : ∀ {ps : List (Int × Int)} {vs : List V}, RepDs K ρ H (ps.map pD) vs → ∀ v ∈ vs, ∃ p, p ∈ ps ∧ RepD K ρ H (pD p) v
  | [], _, h, v, hv => by cases h; cases hv
  | p :: ps, _, h, v, hv => by
    cases h with
    | cons a h =>
      rcases List.mem_cons.mp hv with rfl | hv
      · exact ⟨p, by simp, a⟩
      · obtain ⟨q, hq, r⟩ := reps_mem h v hv
        exact ⟨q, List.mem_cons_of_mem _ hq, r⟩
theorem isPair_uniq {h : Heap} {v : Value} {x y x' y' : Int} (a : Srt.IsPair h v x y) (b : Srt.IsPair h v x' y') : x = x' ∧ y = y' := by
  obtain ⟨a1, o, t, u, n, e, ho, hc, hd⟩ := a
  obtain ⟨a2, o', t', u', n', e', ho', hc', hd'⟩ := b
  rw [e] at e'
  cases e'
  rw [ho] at ho'
  cases ho'
  rw [hd] at hd'
  injection hd' with q _
  have q := congrArg Array.toList q
  simp at q
  exact ⟨q.1.1, q.2.1⟩
open Classical in
theorem cn_sorted : CallN X (.builtin "sorted") nSorted := fun pins s σ ρ H S ds vs us Q I R r rv ⟨zs, e, q⟩ => by
  match ds, r, e with
  | [], _, e => cases e
  | _ :: _ :: _, _, e => cases e
  | [d], r, e =>
    simp only [nSorted] at e
    obtain ⟨v, rfl, r1⟩ := reps1 r
    cases hl : lstOf S d with
    | none => rw [hl] at e; cases e
    | some xs =>
      rw [hl] at e
      simp only [Option.bind_some] at e
      obtain ⟨a, ws, rfl, hq, rx⟩ := lstOf_rep R r1 hl
      cases hp : pairsOf xs with
      | some ps =>
        rw [hp] at e
        dsimp only at e
        cases e
        have hx := pairsOf_eq hp
        subst hx
        obtain ⟨its, rvs, hL, hz⟩ := I.list hq
        obtain ⟨u, rfl, ru⟩ := vals1 rv
        obtain rfl : u = Value.ref a := ru
        have href : ∀ x ∈ ws, ∃ t, x = V.ref t := fun x m => by
          obtain ⟨p, _, rp⟩ := reps_mem rx x m
          obtain ⟨t, rfl, _⟩ := rep_pair rp
          exact ⟨t, rfl⟩
        obtain ⟨e1, e2⟩ := refs_back rvs href
        have hpair : ∀ v ∈ its, ∃ p, p ∈ ps ∧ RepD X.K ρ H (pD p) (backV v) ∧ Srt.IsPair s.heap v p.1 p.2 := fun v hv => by
          obtain ⟨t, rfl⟩ := e2 v hv
          have hm : V.ref t ∈ ws := by rw [e1]; exact List.mem_map.mpr ⟨_, hv, rfl⟩
          obtain ⟨p, hp, rp⟩ := reps_mem rx _ hm
          obtain ⟨t', et, hT⟩ := rep_pair rp
          cases et
          obtain ⟨its2, r2, pt, _⟩ := I.tuple hT
          obtain ⟨u1, u2, rfl, ri, rj⟩ := vals2 r2
          obtain ⟨t1, rfl⟩ := ri
          obtain ⟨t2, rfl⟩ := rj
          obtain ⟨o, ho, hc, n, hd⟩ := (show s.heap.IsTuple t _ from pt)
          exact ⟨p, hp, rp, t, o, t1, t2, n, rfl, ho, hc, hd⟩
        let k : Value → Int × Int := fun v => if h : ∃ p : Int × Int, Srt.IsPair s.heap v p.1 p.2 then Classical.choose h else (0, 0)
        have hk : ∀ v p, Srt.IsPair s.heap v p.1 p.2 → k v = p := fun v p hv => by
          have h : ∃ p : Int × Int, Srt.IsPair s.heap v p.1 p.2 := ⟨p, hv⟩
          have e3 : k v = Classical.choose h := dif_pos h
          rw [e3]
          have := isPair_uniq (Classical.choose_spec h) hv
          exact Prod.ext this.1 this.2
        have hks : its.map k = ps := by
          have : ∀ {its : List Value} {ws : List V} {ps : List (Int × Int)}, Vals ws its → RepDs X.K ρ H (ps.map pD) ws → its.map k = ps := by
            intro its ws ps h1
            induction h1 generalizing ps with
            | nil => intro h2; cases ps with
              | nil => rfl
              | cons => cases h2
            | cons a b ih => intro h2; cases ps with
              | nil => cases h2
              | cons p ps =>
                cases h2 with
                | cons c d =>
                  rw [List.map_cons, ih d]
                  congr 1
                  obtain ⟨t, rfl, hT⟩ := rep_pair c
                  rename_i u _ _
                  obtain rfl : u = Value.ref t := a
                  obtain ⟨its2, r2, pt, _⟩ := I.tuple hT
                  obtain ⟨u1, u2, rfl, ri, rj⟩ := vals2 r2
                  obtain ⟨t1, rfl⟩ := ri
                  obtain ⟨t2, rfl⟩ := rj
                  obtain ⟨o, ho, hc, n, hd⟩ := (show s.heap.IsTuple t _ from pt)
                  exact hk _ p ⟨t, o, t1, t2, n, rfl, ho, hc, hd⟩
          exact this rvs rx
        refine SrtO.sorted_pairsO (k := k) hL.isList (by rw [← rvs.length]; exact hz) (fun v hv => ?_) fun h' dd out h1 h2 kp hd hn => ?_
        · obtain ⟨p, _, _, hP⟩ := hpair v hv
          rw [hk v p hP]; exact hP
        · have h3 : ∀ u ∈ out, ∃ a, u = Value.ref a := fun u hu => e2 u (h2.perm.mem_iff.mp hu)
          obtain ⟨n, hn⟩ := hn
          have hsort : out.map k = isort lexB ps := by
            refine srt_uniq lex_swo lex_anti (SrtO.srtd_map (lt := lexB) h1) (isort_srtd lex_swo ps) ?_
            rw [← hks]
            exact (h2.perm.map k).trans (isort_perm _).symm
          have hrep : RepDs X.K ρ H ((isort lexB ps).map pD) (out.map backV) := by
            rw [← hsort]
            have : ∀ l : List Value, (∀ v ∈ l, v ∈ its) → RepDs X.K ρ H ((l.map k).map pD) (l.map backV) := by
              intro l
              induction l with
              | nil => intro _; exact .nil
              | cons v l ih =>
                intro hl
                obtain ⟨p, _, rp, hP⟩ := hpair v (hl v (by simp))
                refine .cons ?_ (ih fun w hw => hl w (List.mem_cons_of_mem _ hw))
                rw [hk v p hP]; exact rp
            exact this out fun v hv => h2.perm.mem_iff.mp hv
          have hlen : (out.map backV).length ≤ sizeLine := by rw [List.length_map, h2.perm.length_eq, ← rvs.length]; exact hz
          exact ⟨.ref dd, upd H dd (.lst (out.map backV)), I.laid (t' := s.toks) kp hd ⟨hlen, out, n, vals_back h3, hn⟩, rfl, q _ hrep _ (I.hok.fresh hd)⟩
      | none =>
        rw [hp] at e
        dsimp only at e
        cases hi : intsOf xs with
        | none => rw [hi] at e; cases e
        | some ns =>
          rw [hi] at e
          cases e
          have hx := intsOf_eq hi
          subst hx
          have hw := rx.ints
          subst hw
          refine cr_sortedI pins s σ H _ us Q I rv ⟨a, ns, rfl, hq, fun ns' p h1 h2 hp => ?_⟩
          have hs : ns' = isort ltI ns := by
            refine srt_uniq ltI_swo ltI_anti ?_ (isort_srtd ltI_swo ns) (h1.trans (isort_perm _).symm)
            exact h2.imp fun h => by simp only [ltI, decide_eq_false_iff_not]; omega
          subst hs
          exact q _ (.of_ints _) p hp
/-! ### a star in a display -/
variable {W : WX} {e : Expr} {es : List Expr} {m : MA} {me : ME} {p : Pos}
def mStar (me : ME) (m : MA) : MA := fun e S => (me e S).bind fun d S1 => match seqOf S1 d with
  | some xs => (m e S1).bind fun ys S2 => .ok (xs ++ ys) S2
  | none => .bad
theorem am_star (he : EM X W e me) (hr : AM X W es m) (hs : starEach (.Starred e p :: es) X.env = (true, eval e X.env) :: starEach es X.env := by rfl) : AM X W (.Starred e p :: es) (mStar me m) :=
  pa_imp (StX.pa_star he hr hs) fun σ H Q ⟨ρ, e, S, he, R, q⟩ => ⟨ρ, e, S, he, R, (Post.bind q).mono fun d S1 ρ1 H1 f1 R1 q v rv => by
    cases hx : seqOf S1 d with
    | none => rw [hx] at q; exact q.elim
    | some xs =>
      rw [hx] at q
      dsimp only at q
      obtain ⟨a, vs, rfl, hq, rx⟩ := seqOf_rep R1 rv hx
      refine ⟨a, vs, rfl, hq.symm, ρ1, e, S1, he.fr R.free f1, R1, (Post.bind q).mono fun ys S2 ρ2 H2 f2 R2 q ws rw' => ?_⟩
      exact q ρ2 H2 (Fr.refl _ _) R2 _ ((RepDs.fr R1.free f2 _ _ rx).append rw')⟩
/-- a, b, c = x, y, z -/
def sPar3 (i j l : Nat) (m : MA) : MS := fun e S => (m e S).st e fun ds S1 => match ds with
  | [d1, d2, d3] => some (.nx, ((e.set i (some d1)).set j (some d2)).set l (some d3), S1)
  | _ => none
theorem sm_par3 {i j l : Nat} {x y z : Str} {a b c : Expr} {m : MA} {px py pz pt pos : Pos} {kt k2 pt2} (hc : X.calm = true) (hN : X.N.Nodup) (hi : X.N[i]? = some x) (hj : X.N[j]? = some y) (hl : X.N[l]? = some z) (hij : i ≠ j) (hil : i ≠ l) (hjl : j ≠ l)
    (hx : X.env.scope.names.lookup x = some .local) (hy : X.env.scope.names.lookup y = some .local) (hz : X.env.scope.names.lookup z = some .local) (ha : AM X W [a, b, c] m)
    (hw : swappedStores [.Tuple [.Name x px, .Name y py, .Name z pz] kt pt] (.Tuple [a, b, c] k2 pt2) X.env = pure (some [x, y, z]))
    (hs : swapsWithSole [.Tuple [.Name x px, .Name y py, .Name z pz] kt pt] (.Tuple [a, b, c] k2 pt2) pos.line X.env = pure false := by rfl) :
    SM X W (.Assign [.Tuple [.Name x px, .Name y py, .Name z pz] kt pt] (.Tuple [a, b, c] k2 pt2) pos) (sPar3 i j l m) :=
  ps_imp (ps_par3 hc hN hi hj hl hij hil hjl hx hy hz ha hw hs) fun Dn σ H ⟨ρ, e, S, he, R, q⟩ => ⟨ρ, e, S, he, R, (PostS.st R he q).mono fun ds S1 ρ1 H1 f1 R1 q vs r => by
    match ds, r, q with
    | [d1, d2, d3], r, q =>
      obtain ⟨v1, v2, v3, rfl, r1, r2, r3⟩ := reps3 r
      exact ⟨v1, v2, v3, rfl, q ρ1 H1 _ (Fr.refl _ _) R1 (((((he.fr R.free f1).set i r1).set j r2)).set l r3)⟩
    | [], _, q => exact q.elim
    | [_], _, q => exact q.elim
    | [_, _], _, q => exact q.elim
    | _ :: _ :: _ :: _ :: _, _, q => exact q.elim⟩
end
end M


set_option Elab.async false
set_option linter.all false
set_option maxRecDepth 100000
set_option maxHeartbeats 4000000
namespace M.Fo
open PySem PySem.Spec PyProof.Rows L2 M
noncomputable def b_is_number : MS := (sRet (mAndV (mCall dIsInst (mCons (mVar 0) (mCons (mC (.ty "int")) mNil))) (mAndV (mNotV (mCall dIsInst (mCons (mVar 0) (mCons (mC (.ty "bool")) mNil)))) (mChain dLe dLe (mVar 1) (mVar 0) (mVar 2)))))
noncomputable def m_is_number : List D → Store → Res D := retV (runF 3 b_is_number)
noncomputable def e_is_pair_1 : ME := (mCallF 3 m_is_number (mCons (mVar 1) (mCons (mC (.int 0)) (mCons (mC (.int 1000000000)) mNil))))
noncomputable def b_is_pair : MS := (sRet (mAndV (mCall dIsInst (mCons (mVar 0) (mCons (mC (.ty "tuple")) mNil))) (mAndV (mBin dEq (mCall dLen (mCons (mVar 0) mNil)) (mC (.int 2))) (mAll false (mSrc (mVar 0)) (gN 1) e_is_pair_1 [1]))))
noncomputable def m_is_pair : List D → Store → Res D := retV (runF 2 b_is_pair)
noncomputable def e_is_front_1 : ME := (mCallF 1 m_is_pair (mCons (mVar 1) mNil))
noncomputable def e_is_front_2 : ME := (mAndV (mBin dLt (mBin dIx (mVar 1) (mC (.int 0))) (mBin dIx (mVar 2) (mC (.int 0)))) (mBin dGt (mBin dIx (mVar 1) (mC (.int 1))) (mBin dIx (mVar 2) (mC (.int 1)))))
noncomputable def b_is_front : MS := (sSeq (sIf (mOr (mNot (mTru (mCall dIsInst (mCons (mVar 0) (mCons (mC (.ty "tuple")) mNil))))) (mOr (mNot (mB (mChain dLe dLe (mC (.int 1)) (mCall dLen (mCons (mVar 0) mNil)) (mC (.int 4000))))) (mNot (mTru (mAll false (mSrc (mVar 0)) (gN 1) e_is_front_1 [1]))))) (sRet (mC (.bl false))) sSkip) (sRet (mAll false (mSrcA srcZip (mCons (mVar 0) (mCons (mSlice (mVar 0) (mPart (mC (.int 1))) mNo) mNil))) (gTup 2 (gCons (gN 1) (gCons (gN 2) gNil))) e_is_front_2 [1, 2])))
noncomputable def m_is_front : List D → Store → Res D := retV (runF 3 b_is_front)
noncomputable def b_front_of_1 : MS := (sExpr (mMeth "list" gAppend (mVar 1) (mCons (mTup (mCons (mVar 2) (mCons (mVar 3) mNil))) mNil)))
noncomputable def l_front_of_2 : MS := (sIf (mOr (mB (mBin dEq (mCall dLen (mCons (mVar 1) mNil)) (mC (.int 0)))) (mB (mBin dLt (mVar 3) (mBin dIx (mBin dIx (mVar 1) (mUn dNeg (mC (.int 1)))) (mC (.int 1)))))) b_front_of_1 sSkip)
noncomputable def b_front_of : MS := (sSeq (sSet (gN 1) (asL (mLst mNil))) (sSeq (sFor (mSrc (asV (mCallN nSorted (mCons (mVar 0) mNil)))) (gTup 2 (gCons (gN 2) (gCons (gN 3) gNil))) l_front_of_2) (sSeq (sIf (mB (mBin dGt (mCall dLen (mCons (mVar 1) mNil)) (mC (.int 4000)))) sNever sSkip) (sRet (mCall dTuple (mCons (mVar 1) mNil))))))
noncomputable def m_front_of : List D → Store → Res D := retV (runF 4 b_front_of)
noncomputable def e_put_together_1 : ME := (mTup (mCons (mBin dAdd (mVar 3) (mVar 5)) (mCons (mBin dAdd (mVar 4) (mVar 6)) mNil)))
noncomputable def l_put_together_2 : MS := (sExpr (mMeth "list" gExtend (mVar 2) (mCons (asV (mLc (mSrc (mVar 1)) (gTup 2 (gCons (gN 5) (gCons (gN 6) gNil))) mYes e_put_together_1 [5, 6])) mNil)))
noncomputable def b_put_together : MS := (sSeq (sSet (gN 2) (asL (mLst mNil))) (sSeq (sFor (mSrc (mVar 0)) (gTup 2 (gCons (gN 3) (gCons (gN 4) gNil))) l_put_together_2) (sRet (mCallF 1 m_front_of (mCons (mVar 2) mNil)))))
noncomputable def m_put_together : List D → Store → Res D := retV (runF 7 b_put_together)
noncomputable def b_either : MS := (sRet (mCallF 1 m_front_of (mCons (asV (mLst (mStar (mVar 0) (mStar (mVar 1) mNil)))) mNil)))
noncomputable def m_either : List D → Store → Res D := retV (runF 2 b_either)
noncomputable def l_all_together_1 : MS := (sSet (gN 1) (mCallF 2 m_put_together (mCons (mVar 1) (mCons (mVar 2) mNil))))
noncomputable def b_all_together : MS := (sSeq (sSet (gN 1) (mTup (mCons (mTup (mCons (mC (.int 0)) (mCons (mC (.int 0)) mNil))) mNil))) (sSeq (sFor (mSrc (mVar 0)) (gN 2) l_all_together_1) (sRet (mVar 1))))
noncomputable def m_all_together : List D → Store → Res D := retV (runF 3 b_all_together)
noncomputable def l_least_bits_1 : MS := (sIf (mB (mBin dLe (mBin dIx (mVar 2) (mC (.int 1))) (mVar 1))) (sRet (mVar 2)) sSkip)
noncomputable def b_least_bits : MS := (sSeq (sFor (mSrc (mVar 0)) (gN 2) l_least_bits_1) sNever)
noncomputable def m_least_bits : List D → Store → Res D := retV (runF 3 b_least_bits)
noncomputable def l_least_loss_1 : MS := (sIf (mB (mBin dLe (mBin dIx (mVar 3) (mC (.int 0))) (mVar 1))) (sSet (gN 2) (mVar 3)) sSkip)
noncomputable def b_least_loss : MS := (sSeq (sSet (gN 2) (mC .non)) (sSeq (sFor (mSrc (mVar 0)) (gN 3) l_least_loss_1) (sSeq (sIf (mB (mBin dIs (mVar 2) (mC .non))) sNever sSkip) (sRet (mVar 2)))))
noncomputable def m_least_loss : List D → Store → Res D := retV (runF 4 b_least_loss)
noncomputable def b_is_price : MS := (sSeq (sIf (mOr (mNot (mTru (mCall dIsInst (mCons (mVar 0) (mCons (mC (.ty "tuple")) mNil))))) (mB (mBin dNe (mCall dLen (mCons (mVar 0) mNil)) (mC (.int 2))))) (sRet (mC (.bl false))) sSkip) (sRet (mAndV (mCallF 3 m_is_number (mCons (mBin dIx (mVar 0) (mC (.int 0))) (mCons (mC (.int 1)) (mCons (mC (.int 1000000)) mNil)))) (mCallF 3 m_is_number (mCons (mBin dIx (mVar 0) (mC (.int 1))) (mCons (mC (.int 1)) (mCons (mC (.int 1000000)) mNil)))))))
noncomputable def m_is_price : List D → Store → Res D := retV (runF 1 b_is_price)
noncomputable def b_weighed : MS := (sRet (mBin dAdd (mBin dMul (mBin dIx (mVar 0) (mC (.int 0))) (mBin dIx (mVar 1) (mC (.int 0)))) (mBin dMul (mBin dIx (mVar 0) (mC (.int 1))) (mBin dIx (mVar 1) (mC (.int 1))))))
noncomputable def m_weighed : List D → Store → Res D := retV (runF 2 b_weighed)
noncomputable def l_best_at_1 : MS := (sIf (mB (mBin dLt (mCallF 2 m_weighed (mCons (mVar 1) (mCons (mVar 3) mNil))) (mCallF 2 m_weighed (mCons (mVar 1) (mCons (mVar 2) mNil))))) (sSet (gN 2) (mVar 3)) sSkip)
noncomputable def b_best_at : MS := (sSeq (sIf (mNot (mTru (mCallF 1 m_is_price (mCons (mVar 1) mNil)))) sNever sSkip) (sSeq (sSet (gN 2) (mBin dIx (mVar 0) (mC (.int 0)))) (sSeq (sFor (mSrc (mSlice (mVar 0) (mPart (mC (.int 1))) mNo)) (gN 3) l_best_at_1) (sRet (mVar 2)))))
noncomputable def m_best_at : List D → Store → Res D := retV (runF 4 b_best_at)
noncomputable def b_is_below : MS := (sRet (mBin dGt (mBin dMul (mBin dSub (mBin dIx (mVar 0) (mC (.int 1))) (mBin dIx (mVar 1) (mC (.int 1)))) (mBin dSub (mBin dIx (mVar 2) (mC (.int 0))) (mBin dIx (mVar 0) (mC (.int 0))))) (mBin dMul (mBin dSub (mBin dIx (mVar 0) (mC (.int 1))) (mBin dIx (mVar 2) (mC (.int 1)))) (mBin dSub (mBin dIx (mVar 1) (mC (.int 0))) (mBin dIx (mVar 0) (mC (.int 0)))))))
noncomputable def m_is_below : List D → Store → Res D := retV (runF 3 b_is_below)
noncomputable def l_hull_1 : MS := (sExpr (mMeth "list" gPop (mVar 1) mNil))
noncomputable def t_hull_2 : MT := (mAnd (mB (mBin dGt (mCall dLen (mCons (mVar 1) mNil)) (mC (.int 1)))) (mNot (mTru (mCallF 3 m_is_below (mCons (mBin dIx (mVar 1) (mUn dNeg (mC (.int 2)))) (mCons (mBin dIx (mVar 1) (mUn dNeg (mC (.int 1)))) (mCons (mVar 2) mNil)))))))
noncomputable def l_hull_3 : MS := (sSeq (sWhile (2^40) t_hull_2 l_hull_1) (sExpr (mMeth "list" gAppend (mVar 1) (mCons (mVar 2) mNil))))
noncomputable def b_hull : MS := (sSeq (sSet (gN 1) (asL (mLst mNil))) (sSeq (sFor (mSrc (mVar 0)) (gN 2) l_hull_3) (sRet (mCall dTuple (mCons (mVar 1) mNil)))))
noncomputable def m_hull : List D → Store → Res D := retV (runF 3 b_hull)
noncomputable def l_in_order_1 : MS := (sSet (gN 3) (mBin dSub (mVar 3) (mC (.int 1))))
noncomputable def t_in_order_2 : MT := (mAnd (mB (mBin dGt (mVar 3) (mC (.int 0)))) (mB (mBin dLt (mBin dMul (mBin dIx (mBin dIx (mVar 1) (mBin dSub (mVar 3) (mC (.int 1)))) (mC (.int 1))) (mBin dIx (mVar 2) (mC (.int 0)))) (mBin dMul (mBin dIx (mVar 2) (mC (.int 1))) (mBin dIx (mBin dIx (mVar 1) (mBin dSub (mVar 3) (mC (.int 1)))) (mC (.int 0)))))))
noncomputable def l_in_order_3 : MS := (sSeq (sSet (gN 3) (mCall dLen (mCons (mVar 1) mNil))) (sSeq (sWhile (2^40) t_in_order_2 l_in_order_1) (sExpr (mMeth "list" gInsert (mVar 1) (mCons (mVar 3) (mCons (mVar 2) mNil))))))
noncomputable def b_in_order : MS := (sSeq (sSet (gN 1) (asL (mLst mNil))) (sSeq (sFor (mSrc (mVar 0)) (gN 2) l_in_order_3) (sRet (mVar 1))))
noncomputable def m_in_order : List D → Store → Res D := retV (runF 4 b_in_order)
noncomputable def l_hull_together_1 : MS := (sExpr (mMeth "list" gAppend (mVar 1) (mCons (mTup (mCons (mBin dSub (mBin dIx (mVar 7) (mC (.int 0))) (mBin dIx (mVar 6) (mC (.int 0)))) (mCons (mBin dSub (mBin dIx (mVar 6) (mC (.int 1))) (mBin dIx (mVar 7) (mC (.int 1)))) mNil))) mNil)))
noncomputable def l_hull_together_2 : MS := (sSeq (sSet (gN 5) (mCallF 1 m_hull (mCons (mVar 4) mNil))) (sSeq (sPar 2 3 (mCons (mBin dAdd (mVar 2) (mBin dIx (mBin dIx (mVar 5) (mC (.int 0))) (mC (.int 0)))) (mCons (mBin dAdd (mVar 3) (mBin dIx (mBin dIx (mVar 5) (mC (.int 0))) (mC (.int 1)))) mNil))) (sFor (mSrcA srcZip (mCons (mVar 5) (mCons (mSlice (mVar 5) (mPart (mC (.int 1))) mNo) mNil))) (gTup 2 (gCons (gN 6) (gCons (gN 7) gNil))) l_hull_together_1)))
noncomputable def l_hull_together_3 : MS := (sExpr (mMeth "list" gAppend (mVar 8) (mCons (mTup (mCons (mBin dAdd (mBin dIx (mBin dIx (mVar 8) (mUn dNeg (mC (.int 1)))) (mC (.int 0))) (mVar 9)) (mCons (mBin dSub (mBin dIx (mBin dIx (mVar 8) (mUn dNeg (mC (.int 1)))) (mC (.int 1))) (mVar 10)) mNil))) mNil)))
noncomputable def b_hull_together : MS := (sSeq (sPar3 1 2 3 (mCons (asL (mLst mNil)) (mCons (mC (.int 0)) (mCons (mC (.int 0)) mNil)))) (sSeq (sFor (mSrc (mVar 0)) (gN 4) l_hull_together_2) (sSeq (sSet (gN 8) (asL (mLst (mCons (mTup (mCons (mVar 2) (mCons (mVar 3) mNil))) mNil)))) (sSeq (sFor (mSrc (mCallF 1 m_in_order (mCons (mVar 1) mNil))) (gTup 2 (gCons (gN 9) (gCons (gN 10) gNil))) l_hull_together_3) (sRet (mCallF 1 m_hull (mCons (mCall dTuple (mCons (mVar 8) mNil)) mNil)))))))
noncomputable def m_hull_together : List D → Store → Res D := retV (runF 11 b_hull_together)
noncomputable def e_bound_by_1 : ME := (mCallF 2 m_weighed (mCons (mVar 1) (mCons (mCallF 2 m_best_at (mCons (mVar 4) (mCons (mVar 1) mNil))) mNil)))
noncomputable def b_bound_by : MS := (sSeq (sSet (gN 3) (mCall dSum (mCons (asV (mLc (mSrc (mVar 0)) (gN 4) mYes e_bound_by_1 [4])) mNil))) (sRet (mCall dMax (mCons (mC (.int 0)) (mCons (mBin dFdiv (mBin dSub (mBin dAdd (mBin dSub (mVar 3) (mBin dMul (mBin dIx (mVar 1) (mC (.int 1))) (mVar 2))) (mBin dIx (mVar 1) (mC (.int 0)))) (mC (.int 1))) (mBin dIx (mVar 1) (mC (.int 0)))) mNil)))))
noncomputable def m_bound_by : List D → Store → Res D := retV (runF 5 b_bound_by)
end M.Fo


set_option Elab.async false
set_option linter.all false
set_option maxRecDepth 100000
set_option maxHeartbeats 4000000
/-! Plain lemmas: what the mirrors come to. -/
namespace M
open PySem PySem.Spec PyProof.Rows L2
section
variable [Tabs]
abbrev I (l : List Int) : List D := l.map D.int
/-- a picture -/
abbrev pic (a : List (List Int)) : D := .tup (a.map fun r => .tup (I r))
/-! ### the combinators -/
variable {e : Env} {S : Store} {d : D} {a b c : ME} {g : DOp} {i j : Nat}
@[simp] theorem x_mC : mC d e S = .ok d S := rfl
@[simp] theorem x_mVar : mVar i e S = (match e[i]? with | some (some d) => .ok d S | _ => .bad) := rfl
@[simp] theorem x_mBin : mBin g a b e S = (a e S).bind fun x S1 => (b e S1).bind fun y S2 => .of (g x y S2) S2 := rfl
@[simp] theorem x_mNil : mNil e S = .ok [] S := rfl
@[simp] theorem x_mCons {r : MA} : mCons a r e S = (a e S).bind fun d S1 => (r e S1).bind fun ds S2 => .ok (d :: ds) S2 := rfl
@[simp] theorem x_mCall {h : List D → Store → Option D} {m : MA} : mCall h m e S = (m e S).bind fun ds S1 => .of (h ds S1) S1 := rfl
@[simp] theorem x_mCallN {h : List D → Store → Option (List D)} {m : MA} : mCallN h m e S = (m e S).bind fun ds S1 => .of (h ds S1) S1 := rfl
@[simp] theorem x_mCallF {n : Nat} {h : List D → Store → Res D} {m : MA} : mCallF n h m e S = (m e S).bind fun ds S1 => if ds.length = n then h ds S1 else .bad := rfl
@[simp] theorem x_asV {m : MA} : asV m e S = (m e S).bind fun ds S1 => .ok (.lst ds) S1 := rfl
@[simp] theorem x_asL {m : MA} : asL m e S = (m e S).bind fun ds S1 => .ok (.loc S1.length) (S1 ++ [.lst ds]) := rfl
@[simp] theorem x_mLst {m : MA} : mLst m e S = (m e S).bind fun ds S1 => .of (if ds.length ≤ sizeLine then some ds else none) S1 := rfl
@[simp] theorem x_mTup {m : MA} : mTup m e S = (m e S).bind fun ds S1 => .of (if ds.length ≤ sizeLine then some (.tup ds) else none) S1 := rfl
@[simp] theorem x_mB {m : ME} : mB m e S = (m e S).bind fun d S1 => .of (bOf d) S1 := rfl
@[simp] theorem x_bOf {k : Bool} : bOf (.bl k) = some k := rfl
@[simp] theorem x_mTru {m : ME} : mTru m e S = (m e S).bind fun d S1 => .of (truOf S1 d) S1 := rfl
@[simp] theorem x_truB {k : Bool} : truOf S (.bl k) = some k := rfl
@[simp] theorem x_mAnd {s t : MT} : mAnd s t e S = (s e S).bind fun c S1 => if c = true then t e S1 else .ok false S1 := rfl
@[simp] theorem x_mOr {s t : MT} : mOr s t e S = (s e S).bind fun c S1 => if c = true then .ok true S1 else t e S1 := rfl
@[simp] theorem x_mNot {s : MT} : mNot s e S = (s e S).bind fun c S1 => .ok (!c) S1 := rfl
@[simp] theorem x_mIte {t : MT} : mIte t a b e S = (t e S).bind fun c S1 => if c = true then a e S1 else b e S1 := rfl
@[simp] theorem x_mAndV : mAndV a b e S = (a e S).bind fun d S1 => match d with | .bl c => if c = true then b e S1 else .ok (.bl false) S1 | _ => .bad := rfl
@[simp] theorem x_mOrV : mOrV a b e S = (a e S).bind fun d S1 => match d with | .bl c => if c = true then .ok (.bl true) S1 else b e S1 | _ => .bad := rfl
@[simp] theorem x_mNotV : mNotV a e S = (a e S).bind fun d S1 => match d with | .bl c => .ok (.bl (!c)) S1 | _ => .bad := rfl
@[simp] theorem x_mUn {h : D → Store → Option D} : mUn h a e S = (a e S).bind fun x S1 => .of (h x S1) S1 := rfl
@[simp] theorem x_mChain {g' : DOp} : mChain g g' a b c e S = (a e S).bind fun x S1 => (b e S1).bind fun y S2 => (Res.of (g x y S2) S2).bind fun k S3 => match k with
  | .bl t => if t = true then (c e S3).bind fun z S4 => .of (g' y z S4) S4 else .ok (.bl false) S3
  | _ => .bad := by
  unfold mChain
  rfl
@[simp] theorem x_sSeq {p q : MS} : sSeq p q e S = (match p e S with | some (.nx, e1, S1) => q e1 S1 | r => r) := rfl
@[simp] theorem x_sRet : sRet a e S = (a e S).st e fun d S1 => some (.rt d, e, S1) := rfl
@[simp] theorem x_sSet {h : MG} : sSet h a e S = (a e S).st e fun d S1 => (h d e S1).bind fun e1 => some (.nx, e1, S1) := rfl
@[simp] theorem x_sExpr : sExpr a e S = (a e S).st e fun _ S1 => some (.nx, e, S1) := rfl
@[simp] theorem x_sIf {t : MT} {p q : MS} : sIf t p q e S = (t e S).st e fun c S1 => if c = true then p e S1 else q e S1 := rfl
@[simp] theorem x_sSkip : sSkip e S = some (.nx, e, S) := rfl
@[simp] theorem x_gN : gN i d e S = some (e.set i (some d)) := rfl
@[simp] theorem x_gTup {n : Nat} {r : List D → Env → Store → Option Env} {ds : List D} : gTup n r (.tup ds) e S = if ds.length = n then r ds e S else none := rfl
@[simp] theorem x_gLst {n : Nat} {r : List D → Env → Store → Option Env} {ds : List D} : gLst n r (.lst ds) e S = if ds.length = n then r ds e S else none := rfl
@[simp] theorem x_gCons {h : MG} {r : List D → Env → Store → Option Env} {ds : List D} : gCons h r (d :: ds) e S = (h d e S).bind fun e1 => r ds e1 S := rfl
@[simp] theorem x_gNil : gNil [] e S = some e := rfl
@[simp] theorem x_mMeth {T : String} {h : MtF} {m : MA} : mMeth T h a m e S = (a e S).bind fun d S1 => if rcv T S1 d = true then (m e S1).bind fun ds S2 => .ofS (h d ds S2) else .bad := rfl
@[simp] theorem x_mSrc : mSrc a e S = (a e S).bind fun d S1 => .of (srcOf S1 d) S1 := rfl
@[simp] theorem x_mSrcA {f : List D → Store → Option Src} {m : MA} : mSrcA f m e S = (m e S).bind fun ds S1 => .of (f ds S1) S1 := rfl
@[simp] theorem x_mSlice {lo hi : MO} : mSlice a lo hi e S = (a e S).bind fun d S1 => (lo e S1).bind fun l S2 => (hi e S2).bind fun h S3 => .of (dSlice d l h S3) S3 := rfl
@[simp] theorem x_mNo : mNo e S = .ok none S := rfl
@[simp] theorem x_mPart : mPart a e S = (a e S).bind fun d S1 => .of ((iOf d).map some) S1 := rfl
@[simp] theorem x_iOf {k : Int} : iOf (.int k) = some k := rfl
/-! ### operations on ints -/
variable {x y : Int}
@[simp] theorem x_add : dAdd (.int x) (.int y) S = some (.int (x + y)) := rfl
@[simp] theorem x_sub : dSub (.int x) (.int y) S = some (.int (x - y)) := rfl
theorem x_mul (h : x.natAbs < 2 ^ 64 ∨ y.natAbs < 2 ^ 64) : dMul (.int x) (.int y) S = some (.int (x * y)) := if_pos h
theorem x_mod (h : 0 < y) : dMod (.int x) (.int y) S = some (.int (x % y)) := if_pos h
theorem x_fdiv (h : 0 < y ∧ y < 1073741824) : dFdiv (.int x) (.int y) S = some (.int (x / y)) := if_pos h
@[simp] theorem x_neg : dNeg (.int x) S = some (.int (-x)) := rfl
@[simp] theorem x_lt : dLt (.int x) (.int y) S = some (.bl (decide (x < y))) := rfl
@[simp] theorem x_le : dLe (.int x) (.int y) S = some (.bl (decide (x ≤ y))) := rfl
@[simp] theorem x_gt : dGt (.int x) (.int y) S = some (.bl (decide (y < x))) := rfl
@[simp] theorem x_ge : dGe (.int x) (.int y) S = some (.bl (decide (y ≤ x))) := rfl
@[simp] theorem x_int : dInt [.int x] S = some (.int x) := rfl
@[simp] theorem x_abs : dAbs [.int x] S = some (.int (if x < 0 then -x else x)) := rfl
theorem eqvAll_I : ∀ (l m : List Int), PyData.eqvAll (l.map PyData.int) (m.map PyData.int) = decide (l = m)
  | [], [] => rfl
  | [], _ :: _ => rfl
  | _ :: _, [] => rfl
  | x :: l, y :: m => by
    simp only [List.map_cons, PyData.eqvAll, PyData.eqv, eqvAll_I l m, List.cons.injEq, Bool.decide_and]
    by_cases h : x = y <;> simp [h]
theorem eqvAll_P : ∀ (l m : List (List Int)), PyData.eqvAll (l.map fun r => .tuple (r.map PyData.int)) (m.map fun r => .tuple (r.map PyData.int)) = decide (l = m)
  | [], [] => rfl
  | [], _ :: _ => rfl
  | _ :: _, [] => rfl
  | x :: l, y :: m => by
    simp only [List.map_cons, PyData.eqvAll, PyData.eqv, eqvAll_I, eqvAll_P l m, List.cons.injEq, Bool.decide_and]
theorem toPys_I : ∀ l : List Int, toPys0 (I l) = some (l.map PyData.int)
  | [] => by simp [toPys0]
  | x :: l => by
    have := toPys_I l
    simp only [I] at this
    simp [toPys0, toPy0, this]
theorem toPys_P : ∀ a : List (List Int), toPys0 (a.map fun r => .tup (I r)) = some (a.map fun r => .tuple (r.map PyData.int))
  | [] => by simp [toPys0]
  | x :: l => by
    have := toPys_P l
    have h2 := toPys_I x
    simp only [I] at this h2
    simp [toPys0, toPy0, this, h2]
theorem can_I : ∀ l : List Int, PyData.canLayAll0 (l.map PyData.int) = true
  | [] => by simp [PyData.canLayAll0]
  | x :: l => by simp [PyData.canLayAll0, PyData.canLay0, can_I l]
theorem dep_I : ∀ l : List Int, PyData.depthAll (l.map PyData.int) = 0
  | [] => by simp [PyData.depthAll]
  | x :: l => by simp [PyData.depthAll, PyData.depth, dep_I l]
theorem can_P : ∀ l : List (List Int), PyData.canLayAll0 (l.map fun r => .tuple (r.map PyData.int)) = true
  | [] => by simp [PyData.canLayAll0]
  | x :: l => by simp [PyData.canLayAll0, PyData.canLay0, can_P l, can_I]
theorem dep_P : ∀ l : List (List Int), PyData.depthAll (l.map fun r => .tuple (r.map PyData.int)) ≤ 1
  | [] => by simp [PyData.depthAll]
  | x :: l => by
    have := dep_P l
    simp [PyData.depthAll, PyData.depth, dep_I]; omega
theorem shp_P (l : List (List Int)) : SeqAt.shaped (.tuple (l.map fun r => .tuple (r.map PyData.int))) = true := by
  have := dep_P l
  unfold SeqAt.shaped
  rw [Bool.and_eq_true]
  exact ⟨by simp [PyData.canLay0, can_P], decide_eq_true (by simp [PyData.depth]; omega)⟩
theorem shp_L (l : List Int) : SeqAt.shaped (.list (l.map PyData.int)) = true := by
  unfold SeqAt.shaped
  rw [Bool.and_eq_true]
  exact ⟨by simp [PyData.canLay0, can_I], decide_eq_true (by simp [PyData.depth, dep_I])⟩
theorem shp_T (l : List Int) : SeqAt.shaped (.tuple (l.map PyData.int)) = true := by
  unfold SeqAt.shaped
  rw [Bool.and_eq_true]
  exact ⟨by simp [PyData.canLay0, can_I], decide_eq_true (by simp [PyData.depth, dep_I])⟩
@[simp] theorem x_eqI : dEq (.int x) (.int y) S = some (.bl (decide (x = y))) := by
  have h1 : ∀ z : Int, SeqAt.shaped (.int z) = true := fun z => rfl
  unfold dEq
  simp only [toPy, toPy0, h1, PyData.eqv]
  by_cases h : x = y <;> simp [h]
@[simp] theorem x_neI : dNe (.int x) (.int y) S = some (.bl (!decide (x = y))) := by simp [dNe, dNot]
@[simp] theorem x_eqP (p q : List (List Int)) : dEq (.tup (p.map fun r => .tup (I r))) (.tup (q.map fun r => .tup (I r))) S = some (.bl (decide (p = q))) := by
  unfold dEq
  simp only [toPy, toPy0, toPys_P, Option.map_some, shp_P, PyData.eqv, eqvAll_P]
  simp
@[simp] theorem x_neP (p q : List (List Int)) : dNe (.tup (p.map fun r => .tup (I r))) (.tup (q.map fun r => .tup (I r))) S = some (.bl (!decide (p = q))) := by simp only [dNe, x_eqP]; rfl
@[simp] theorem x_eqL (p q : List Int) : dEq (.lst (I p)) (.lst (I q)) S = some (.bl (decide (p = q))) := by
  unfold dEq
  simp only [toPy, toPy0, toPys_I, Option.map_some, shp_L, PyData.eqv, eqvAll_I]
  simp
@[simp] theorem x_neL (p q : List Int) : dNe (.lst (I p)) (.lst (I q)) S = some (.bl (!decide (p = q))) := by simp only [dNe, x_eqL]; rfl
@[simp] theorem x_eqStr (p q : Str) : dEq (.str p) (.str q) S = some (.bl (decide (p = q))) := rfl
@[simp] theorem x_neStr (p q : Str) : dNe (.str p) (.str q) S = some (.bl (!decide (p = q))) := rfl
@[simp] theorem x_eqB (p q : Bool) : dEq (.bl p) (.bl q) S = some (.bl (decide (p = q))) := by cases p <;> cases q <;> rfl
@[simp] theorem x_neB (p q : Bool) : dNe (.bl p) (.bl q) S = some (.bl (!decide (p = q))) := by cases p <;> cases q <;> rfl
/-! ### comprehensions, all -/
variable {t : MG} {me : ME} {xs : List D}
theorem lc_pure (f : D → D) : ∀ (ds : List D), (∀ d ∈ ds, ∃ e1, t d e S = some e1 ∧ me e1 S = .ok (f d) S) → lcM ⟨xs, []⟩ t mYes me e ds S = .ok (ds.map f) S
  | [], _ => by simp [lcM]
  | d :: ds, h => by
    obtain ⟨e1, h1, h2⟩ := h d (by simp)
    have ih := lc_pure f ds fun d hd => h d (List.mem_cons_of_mem _ hd)
    simp [lcM, h1, h2, mYes, ih]
/-- a comprehension whose elements change the store: St l goes to St l' -/
theorem lc_run {α : Type} {P : D → Prop} (St : α → Store) : ∀ (ds : List D) (l : α), (∀ d ∈ ds, ∀ l, ∃ e1 y l', t d e (St l) = some e1 ∧ P y ∧ me e1 (St l) = .ok y (St l')) → ∃ ys l', ys.length = ds.length ∧ (∀ y ∈ ys, P y) ∧ lcM ⟨xs, []⟩ t mYes me e ds (St l) = .ok ys (St l')
  | [], l, _ => ⟨[], l, rfl, by simp, by simp [lcM]⟩
  | d :: ds, l, h => by
    obtain ⟨e1, y, l1, h1, hp, h2⟩ := h d (by simp) l
    obtain ⟨ys, l2, hl, hP, ih⟩ := lc_run St ds l1 fun d hd => h d (List.mem_cons_of_mem _ hd)
    refine ⟨y :: ys, l2, by simp [hl], fun z hz => ?_, by simp [lcM, h1, h2, mYes, ih]⟩
    rcases List.mem_cons.mp hz with rfl | hz
    · exact hp
    · exact hP z hz
theorem all_pure : ∀ (ds : List D), (∀ d ∈ ds, ∃ e1, t d e S = some e1 ∧ me e1 S = .ok (.bl true) S) → allM ⟨xs, []⟩ t me e false ds S = .ok (.bl true) S
  | [], _ => by simp [allM]
  | d :: ds, h => by
    obtain ⟨e1, h1, h2⟩ := h d (by simp)
    have ih := all_pure ds fun d hd => h d (List.mem_cons_of_mem _ hd)
    simp [allM, h1, h2, ih]
@[simp] theorem x_mLc {mi : MI} {mt : MT} {vs : List Nat} : mLc mi t mt me vs e S = (mi e S).bind fun src S1 => if src.xs.length ≤ sizeLine then lcM src t mt me (wipeE e vs) src.xs S1 else .bad := rfl
@[simp] theorem x_mAll {mi : MI} {k : Bool} {vs : List Nat} : mAll k mi t me vs e S = (mi e S).bind fun src S1 => allM src t me (wipeE e vs) k src.xs S1 := rfl
theorem cls_I (n : Nat) : ∀ l : List Int, cls n (I l) = true
  | [] => rfl
  | _ :: l => by simp only [I, List.map_cons, cls, cl, Bool.true_and]; exact cls_I n l
theorem cls_P (n : Nat) : ∀ l : List (List Int), cls n (l.map fun r => .tup (I r)) = true
  | [] => rfl
  | r :: l => by simp only [List.map_cons, cls, cl, cls_I, Bool.true_and]; exact cls_P n l
/-- a call that leaves the store as it was -/
theorem retV_id {h : List D → Store → Res D} {ds : List D} {d : D} (hh : h ds S = .ok d S) (hc : clS S.length S = true) (hd : cl S.length d = true) : retV h ds S = .ok d S := by
  unfold retV
  rw [hh]
  simp only [List.take_length, hc, if_true]
  have : fz S.length S d = some d := by
    cases d <;> simp only [fz, hd, if_true]
    case loc n => simp [cl] at hd; simp [hd]
  rw [this]
theorem retV_ok {h : List D → Store → Res D} {ds : List D} {S' : Store} {d d' : D} (hh : h ds S = .ok d S') (hc : clS S.length (S'.take S.length) = true) (hf : fz S.length S' d = some d') : retV h ds S = .ok d' (S'.take S.length) := by
  unfold retV
  rw [hh]
  simp only [hc, if_true, hf]
section
variable {t : MG} {me : ME} {xs : List D}
theorem lc_map {α : Type} (ι f : α → D) : ∀ (as : List α), (∀ x ∈ as, ∃ e1, t (ι x) e S = some e1 ∧ me e1 S = .ok (f x) S) → lcM ⟨xs, []⟩ t mYes me e (as.map ι) S = .ok (as.map f) S
  | [], _ => by simp [lcM]
  | d :: ds, h => by
    obtain ⟨e1, h1, h2⟩ := h d (by simp)
    have ih := lc_map ι f ds fun d hd => h d (List.mem_cons_of_mem _ hd)
    simp [lcM, h1, h2, mYes, ih]
theorem all_map {α : Type} (ι : α → D) : ∀ (as : List α), (∀ x ∈ as, ∃ e1, t (ι x) e S = some e1 ∧ me e1 S = .ok (.bl true) S) → allM ⟨xs, []⟩ t me e false (as.map ι) S = .ok (.bl true) S
  | [], _ => by simp [allM]
  | d :: ds, h => by
    obtain ⟨e1, h1, h2⟩ := h d (by simp)
    have ih := all_map ι ds fun d hd => h d (List.mem_cons_of_mem _ hd)
    simp [allM, h1, h2, ih]
theorem zip_map {α β : Type} (ι : α → D) (κ : β → D) : ∀ (as : List α) (bs : List β), zipD (as.map ι) (bs.map κ) = (as.zip bs).map fun p => .tup [ι p.1, κ p.2]
  | [], _ => by simp [zipD]
  | _ :: _, [] => by simp [zipD]
  | a :: as, b :: bs => by simp [zipD, zip_map ι κ as bs]
variable {mi : MI} {vs : List Nat} {ys : List D} {S' : Store} {a : ME} {n : Nat}
theorem sz (h : n ≤ 100000) : n ≤ sizeLine := Nat.le_trans h (by decide)
theorem lc_ok (hi : mi e S = .ok ⟨xs, []⟩ S) (hz : xs.length ≤ 100000) (h : lcM ⟨xs, []⟩ t mYes me (wipeE e vs) xs S = .ok ys S') : mLc mi t mYes me vs e S = .ok ys S' := by
  rw [x_mLc, hi, Res.bind_ok]
  have : (Src.mk xs []).xs.length ≤ sizeLine := sz hz
  rw [if_pos this]
  exact h
theorem all_ok {k : Bool} {r : D} (hi : mi e S = .ok ⟨xs, []⟩ S) (h : allM ⟨xs, []⟩ t me (wipeE e vs) k xs S = .ok r S') : mAll k mi t me vs e S = .ok r S' := by
  rw [x_mAll, hi, Res.bind_ok]
  exact h
theorem src_tup (h : a e S = .ok (.tup xs) S') : mSrc a e S = .ok ⟨xs, []⟩ S' := by rw [x_mSrc, h]; rfl
theorem src_lst (h : a e S = .ok (.lst xs) S') : mSrc a e S = .ok ⟨xs, []⟩ S' := by rw [x_mSrc, h]; rfl
theorem src_str {x : Str} (h : a e S = .ok (.str x) S') : mSrc a e S = .ok ⟨strItems x, []⟩ S' := by rw [x_mSrc, h]; rfl
theorem src_zipT {m : MA} {ys : List D} (h : m e S = .ok [.tup xs, .tup ys] S') : mSrcA srcZip m e S = .ok ⟨zipD xs ys, []⟩ S' := by rw [x_mSrcA, h]; rfl
theorem tuple_ok {m : MA} (h : m e S = .ok ys S') : mCall dTuple (mCons (asV m) mNil) e S = .ok (.tup ys) S' := by
  rw [x_mCall, x_mCons, x_asV, h]; rfl
theorem slice_ok {lo hi : MO} {d r : D} {l h : Option Int} (ha : a e S = .ok d S) (hl : lo e S = .ok l S) (hh : hi e S = .ok h S) (hs : dSlice d l h S = some r) : mSlice a lo hi e S = .ok r S := by
  rw [x_mSlice, ha, Res.bind_ok, hl, Res.bind_ok, hh, Res.bind_ok, hs]; rfl
theorem part_ok {k : Int} (ha : a e S = .ok (.int k) S) : mPart a e S = .ok (some k) S := by rw [x_mPart, ha]; rfl
def cutG {α : Type} (xs : List α) (lo hi : Option Int) : List α := (xs.drop (HT.sIx xs.length 0 lo)).take (HT.sIx xs.length xs.length hi - HT.sIx xs.length 0 lo)
theorem cutD_map {α : Type} (ι : α → D) (as : List α) (lo hi : Option Int) : cutD (as.map ι) lo hi = (cutG as lo hi).map ι := by
  unfold cutD cutG
  rw [List.length_map, List.map_take, List.map_drop]
theorem cut_nat {α : Type} (as : List α) (a k : Nat) : cutG as (some (a : Int)) (some ((a : Int) + (k : Int))) = (as.drop a).take k := by
  have h2 : ((a : Int) + (k : Int)) = ((a + k : Nat) : Int) := by omega
  unfold cutG
  rw [h2, HT.sIx_nat, HT.sIx_nat]
  rcases Nat.le_total a as.length with h | h
  · rw [Nat.min_eq_left h]
    rcases Nat.le_total (a + k) as.length with g | g
    · rw [Nat.min_eq_left g]; congr 1; omega
    · rw [Nat.min_eq_right g, List.take_of_length_le (by simp), List.take_of_length_le (by simp; omega)]
  · rw [Nat.min_eq_right h, List.drop_of_length_le (Nat.le_refl _), List.drop_of_length_le h]; simp
theorem len_tup : dLen [.tup xs] S = some (.int xs.length) := rfl
theorem len_lst : dLen [.lst xs] S = some (.int xs.length) := rfl
theorem cat_tup {ys : List D} (h : xs.length + ys.length ≤ 100000) : dAdd (.tup xs) (.tup ys) S = some (.tup (xs ++ ys)) := if_pos (sz h)
end
/-! ### steps -/
section
variable {p q : MS} {e1 : Env} {S1 S' : Store} {n : Nat} {ds : List D} {m : ME} {t : MT} {k : Int}
theorem seq_nx (h : p e S = some (.nx, e1, S1)) : sSeq p q e S = q e1 S1 := by rw [x_sSeq, h]
theorem seq_rt {r : D} (h : p e S = some (.rt r, e1, S1)) : sSeq p q e S = some (.rt r, e1, S1) := by rw [x_sSeq, h]
theorem run_rt {b : MS} {e' : Env} (h : b (ds.map some ++ List.replicate (n - ds.length) none) S = some (.rt d, e', S')) : runF n b ds S = .ok d S' := by
  unfold runF
  rw [h]
theorem set_ok {i : Nat} (h : m e S = .ok d S1) : sSet (gN i) m e S = some (.nx, e.set i (some d), S1) := by rw [x_sSet, h]; rfl
theorem setg_ok {g : MG} (h : m e S = .ok d S1) (hg : g d e S1 = some e1) : sSet g m e S = some (.nx, e1, S1) := by rw [x_sSet, h, Res.st_ok, hg]; rfl
theorem ret_ok (h : m e S = .ok d S1) : sRet m e S = some (.rt d, e, S1) := by rw [x_sRet, h]; rfl
theorem expr_ok (h : m e S = .ok d S1) : sExpr m e S = some (.nx, e, S1) := by rw [x_sExpr, h]; rfl
theorem if_t (h : t e S = .ok true S1) : sIf t p q e S = p e S1 := by rw [x_sIf, h]; rfl
theorem if_f (h : t e S = .ok false S1) : sIf t p q e S = q e S1 := by rw [x_sIf, h]; rfl
theorem if_b {c : Bool} (h : t e S = .ok c S1) : sIf t p q e S = if c = true then p e S1 else q e S1 := by rw [x_sIf, h]; rfl
theorem var_ok {i : Nat} (h : e[i]? = some (some d)) : mVar i e S = .ok d S := by rw [x_mVar, h]
theorem cons_ok {ma : ME} {mr : MA} {S2 : Store} {ds : List D} (h : ma e S = .ok d S1) (hr : mr e S1 = .ok ds S2) : mCons ma mr e S = .ok (d :: ds) S2 := by rw [x_mCons, h, Res.bind_ok, hr]; rfl
theorem one_ok {ma : ME} (h : ma e S = .ok d S1) : mCons ma mNil e S = .ok [d] S1 := by rw [x_mCons, h]; rfl
theorem callF_ok {mr : MA} {h : List D → Store → Res D} {S2 : Store} {ds : List D} {r : D} (ha : mr e S = .ok ds S1) (hh : h ds S1 = .ok r S2) (hl : ds.length = n := by rfl) : mCallF n h mr e S = .ok r S2 := by rw [x_mCallF, ha, Res.bind_ok, if_pos hl, hh]
theorem call_ok {mr : MA} {h : List D → Store → Option D} {ds : List D} {r : D} (ha : mr e S = .ok ds S1) (hh : h ds S1 = some r) : mCall h mr e S = .ok r S1 := by rw [x_mCall, ha, Res.bind_ok, hh]; rfl
theorem bin_ok {ma mb : ME} {g : DOp} {S2 : Store} {u v r : D} (ha : ma e S = .ok u S1) (hb : mb e S1 = .ok v S2) (hg : g u v S2 = some r) : mBin g ma mb e S = .ok r S2 := by rw [x_mBin, ha, Res.bind_ok, hb, Res.bind_ok, hg]; rfl
theorem b_ok {ma : ME} {c : Bool} (ha : ma e S = .ok (.bl c) S1) : mB ma e S = .ok c S1 := by rw [x_mB, ha]; rfl
theorem tup_ok {mr : MA} {ds : List D} (ha : mr e S = .ok ds S1) (hl : ds.length ≤ sizeLine) : mTup mr e S = .ok (.tup ds) S1 := by rw [x_mTup, ha, Res.bind_ok, if_pos hl]; rfl
theorem lst_ok {mr : MA} {ds : List D} (ha : mr e S = .ok ds S1) (hl : ds.length ≤ sizeLine) : mLst mr e S = .ok ds S1 := by rw [x_mLst, ha, Res.bind_ok, if_pos hl]; rfl
theorem asV_ok {mr : MA} {ds : List D} (ha : mr e S = .ok ds S1) : asV mr e S = .ok (.lst ds) S1 := by rw [x_asV, ha]; rfl
theorem eqc_t {i : Nat} {c : Int} (h : e[i]? = some (some (.int k))) (hk : k = c) : mB (mBin dEq (mVar i) (mC (.int c))) e S = .ok true S := by rw [b_ok (bin_ok (var_ok h) rfl x_eqI), decide_eq_true hk]
theorem eqc_f {i : Nat} {c : Int} (h : e[i]? = some (some (.int k))) (hk : ¬ k = c) : mB (mBin dEq (mVar i) (mC (.int c))) e S = .ok false S := by rw [b_ok (bin_ok (var_ok h) rfl x_eqI), decide_eq_false hk]
theorem if_skip {b : MS} (h : t e S = .ok false S1) : sIf t b sSkip e S = some (.nx, e, S1) := by rw [x_sIf, h]; rfl
theorem eqc {i : Nat} {c : Int} (h : e[i]? = some (some (.int k))) : mB (mBin dEq (mVar i) (mC (.int c))) e S = .ok (decide (k = c)) S := b_ok (bin_ok (var_ok h) rfl (x_eqI))
end
end
end M


set_option Elab.async false
set_option linter.all false
set_option maxRecDepth 100000
set_option maxHeartbeats 4000000
/-! Plain lemmas, second part. -/
namespace M
open PySem PySem.Spec PyProof.Rows L2
section
variable [Tabs]
theorem at_nat (xs : List D) (i : Nat) (d : D) (h : xs[i]? = some d) : atI xs (i : Int) = some d := by
  obtain ⟨hi, _⟩ := List.getElem?_eq_some_iff.mp h
  unfold atI ixN
  rw [if_pos (show (0 : Int) ≤ (i : Int) by omega), if_pos (show (i : Int) < (xs.length : Int) by omega)]
  show xs[(i : Int).toNat]? = some d
  rw [Int.toNat_natCast]
  exact h
theorem ix_tup (xs : List D) (i : Nat) (d : D) (S : Store) (h : xs[i]? = some d) : dIx (.tup xs) (.int i) S = some d := at_nat xs i d h
theorem ix_lst (xs : List D) (i : Nat) (d : D) (S : Store) (h : xs[i]? = some d) : dIx (.lst xs) (.int i) S = some d := at_nat xs i d h
theorem ix0 (x : D) (xs : List D) (S : Store) : dIx (.tup (x :: xs)) (.int 0) S = some x := ix_tup (x :: xs) 0 x S rfl
theorem ix0l (x : D) (xs : List D) (S : Store) : dIx (.lst (x :: xs)) (.int 0) S = some x := ix_lst (x :: xs) 0 x S rfl
variable {xs ds : List D} {g : MG} {b : MS} {d : D} {e e1 e2 : Env} {S S1 S2 : Store}
theorem for_nil : M.forM ⟨xs, []⟩ g b [] e S = some (.nx, e, S) := by
  unfold M.forM
  rw [if_pos (Src.ok_nil _ _)]
theorem for_cons (hg : g d e S = some e1) (hb : b e1 S = some (.nx, e2, S2)) : M.forM ⟨xs, []⟩ g b (d :: ds) e S = M.forM ⟨xs, []⟩ g b ds e2 S2 := by
  conv => lhs; unfold M.forM
  rw [if_pos (Src.ok_nil _ _), hg, Option.bind_some, hb]
  rfl
theorem for_ok {mi : MI} {r : Option (Fl × Env × Store)} (hi : mi e S = .ok ⟨xs, []⟩ S1) (h : M.forM ⟨xs, []⟩ g b xs e S1 = r) : sFor mi g b e S = r := by
  unfold sFor
  rw [hi]
  exact h
theorem set_last {α : Type} (xs : List α) (x y : α) : (xs ++ [x]).set xs.length y = xs ++ [y] := by
  rw [List.set_append_right _ _ (Nat.le_refl _)]; simp
theorem get_last {α : Type} (xs : List α) (x : α) : (xs ++ [x])[xs.length]? = some x := by simp
theorem ext_last {xs ys : List D} (h : xs.length + ys.length ≤ 100000) : gExtend (.loc S.length) [.lst ys] (S ++ [.lst xs]) = some (.non, S ++ [.lst (xs ++ ys)]) := by
  unfold gExtend
  simp only [get_last, seqOf', lstOf']
  rw [if_pos (sz h), set_last]
theorem app_last {xs : List D} {y : D} (h : xs.length < 100000) : gAppend (.loc S.length) [y] (S ++ [.lst xs]) = some (.non, S ++ [.lst (xs ++ [y])]) := by
  unfold gAppend
  simp only [get_last]
  rw [if_pos (Nat.lt_of_lt_of_le h (by decide)), set_last]
theorem rcv_last {xs : List D} : rcv "list" (S ++ [.lst xs]) (.loc S.length) = true := by
  simp [rcv, lstOf]
theorem meth_ok {T : String} {a : ME} {m : MA} {h : MtF} {ds : List D} {r : D} (ha : a e S = .ok d S) (hr : rcv T S d = true) (hm : m e S = .ok ds S1) (hh : h d ds S1 = some (r, S2)) : mMeth T h a m e S = .ok r S2 := by
  rw [x_mMeth, ha, Res.bind_ok, if_pos hr, hm, Res.bind_ok, hh]
  rfl
theorem asL_ok {m : MA} {ds : List D} (ha : m e S = .ok ds S1) : asL m e S = .ok (.loc S1.length) (S1 ++ [.lst ds]) := by rw [x_asL, ha]; rfl
theorem ints_I : ∀ l : List Int, intsOf (I l) = some l
  | [] => rfl
  | x :: l => by
    show (intsOf (I l)).map (x :: ·) = _
    rw [ints_I l]
    rfl
theorem strs_S : ∀ l : List Str, strsOf (l.map D.str) = some l
  | [] => rfl
  | x :: l => by
    show (strsOf (l.map D.str)).map (x :: ·) = _
    rw [strs_S l]
    rfl
theorem sum_I (l : List Int) : dSum [.lst (I l)] S = some (.int l.sum) := by
  show ((intsOf (I l))).map _ = _
  rw [ints_I]
  rfl
/-- the greatest, of one at least -/
def mx : List Int → Int
  | [] => 0
  | x :: xs => xs.foldl max x
theorem mx_le : ∀ (l : List Int), ∀ y ∈ l, y ≤ mx l
  | [], _, h => by simp at h
  | x :: xs, y, h => by
    rcases List.mem_cons.mp h with rfl | h
    · exact (foldl_max xs _).1
    · exact (foldl_max xs x).2.1 y h
theorem mx_mem : ∀ (l : List Int), l ≠ [] → mx l ∈ l
  | [], h => absurd rfl h
  | x :: xs, _ => by
    rcases (foldl_max xs x).2.2 with h | h
    · simp [mx, h]
    · exact List.mem_cons_of_mem _ h
theorem mx_iff {l : List Int} (h : l ≠ []) (m : Int) : mx l = m ↔ m ∈ l ∧ ∀ y ∈ l, y ≤ m :=
  ⟨fun e => e ▸ ⟨mx_mem l h, mx_le l⟩, fun ⟨a, b⟩ => Int.le_antisymm (b _ (mx_mem l h)) (mx_le l _ a)⟩
theorem max_I (l : List Int) (h : l ≠ []) : dMax [.lst (I l)] S = some (.int (mx l)) := by
  show ((intsOf (I l)).bind maxI).map _ = _
  rw [ints_I]
  cases l with
  | nil => exact absurd rfl h
  | cons x xs => rfl
end
end M


set_option Elab.async false
set_option linter.all false
set_option maxRecDepth 100000
set_option maxHeartbeats 4000000
/-! Texts: lines put together and cut. -/
namespace M
open PySem PySem.Spec PyProof.Rows L2
open Builtin Builtin.Str StrLaws
abbrev tl (s : PySem.Str) : List Nat := s.cps.toList
def mk (l : List Nat) : PySem.Str := ⟨l.toArray⟩
@[simp] theorem tl_mk (l : List Nat) : tl (mk l) = l := rfl
theorem mk_tl (s : PySem.Str) : mk (tl s) = s := by cases s; simp [mk, tl]
theorem mk_len (l : List Nat) : (mk l).length = l.length := by simp [mk, PySem.Str.length]
theorem mk_app (l m : List Nat) : mk l ++ mk m = mk (l ++ m) := Str.ext' (by simp [mk, Str.cps_append])
theorem tl_inj {s t : PySem.Str} (h : tl s = tl t) : s = t := by rw [← mk_tl s, ← mk_tl t, h]
theorem join_nil : ∀ ys : List PySem.Str, Txt.join (mk []) ys = mk (ys.map tl).flatten := by
  intro ys
  have h : ∀ ys : List PySem.Str, PySem.Str.join (mk []) ys = mk (ys.map tl).flatten := by
    intro ys
    induction ys with
    | nil => rfl
    | cons x ys ih =>
      cases ys with
      | nil => simp [PySem.Str.join, mk_tl]
      | cons y ys =>
        show x ++ mk [] ++ PySem.Str.join (mk []) (y :: ys) = _
        rw [ih]
        apply tl_inj
        simp [tl, mk, Str.cps_append]
  show glued _ _ = _
  rw [glued_eq_join, h]
theorem occ_all (s sub : PySem.Str) (hi limit : Nat) (hs : 1 ≤ sub.length) (h1 : sub.length ≤ 1) : ∀ (k lo : Nat) (st : Array Nat × Nat), st.snd ≤ lo → st.fst.size + k ≤ limit →
    (forIn (List.range' lo k) st (occBody s sub hi limit)).run.fst.toList = st.fst.toList ++ (List.range' lo k).filter (fun i => decide (i + sub.length ≤ hi) && subAt s sub i)
  | 0, lo, st, _, _ => by simp
  | k + 1, lo, st, h2, h3 => by
    rw [List.range'_succ, List.forIn_cons]
    unfold occBody
    by_cases hc : lo + sub.length ≤ hi ∧ subAt s sub lo = true
    · have c1 : (((st.fst.size < limit ∧ st.snd ≤ lo) ∧ lo + sub.length ≤ hi) ∧ subAt s sub lo = true) := ⟨⟨⟨by omega, h2⟩, hc.1⟩, hc.2⟩
      rw [if_pos c1]
      have ih := occ_all s sub hi limit hs h1 k (lo + 1) (st.fst.push lo, lo + sub.length) (by simp; omega) (by simp; omega)
      refine Eq.trans ih ?_
      have : (decide (lo + sub.length ≤ hi) && subAt s sub lo) = true := by simp [hc.1, hc.2]
      simp only [List.filter_cons, this, if_true, Array.toList_push, List.append_assoc, List.singleton_append]
    · have c2 : ¬ (((st.fst.size < limit ∧ st.snd ≤ lo) ∧ lo + sub.length ≤ hi) ∧ subAt s sub lo = true) := fun h => hc ⟨h.1.2, h.2⟩
      rw [if_neg c2]
      have ih := occ_all s sub hi limit hs h1 k (lo + 1) (st.fst, st.snd) (by simp; omega) (by simp; omega)
      refine Eq.trans ih ?_
      have : (decide (lo + sub.length ≤ hi) && subAt s sub lo) = false := by
        rw [Bool.and_eq_false_iff]
        by_cases h : lo + sub.length ≤ hi
        · exact .inr (by simpa [h] using hc)
        · exact .inl (by simp [h])
      simp only [List.filter_cons, this]
      rfl
/-- cut at each c -/
def splitL (c : Nat) : List Nat → List Nat → List (List Nat)
  | acc, [] => [acc]
  | acc, x :: xs => if x = c then acc :: splitL c [] xs else splitL c (acc ++ [x]) xs
theorem parts_L (c : Nat) (L : List Nat) : ∀ (xs : List Nat) (a p : Nat) (acc : List Nat), a ≤ p → L.drop p = xs → acc = (L.drop a).take (p - a) →
    partsFrom (mk L) 1 a ((List.range' p xs.length).filter (fun i => L[i]? == some c)) = (splitL c acc xs).map mk
  | [], a, p, acc, h1, h2, h3 => by
    have hp : L.length ≤ p := by simpa using h2
    simp only [List.length_nil, List.range'_zero, List.filter_nil, partsFrom, splitL, List.map_cons, List.map_nil]
    congr 1
    apply tl_inj
    show (strSub (mk L) a (mk L).length).cps.toList = acc
    rw [strSub_toList, h3, mk_len]
    show ((tl (mk L)).drop a).take _ = _
    rw [tl_mk, List.take_of_length_le (by simp), List.take_of_length_le (by simp; omega)]
  | x :: xs, a, p, acc, h1, h2, h3 => by
    have hp : L[p]? = some x := by
      have := congrArg (fun l => l[0]?) h2
      simpa using this
    have hd : L.drop (p + 1) = xs := by
      have := congrArg List.tail h2
      simpa using this
    rw [List.length_cons, List.range'_succ, List.filter_cons, hp]
    by_cases hx : x = c
    · subst hx
      rw [if_pos (by simp), splitL, if_pos rfl, List.map_cons]
      show strSub (mk L) a p :: partsFrom (mk L) 1 (p + 1) _ = _
      rw [parts_L x L xs (p + 1) (p + 1) [] (Nat.le_refl _) hd (by simp)]
      congr 1
      apply tl_inj
      show (strSub (mk L) a p).cps.toList = acc
      rw [strSub_toList, h3]
      rfl
    · rw [if_neg (by simpa using hx), splitL, if_neg hx]
      refine parts_L c L xs a (p + 1) _ (by omega) hd ?_
      rw [h3]
      have h5 : p - a < (L.drop a).length := by
        have := (List.getElem?_eq_some_iff.mp hp).1
        simp; omega
      have e : p + 1 - a = p - a + 1 := by omega
      rw [e, List.take_succ]
      congr 1
      have : (L.drop a)[p - a]? = some x := by rw [List.getElem?_drop]; rw [← hp]; congr 1; omega
      rw [this]
      rfl
theorem split_L (c : Nat) (hc : c < 256) (L : List Nat) (h0 : L ≠ []) : Txt.split (mk L) (mk [c]) = (splitL c [] L).map mk := by
  have hl : (mk L).length = L.length := mk_len L
  have hk : Builtin.Str.strKind (mk [c]) = 1 := by simp [Builtin.Str.strKind, mk, hc]
  have hk2 : 1 ≤ Builtin.Str.strKind (mk L) := by unfold Builtin.Str.strKind; split <;> (try split) <;> omega
  have hn : 1 ≤ L.length := by cases L with
    | nil => exact absurd rfl h0
    | cons => simp
  have e1 : (decide ((mk L).length < (mk [c]).length) || decide (Builtin.Str.strKind (mk L) < Builtin.Str.strKind (mk [c]))) = false := by
    rw [hl, mk_len, hk, Bool.or_eq_false_iff]
    exact ⟨decide_eq_false (by simp; omega), decide_eq_false (by omega)⟩
  have occ : occurrences (mk L) (mk [c]) 0 (mk L).length ((mk L).length + 1) = (List.range' 0 L.length).filter (fun i => L[i]? == some c) := by
    rw [occ_eq, occ_all (mk L) (mk [c]) (mk L).length ((mk L).length + 1) (by rw [mk_len]; simp) (by rw [mk_len]; simp) ((mk L).length + 1 - 0) 0 (#[], 0) (Nat.le_refl _) (by simp), hl]
    have e2 : L.length + 1 - 0 = L.length + 1 := by omega
    rw [e2, List.range'_concat, List.filter_append]
    have e3 : (List.filter (fun i => decide (i + (mk [c]).length ≤ L.length) && subAt (mk L) (mk [c]) i) [0 + 1 * L.length]) = [] := by
      simp [mk_len]
      intro h
      omega
    rw [e3, List.append_nil]
    simp only [List.nil_append]
    apply List.filter_congr
    intro i hi
    have hi' : i < L.length := by simpa using hi
    rw [subAt_eq, mk_len]
    show (_ && (List.take _ (List.drop i (tl (mk L))) == tl (mk [c]))) = _
    rw [tl_mk, tl_mk]
    have : List.take 1 (List.drop i L) = [L[i]] := by
      rw [List.drop_eq_getElem_cons hi']
      rfl
    have e4 : decide (i + [c].length ≤ L.length) = true := by simp; omega
    rw [e4, Bool.true_and]
    show (List.take 1 (List.drop i L) == [c]) = _
    rw [this, List.getElem?_eq_getElem hi']
    simp
  have key : partsFrom (mk L) 1 0 (occurrences (mk L) (mk [c]) 0 (mk L).length ((mk L).length + 1)) = (splitL c [] L).map mk := by
    rw [occ]
    exact parts_L c L L 0 0 [] (Nat.le_refl _) rfl (by simp)
  unfold Txt.split
  rw [if_neg (by rw [e1]; simp)]
  split
  · rename_i h
    have h' : occurrences (mk L) (mk [c]) 0 (mk L).length ((mk L).length + 1) = [] := by simpa using h
    rw [h'] at key
    rw [← key]
    show [mk L] = [strSub (mk L) 0 (mk L).length]
    rw [sub_whole]
  · rw [partsBetween_eq]
    exact key
theorem splitL_line (c : Nat) : ∀ (l rest acc : List Nat), c ∉ l → splitL c acc (l ++ c :: rest) = (acc ++ l) :: splitL c [] rest
  | [], rest, acc, _ => by simp [splitL]
  | x :: l, rest, acc, h => by
    have hx : ¬ x = c := fun e => h (by simp [e])
    rw [List.cons_append, splitL, if_neg hx, splitL_line c l rest _ (fun hm => h (List.mem_cons_of_mem _ hm))]
    simp
theorem splitL_end (c : Nat) : ∀ (l acc : List Nat), c ∉ l → splitL c acc l = [acc ++ l]
  | [], acc, _ => by simp [splitL]
  | x :: l, acc, h => by
    have hx : ¬ x = c := fun e => h (by simp [e])
    rw [splitL, if_neg hx, splitL_end c l _ (fun hm => h (List.mem_cons_of_mem _ hm))]
    simp
/-- the lines, each with its end, but for the last end -/
theorem splitL_lines (c : Nat) : ∀ (ls : List (List Nat)), ls ≠ [] → (∀ l ∈ ls, c ∉ l) → splitL c [] ((ls.map (· ++ [c])).flatten.dropLast) = ls
  | [], h, _ => absurd rfl h
  | [l], _, h => by
    simp only [List.map_cons, List.map_nil, List.flatten_cons, List.flatten_nil, List.append_nil, List.dropLast_concat]
    rw [splitL_end c l [] (h l (by simp))]
    rfl
  | l :: m :: ls, _, h => by
    have hne : ((m :: ls).map (· ++ [c])).flatten ≠ [] := by simp
    rw [List.map_cons, List.flatten_cons, List.append_assoc, List.singleton_append, List.dropLast_append_of_ne_nil (by simp), List.dropLast_cons_of_ne_nil hne, splitL_line c l _ _ (h l (by simp)),
      splitL_lines c (m :: ls) (by simp) (fun x hx => h x (List.mem_cons_of_mem _ hx))]
    rfl
end M


set_option Elab.async false
set_option linter.all false
set_option maxRecDepth 100000
set_option maxHeartbeats 4000000
/-! What every law has: its draws, one taken, likeness; and plain lemmas of these. -/
namespace M
open PySem PySem.Spec PyProof.Rows L2
noncomputable def b__law_draws_1 : MS := (sSeq (sSet (gN 4) (mBin dMod (mCall dInt (mCons (mBin dAdd (mBin dMul (mVar 3) (mC (.int 48271))) (mC (.int 11))) mNil)) (mC (.int 2147483647)))) (sSeq (sExpr (mMeth "list" gAppend (mVar 1) (mCons (mBin dMod (mCall dInt (mCons (mBin dAdd (mBin dMul (mVar 4) (mC (.int 69621))) (mVar 3)) mNil)) (mC (.int 2147483629))) mNil))) (sSeq (sExpr (mMeth "list" gAppend (mVar 1) (mCons (mBin dMod (mCall dInt (mCons (mBin dAdd (mVar 4) (mBin dFdiv (mVar 3) (mC (.int 7)))) mNil)) (mC (.int 1000003))) mNil))) (sSet (gN 3) (mC (.int 0))))))
noncomputable def b__law_draws_2 : MS := (sSeq (sExpr (mMeth "list" gAppend (mVar 1) (mCons (mBin dMod (mCall dInt (mCons (mVar 3) mNil)) (mC (.int 997))) mNil))) (sSet (gN 3) (mBin dFdiv (mVar 3) (mC (.int 997)))))
noncomputable def l__law_draws_3 : MS := (sIf (mB (mBin dGt (mVar 3) (mC (.int 0)))) b__law_draws_2 sSkip)
noncomputable def l__law_draws_4 : MS := (sSeq (sSet (gN 3) (mCall dAbs (mCons (mVar 2) mNil))) (sSeq (sIf (mB (mBin dLt (mVar 3) (mBin dPow (mC (.int 10)) (mC (.int 18))))) b__law_draws_1 sSkip) (sFor (mSrcA srcR1 (mCons (mC (.int 60)) mNil)) (gN 5) l__law_draws_3)))
noncomputable def b__law_draws_5 : MS := (sSet (gN 6) (mBin dAdd (mC (.int 1)) (mCall dAbs (mCons (mBin dIx (mVar 0) (mC (.int 0))) mNil))))
noncomputable def l__law_draws_6 : MS := (sSeq (sSet (gN 6) (mBin dMod (mCall dInt (mCons (mBin dAdd (mBin dMul (mVar 6) (mC (.int 48271))) (mC (.int 69621))) mNil)) (mC (.int 2147483647)))) (sExpr (mMeth "list" gAppend (mVar 1) (mCons (mBin dFdiv (mVar 6) (mC (.int 5))) mNil))))
noncomputable def b__law_draws : MS := (sSeq (sSet (gN 1) (asL (mLst mNil))) (sSeq (sFor (mSrc (mVar 0)) (gN 2) l__law_draws_4) (sSeq (sSet (gN 6) (mC (.int 1))) (sSeq (sIf (mB (mBin dGt (mCall dLen (mCons (mVar 0) mNil)) (mC (.int 0)))) b__law_draws_5 sSkip) (sSeq (sFor (mSrcA srcR1 (mCons (mC (.int 900)) mNil)) (gN 5) l__law_draws_6) (sRet (asL (mListRev (mVar 1)))))))))
noncomputable def m__law_draws : List D → Store → Res D := retK (runF 7 b__law_draws)
noncomputable def b__law_take : MS := (sSeq (sIf (mB (mBin dEq (mCall dLen (mCons (mVar 0) mNil)) (mC (.int 0)))) (sRet (mC (.int 0))) sSkip) (sRet (mBin dMod (mCall dInt (mCons (mMeth "list" gPop (mVar 0) mNil) mNil)) (mVar 1))))
noncomputable def m__law_take : List D → Store → Res D := retV (runF 2 b__law_take)
noncomputable def t__law_alike_1 (g : List D → Store → Res D) : MT := (mNot (mTru (mCallF 2 g (mCons (mBin dIx (mVar 0) (mVar 2)) (mCons (mBin dIx (mVar 1) (mVar 2)) mNil)))))
noncomputable def b__law_alike_2 (g : List D → Store → Res D) : MS := (sSeq (sIf (mOr (mB (mBin dNe (mCall dIsInst (mCons (mVar 0) (mCons (mC (.ty "list")) mNil))) (mCall dIsInst (mCons (mVar 1) (mCons (mC (.ty "list")) mNil))))) (mB (mBin dNe (mCall dIsInst (mCons (mVar 0) (mCons (mC (.ty "tuple")) mNil))) (mCall dIsInst (mCons (mVar 1) (mCons (mC (.ty "tuple")) mNil)))))) (sRet (mC (.bl false))) sSkip) (sRet (mAndV (mBin dEq (mCall dLen (mCons (mVar 0) mNil)) (mCall dLen (mCons (mVar 1) mNil))) (mBin dEq (asV (mLc (mSrcA srcR1 (mCons (mCall dLen (mCons (mVar 1) mNil)) mNil)) (gN 2) (t__law_alike_1 g) (mVar 2) [2])) (asV (mLst mNil))))))
noncomputable def b__law_alike_3 (g : List D → Store → Res D) : MS := (sRet (mBin dIs (mVar 0) (mC .non)))
noncomputable def b__law_alike_4 (g : List D → Store → Res D) : MS := (sRet (mAndV (mCall dIsInst (mCons (mVar 0) (mCons (mC (.ty "bool")) mNil))) (mAndV (mCall dIsInst (mCons (mVar 1) (mCons (mC (.ty "bool")) mNil))) (mBin dEq (mVar 0) (mVar 1)))))
noncomputable def b__law_alike_5 (g : List D → Store → Res D) : MS := (sRet (mAndV (mCall dIsInst (mCons (mVar 0) (mCons (mC (.ty "int")) mNil))) (mBin dEq (mVar 0) (mVar 1))))
noncomputable def b__law_alike (g : List D → Store → Res D) : MS := (sSeq (sIf (mOr (mTru (mCall dIsInst (mCons (mVar 1) (mCons (mC (.ty "list")) mNil)))) (mTru (mCall dIsInst (mCons (mVar 1) (mCons (mC (.ty "tuple")) mNil))))) (b__law_alike_2 g) sSkip) (sSeq (sIf (mB (mBin dIs (mVar 1) (mC .non))) (b__law_alike_3 g) sSkip) (sSeq (sIf (mOr (mTru (mCall dIsInst (mCons (mVar 1) (mCons (mC (.ty "bool")) mNil)))) (mTru (mCall dIsInst (mCons (mVar 0) (mCons (mC (.ty "bool")) mNil))))) (b__law_alike_4 g) sSkip) (sSeq (sIf (mTru (mCall dIsInst (mCons (mVar 1) (mCons (mC (.ty "int")) mNil)))) (b__law_alike_5 g) sSkip) (sRet (mAndV (mCall dIsInst (mCons (mVar 0) (mCons (mC (.ty "str")) mNil))) (mBin dEq (mVar 0) (mVar 1))))))))
noncomputable def r__law_alike : Nat → List D → Store → Res D
  | 0 => fun _ _ => .bad
  | n + 1 => retV (runF 3 (b__law_alike (r__law_alike n)))
noncomputable def m__law_alike := r__law_alike 8
section
variable [Tabs]
/-- the store of the law: the draws that are left -/
abbrev St (l : List Int) : Store := [OB.lst (I l)]
theorem clS_St (l : List Int) (n : Nat) : clS n (St l) = true := by simp [clS, clO, cls_I]
theorem take_ex (b : Int) (hb : 0 < b) (l : List Int) : ∃ k l', 0 ≤ k ∧ k < b ∧ m__law_take [.loc 0, .int b] (St l) = .ok (.int k) (St l') := by
  rcases List.eq_nil_or_concat l with rfl | ⟨l', x, rfl⟩
  · refine ⟨0, [], Int.le_refl _, hb, ?_⟩
    refine (retV_ok (d := .int 0) (S' := St []) ?_ (clS_St _ _) rfl).trans rfl
    simp [runF, b__law_take, dLen, seqOf, lstOf]
  · refine ⟨x % b, l', Int.emod_nonneg _ (by omega), Int.emod_lt_of_pos _ hb, ?_⟩
    refine (retV_ok (d := .int (x % b)) (S' := St l') ?_ (clS_St _ _) rfl).trans rfl
    have h0 : ¬ ((l'.length : Int) + 1 = 0) := by omega
    simp [runF, b__law_take, dLen, seqOf, lstOf, rcv, gPop, x_mod hb, h0]
theorem a1 {w : Nat} (h : w ≤ 40) : w ≤ sizeLine := Nat.le_trans h (by decide)
theorem a2 {w : Nat} (h : w ≤ 40) : M.inR (w : Int) = true := by
  unfold M.inR
  rw [decide_eq_true_eq]
  constructor <;> omega
theorem a3 {w : Nat} {S : Store} (hr : M.inR (w : Int) = true) : srcR1 [.int w] S = some ⟨rng 0 w, []⟩ := by
      simp only [srcR1, hr, if_true, Int.toNat_natCast]
theorem a4 {w : Nat} (hw : w ≤ 40) : (rng 0 w).length ≤ sizeLine := by rw [rng, List.length_map, List.length_range]; exact a1 hw
theorem a5 {w : Nat} {ys : List D} (hl : ys.length = (rng 0 w).length) : ys.length = w := by simpa [rng] using hl
theorem a6 {ys : List D} {l' : List Int} : dTuple [.lst ys] (St l') = some (.tup ys) := rfl
theorem t1 (ys xs : List D) (e : M.Env) (me : ME) (s v : Nat) (S S' : Store) (hz : xs.length ≤ sizeLine) (h : lcM ⟨xs, []⟩ (gN s) mYes me (wipeE e [s]) xs S = .ok ys S') (s1 : (mSrcA srcR1 (mCons (mVar v) mNil)) e S = .ok ⟨xs, []⟩ S) :
   (mCall dTuple (mCons (asV (mLc (mSrcA srcR1 (mCons (mVar v) mNil)) (gN s) mYes me [s])) mNil)) e S = .ok (.tup ys) S' := by
  have s2 : (mLc (mSrcA srcR1 (mCons (mVar v) mNil)) (gN s) mYes me [s]) e S = .ok ys S' := by rw [x_mLc, s1, Res.bind_ok, if_pos hz, h]
  have h5 : dTuple [.lst ys] S' = some (.tup ys) := rfl
  simp only [x_mCall, x_mCons, x_asV, s2, Res.bind_ok, x_mNil, h5, Res.of_some]
theorem rng_mem {n : Nat} {d : D} (h : d ∈ rng 0 n) : ∃ j : Int, d = .int j := by
  obtain ⟨i, _, rfl⟩ := List.mem_map.mp h
  exact ⟨_, rfl⟩
theorem t2 {P : D → Prop} (me : ME) (e : M.Env) (v s w : Nat) (hc : ∀ (j : Int) l, ∃ y l', P y ∧ me ((wipeE e [s]).set s (some (.int j))) (St l) = .ok y (St l')) (l : List Int) :
  ∃ ys l', ys.length = (rng 0 w).length ∧ (∀ y ∈ ys, P y) ∧ lcM ⟨rng 0 w, []⟩ (gN s) mYes me (wipeE e [s]) (rng 0 w) (St l) = .ok ys (St l') := by
  apply lc_run (t := gN s) (me := me) (e := wipeE e [s]) (xs := rng 0 w) (P := P) St (rng 0 w) l
  intro d hd l
  obtain ⟨j, hj⟩ := rng_mem hd
  obtain ⟨y, l', hp, hy⟩ := hc j l
  rw [hj]
  exact ⟨_, y, l', rfl, hp, hy⟩
theorem t3a (e : M.Env) (v : Nat) (d : D) (hv : e[v]? = some (some d)) (S : Store) : mVar v e S = .ok d S := by
  simp only [x_mVar, hv]
theorem t3b (e : M.Env) (d : D) (a : ME) (S : Store) (src : Src) (f : List D → Store → Option Src) (h1 : a e S = .ok d S) (h2 : f [d] S = some src) : (mSrcA f (mCons a mNil)) e S = .ok src S := by
  simp only [x_mSrcA, x_mCons, h1, Res.bind_ok, x_mNil, h2, Res.of_some]
theorem t3 (e : M.Env) (v w : Nat) (hv : e[v]? = some (some (.int w))) (hw : w ≤ 40) (S : Store) : (mSrcA srcR1 (mCons (mVar v) mNil)) e S = .ok ⟨rng 0 w, []⟩ S :=
  t3b e (.int w) _ S _ _ (t3a e v _ hv S) (a3 (a2 hw))
theorem grid1 {P : D → Prop} (me : ME) (e : M.Env) (v s w : Nat) (hw : w ≤ 40) (hv : e[v]? = some (some (.int w))) (hc : ∀ (j : Int) l, ∃ y l', P y ∧ me ((wipeE e [s]).set s (some (.int j))) (St l) = .ok y (St l')) (l : List Int) :
    ∃ ys l', ys.length = w ∧ (∀ y ∈ ys, P y) ∧ (mCall dTuple (mCons (asV (mLc (mSrcA srcR1 (mCons (mVar v) mNil)) (gN s) mYes me [s])) mNil)) e (St l) = .ok (.tup ys) (St l') := by
  obtain ⟨ys, l', h1, h2, h3⟩ := t2 me e v s w hc l
  exact ⟨ys, l', a5 h1, h2, t1 ys (rng 0 w) e me s v (St l) (St l') (a4 hw) h3 (t3 e v w hv hw (St l))⟩
theorem ints_of {P : Int → Prop} : ∀ {ys : List D}, (∀ y ∈ ys, ∃ x, y = .int x ∧ P x) → ∃ r, ys = I r ∧ ∀ x ∈ r, P x
  | [], _ => ⟨[], rfl, by simp⟩
  | y :: ys, h => by
    obtain ⟨x, rfl, hx⟩ := h y (by simp)
    obtain ⟨r, rfl, hr⟩ := ints_of fun z hz => h z (List.mem_cons_of_mem _ hz)
    refine ⟨x :: r, rfl, fun z hz => ?_⟩
    rcases List.mem_cons.mp hz with rfl | hz
    · exact hx
    · exact hr z hz
theorem rows_of {P : List Int → Prop} : ∀ {ys : List D}, (∀ y ∈ ys, ∃ r, y = .tup (I r) ∧ P r) → ∃ a : List (List Int), ys = a.map (fun r => .tup (I r)) ∧ ∀ r ∈ a, P r
  | [], _ => ⟨[], rfl, by simp⟩
  | y :: ys, h => by
    obtain ⟨x, rfl, hx⟩ := h y (by simp)
    obtain ⟨r, rfl, hr⟩ := rows_of fun z hz => h z (List.mem_cons_of_mem _ hz)
    refine ⟨x :: r, rfl, fun z hz => ?_⟩
    rcases List.mem_cons.mp hz with rfl | hz
    · exact hx
    · exact hr z hz
def ab (x : Int) : Int := if x < 0 then -x else x
theorem for_ex {xs : List D} {g : MG} {b : MS} (Inv : Nat → M.Env → Store → Prop) : ∀ (ds : List D) (k : Nat) (e : M.Env) (S : Store), Inv k e S →
    (∀ d ∈ ds, ∀ k' e S, k' < k + ds.length → Inv k' e S → ∃ e1 e2 S2, g d e S = some e1 ∧ b e1 S = some (.nx, e2, S2) ∧ Inv (k' + 1) e2 S2) → ∃ e' S', Inv (k + ds.length) e' S' ∧ M.forM ⟨xs, []⟩ g b ds e S = some (.nx, e', S')
  | [], k, e, S, h, _ => ⟨e, S, h, for_nil⟩
  | d :: ds, k, e, S, h, hs => by
    obtain ⟨e1, e2, S2, h1, h2, h3⟩ := hs d (by simp) k e S (by simp) h
    obtain ⟨e', S', h4, h5⟩ := for_ex Inv ds (k + 1) e2 S2 h3 fun d hd k' e S hk => hs d (List.mem_cons_of_mem _ hd) k' e S (by simp only [List.length_cons]; omega)
    refine ⟨e', S', ?_, (for_cons h1 h2).trans h5⟩
    have : k + 1 + ds.length = k + (d :: ds).length := by simp; omega
    rwa [this] at h4
theorem src_rng (n : Nat) (h : n ≤ 100000) {e : M.Env} {S : Store} {m : ME} (hm : m e S = .ok (.int n) S) : mSrcA srcR1 (mCons m mNil) e S = .ok ⟨rng 0 n, []⟩ S := by
  have hr : M.inR (n : Int) = true := by
    unfold M.inR
    rw [decide_eq_true_eq]
    constructor <;> omega
  rw [x_mSrcA, one_ok hm, Res.bind_ok, a3 hr]
  rfl
theorem rng_len (n : Nat) : (rng 0 n).length = n := by rw [rng, List.length_map, List.length_range]
theorem app_st {e : M.Env} {me : ME} {l : List Int} {v : Int} (h1 : e[1]? = some (some (.loc 0))) (h2 : me e (St l) = .ok (.int v) (St l)) (hl : l.length < 100000) :
    sExpr (mMeth "list" gAppend (mVar 1) (mCons me mNil)) e (St l) = some (.nx, e, St (l ++ [v])) := by
  have h3 := app_last (S := []) (xs := I l) (y := .int v) (by rw [I, List.length_map]; exact hl)
  refine expr_ok (d := .non) (meth_ok (var_ok h1) (rcv_last (S := [])) (one_ok h2) (h3.trans ?_))
  rw [St, I, I, List.map_append]
  rfl
theorem mulc (x : Int) (c : Int) (hc : c.natAbs < 2 ^ 64) (S : Store) : dMul (.int x) (.int c) S = some (.int (x * c)) := x_mul (.inr hc)
theorem in_loop (o0 o2 : D) (e4 e6 : Option D) (left : Int) (l : List Int) (e5 : Option D) (hl : l.length ≤ 50000) :
    ∃ e' l', e'[0]? = some (some o0) ∧ e'[1]? = some (some (.loc 0)) ∧ e'.length = 7 ∧ l'.length ≤ l.length + 60 ∧
      sFor (mSrcA srcR1 (mCons (mC (.int 60)) mNil)) (gN 5) l__law_draws_3 [some o0, some (.loc 0), some o2, some (.int left), e4, e5, e6] (St l) = some (.nx, e', St l') := by
  obtain ⟨e', S', ⟨lf, l', e5', h1, rfl, rfl⟩, h2⟩ := for_ex (xs := rng 0 60) (g := gN 5) (b := l__law_draws_3) (fun k e S => ∃ left l' e5, l'.length ≤ l.length + k ∧ e = [some o0, some (.loc 0), some o2, some (.int left), e4, e5, e6] ∧ S = St l') (rng 0 60) 0
    [some o0, some (.loc 0), some o2, some (.int left), e4, e5, e6] (St l) ⟨left, l, e5, Nat.le_refl _, rfl, rfl⟩ (by
      rintro d hd k e S hk ⟨left, l', e5, hl', rfl, rfl⟩
      rw [rng_len] at hk
      by_cases h0 : 0 < left
      · refine ⟨_, [some o0, some (.loc 0), some o2, some (.int (left / 997)), e4, some d, e6], St (l' ++ [left % 997]), rfl, ?_, _, _, _, ?_, rfl, rfl⟩
        · refine (if_t (b_ok (c := true) (bin_ok (var_ok rfl) rfl ?_))).trans ?_
          · rw [x_gt, decide_eq_true h0]
          · refine (seq_nx (app_st rfl (bin_ok (call_ok (one_ok (var_ok rfl)) x_int) rfl (x_mod (by decide))) (by omega))).trans ?_
            exact set_ok (bin_ok (var_ok rfl) rfl (x_fdiv (by decide)))
        · simp only [List.length_append, List.length_singleton]; omega
      · refine ⟨_, [some o0, some (.loc 0), some o2, some (.int left), e4, some d, e6], St l', rfl, if_skip (b_ok (c := false) (bin_ok (var_ok rfl) rfl ?_)), _, _, _, ?_, rfl, rfl⟩
        · rw [x_gt, decide_eq_false h0]
        · omega)
  refine ⟨_, l', rfl, rfl, rfl, ?_, for_ok (src_rng 60 (by decide) rfl) h2⟩
  rw [rng_len] at h1
  omega
theorem x_pow {x y : Int} {S : Store} (h : 0 ≤ y ∧ y ≤ 1000000 ∧ x.natAbs < 2 ^ 64) : dPow (.int x) (.int y) S = some (.int (x ^ y.toNat)) := if_pos h
theorem num_step (o0 : D) (n : Int) (e3 e4 e5 e6 : Option D) (l : List Int) (hl : l.length ≤ 40000) :
    ∃ e' l', e'[0]? = some (some o0) ∧ e'[1]? = some (some (.loc 0)) ∧ e'.length = 7 ∧ l'.length ≤ l.length + 62 ∧
      l__law_draws_4 [some o0, some (.loc 0), some (.int n), e3, e4, e5, e6] (St l) = some (.nx, e', St l') := by
  have s1 : sSet (gN 3) (mCall dAbs (mCons (mVar 2) mNil)) [some o0, some (.loc 0), some (.int n), e3, e4, e5, e6] (St l) = some (.nx, [some o0, some (.loc 0), some (.int n), some (.int (ab n)), e4, e5, e6], St l) :=
    set_ok (call_ok (one_ok (var_ok rfl)) x_abs)
  have hp : ∀ (e : M.Env) (S : Store), mBin dPow (mC (.int 10)) (mC (.int 18)) e S = .ok (.int (10 ^ 18)) S := fun e S => bin_ok rfl rfl (x_pow (by decide))
  by_cases h0 : ab n < 10 ^ 18
  · obtain ⟨e', l', a0, a1, a2, a3, hi⟩ := in_loop o0 (.int n) (some (.int ((ab n * 48271 + 11) % 2147483647))) e6 0 (l ++ [((ab n * 48271 + 11) % 2147483647 * 69621 + ab n) % 2147483629] ++ [((ab n * 48271 + 11) % 2147483647 + ab n / 7) % 1000003]) e5
      (by simp only [List.length_append, List.length_singleton]; omega)
    refine ⟨e', l', a0, a1, a2, ?_, ?_⟩
    · simp only [List.length_append, List.length_singleton] at a3; omega
    refine (seq_nx s1).trans ((seq_nx (e1 := [some o0, some (.loc 0), some (.int n), some (.int 0), some (.int ((ab n * 48271 + 11) % 2147483647)), e5, e6]) (S1 := St (l ++ [((ab n * 48271 + 11) % 2147483647 * 69621 + ab n) % 2147483629] ++ [((ab n * 48271 + 11) % 2147483647 + ab n / 7) % 1000003])) ?_).trans hi)
    refine (if_t (b_ok (c := true) (bin_ok (var_ok rfl) (hp _ _) ?_))).trans ?_
    · rw [x_lt, decide_eq_true h0]
    refine (seq_nx (set_ok (bin_ok (call_ok (one_ok (bin_ok (bin_ok (var_ok rfl) rfl (mulc _ _ (by decide) _)) rfl x_add)) x_int) rfl (x_mod (by decide))))).trans ?_
    refine (seq_nx (app_st rfl (bin_ok (call_ok (one_ok (bin_ok (bin_ok (var_ok rfl) rfl (mulc _ _ (by decide) _)) (var_ok rfl) x_add)) x_int) rfl (x_mod (by decide))) (by omega))).trans ?_
    refine (seq_nx (app_st rfl (bin_ok (call_ok (one_ok (bin_ok (var_ok rfl) (bin_ok (var_ok rfl) rfl (x_fdiv (by decide))) x_add)) x_int) rfl (x_mod (by decide))) (by simp only [List.length_append, List.length_singleton]; omega))).trans ?_
    exact set_ok rfl
  · obtain ⟨e', l', a0, a1, a2, a3, hi⟩ := in_loop o0 (.int n) e4 e6 (ab n) l e5 (by omega)
    refine ⟨e', l', a0, a1, a2, by omega, ?_⟩
    refine (seq_nx s1).trans ((seq_nx (if_skip (b_ok (c := false) (bin_ok (var_ok rfl) (hp _ _) ?_)))).trans hi)
    rw [x_lt, decide_eq_false h0]
theorem env7 {e : M.Env} {o0 o1 : D} (h0 : e[0]? = some (some o0)) (h1 : e[1]? = some (some o1)) (hl : e.length = 7) : ∃ e2 e3 e4 e5 e6, e = [some o0, some o1, e2, e3, e4, e5, e6] := by
  match e, hl with
  | [a, b, c, d, f, g, h], _ =>
    simp at h0 h1
    subst h0 h1
    exact ⟨c, d, f, g, h, rfl⟩
theorem draws_ex (ns : List Int) (hn : ns.length ≤ 63) : ∃ l, m__law_draws [.fro (I ns)] [] = .ok (.loc 0) (St l) := by
  suffices hs : ∃ l l' e', b__law_draws [some (.fro (I ns)), none, none, none, none, none, none] [] = some (.rt (.loc 1), e', [OB.lst (I l), OB.lst (I l')]) by
    obtain ⟨l, l', e', h⟩ := hs
    refine ⟨l', ?_⟩
    show retK (runF 7 b__law_draws) _ _ = _
    unfold retK
    have : runF 7 b__law_draws [.fro (I ns)] [] = .ok (.loc 1) [OB.lst (I l), OB.lst (I l')] := run_rt (e' := e') h
    rw [this]
    simp [clS, cls_I]
  obtain ⟨e1, S1, ⟨l1, hl1, g0, g1, g2, rfl⟩, hf1⟩ := for_ex (xs := I ns) (g := gN 2) (b := l__law_draws_4) (fun k e S => ∃ l, l.length ≤ 62 * k ∧ e[0]? = some (some (.fro (I ns))) ∧ e[1]? = some (some (.loc 0)) ∧ e.length = 7 ∧ S = St l) (I ns) 0
    [some (.fro (I ns)), some (.loc 0), none, none, none, none, none] (St []) ⟨[], Nat.zero_le _, rfl, rfl, rfl, rfl⟩ (by
      rintro d hd k e S hk ⟨l, hl, h0, h1, h2, rfl⟩
      obtain ⟨n, _, rfl⟩ := List.mem_map.mp hd
      simp only [I, List.length_map] at hk
      obtain ⟨e2, e3, e4, e5, e6, rfl⟩ := env7 h0 h1 h2
      obtain ⟨e', l', a0, a1, a2, a3, hi⟩ := num_step (.fro (I ns)) n e3 e4 e5 e6 l (by omega)
      exact ⟨_, e', St l', rfl, hi, l', by omega, a0, a1, a2, rfl⟩)
  obtain ⟨b2, b3, b4, b5, b6, rfl⟩ := env7 g0 g1 g2
  simp only [I, List.length_map, Nat.zero_add] at hl1
  have tail : ∀ (st : Int), ∃ l l' e', sSeq (sFor (mSrcA srcR1 (mCons (mC (.int 900)) mNil)) (gN 5) l__law_draws_6) (sRet (asL (mListRev (mVar 1)))) [some (.fro (I ns)), some (.loc 0), b2, b3, b4, b5, some (.int st)] (St l1) = some (.rt (.loc 1), e', [OB.lst (I l), OB.lst (I l')]) := by
    intro st
    obtain ⟨e', S', ⟨st', l2, b5', hl2, rfl, rfl⟩, hf2⟩ := for_ex (xs := rng 0 900) (g := gN 5) (b := l__law_draws_6) (fun k e S => ∃ st l b5, l.length ≤ l1.length + k ∧ e = [some (.fro (I ns)), some (.loc 0), b2, b3, b4, b5, some (.int st)] ∧ S = St l) (rng 0 900) 0
      [some (.fro (I ns)), some (.loc 0), b2, b3, b4, b5, some (.int st)] (St l1) ⟨st, l1, b5, Nat.le_refl _, rfl, rfl⟩ (by
        rintro d hd k e S hk ⟨st, l, b5, hl, rfl, rfl⟩
        rw [rng_len] at hk
        refine ⟨_, _, St (l ++ [(st * 48271 + 69621) % 2147483647 / 5]), rfl, ?_, (st * 48271 + 69621) % 2147483647, _, some d, ?_, rfl, rfl⟩
        · refine (seq_nx (set_ok (bin_ok (call_ok (one_ok (bin_ok (bin_ok (var_ok rfl) rfl (mulc _ _ (by decide) _)) rfl x_add)) x_int) rfl (x_mod (by decide))))).trans ?_
          exact app_st rfl (bin_ok (var_ok rfl) rfl (x_fdiv (by decide))) (by omega)
        · simp only [List.length_append, List.length_singleton]; omega)
    refine ⟨l2, l2.reverse, _, (seq_nx (for_ok (src_rng 900 (by decide) rfl) hf2)).trans (ret_ok ?_)⟩
    refine (asL_ok (S1 := St l2) (ds := (I l2).reverse) ?_).trans ?_
    · rfl
    · rw [← List.map_reverse]; rfl
  have hlen : dLen [.fro (I ns)] (St l1) = some (.int ns.length) := by
    show some (D.int ((I ns).length : Int)) = _
    rw [I, List.length_map]
  by_cases hp : 0 < (ns.length : Int)
  · cases ns with
    | nil => simp at hp
    | cons n ns =>
      obtain ⟨l, l', e', ht⟩ := tail (1 + ab n)
      refine ⟨l, l', e', (seq_nx (set_ok (asL_ok (lst_ok rfl (a1 (by decide)))))).trans ((seq_nx (for_ok (S1 := St []) (xs := I (n :: ns)) rfl hf1)).trans ((seq_nx (set_ok rfl)).trans ((seq_nx ?_).trans ht)))⟩
      refine (if_t (b_ok (c := true) (bin_ok (call_ok (one_ok (var_ok rfl)) hlen) rfl ?_))).trans ?_
      · rw [x_gt, decide_eq_true hp]
      · exact set_ok (bin_ok rfl (call_ok (one_ok (bin_ok (var_ok rfl) rfl (at_nat (I (n :: ns)) 0 _ rfl))) x_abs) x_add)
  · obtain ⟨l, l', e', ht⟩ := tail 1
    refine ⟨l, l', e', (seq_nx (set_ok (asL_ok (lst_ok rfl (a1 (by decide)))))).trans ((seq_nx (for_ok (S1 := St []) (xs := I ns) rfl hf1)).trans ((seq_nx (set_ok rfl)).trans ((seq_nx (if_skip ?_)).trans ht)))⟩
    refine b_ok (c := false) (bin_ok (call_ok (one_ok (var_ok rfl)) hlen) rfl ?_)
    rw [x_gt, decide_eq_false hp]
theorem or_ff {s t : MT} (hs : s e S = .ok false S) (ht : t e S = .ok false S) : mOr s t e S = .ok false S := by rw [x_mOr, hs, Res.bind_ok]; exact ht
theorem ne_ff {x y : ME} {u v : D} (hx : x e S = .ok u S) (hy : y e S = .ok v S) (hd : dNe u v S = some (.bl false)) : mB (mBin dNe x y) e S = .ok false S := b_ok (bin_ok hx hy hd)
theorem neI {x y : Int} (h : x = y) : dNe (.int x) (.int y) S = some (.bl false) := by rw [x_neI, decide_eq_true h]; rfl
theorem neB {x y : Bool} (h : x = y) : dNe (.bl x) (.bl y) S = some (.bl false) := by rw [x_neB, decide_eq_true h]; rfl
theorem neL {x y : List Int} (h : x = y) : dNe (.lst (I x)) (.lst (I y)) S = some (.bl false) := by rw [x_neL, decide_eq_true h]; rfl
theorem neP {x y : List (List Int)} (h : x = y) : dNe (pic x) (pic y) S = some (.bl false) := by rw [x_neP, decide_eq_true h]; rfl
theorem neS {x y : PySem.Str} (h : x = y) : dNe (.str x) (.str y) S = some (.bl false) := by rw [x_neStr, decide_eq_true h]; rfl
theorem gt_ff {x y : ME} {u v : Int} (hx : x e S = .ok (.int u) S) (hy : y e S = .ok (.int v) S) (hd : u ≤ v) : mB (mBin dGt x y) e S = .ok false S := b_ok (bin_ok hx hy (by rw [x_gt, decide_eq_false (by omega)]))
/-- a function that only returns -/
theorem ret_fn {n : Nat} {m : ME} {ds : List D} {d : D} (hS : clS S.length S = true) (h : m (ds.map some ++ List.replicate (n - ds.length) none) S = .ok d S) (hd : cl S.length d = true) : retV (runF n (sRet m)) ds S = .ok d S :=
  retV_id (run_rt (ret_ok h)) hS hd
theorem take_nat (n : Nat) (hn : 0 < n) (l : List Int) : ∃ (k : Nat) (l' : List Int), k < n ∧ m__law_take [.loc 0, .int (n : Int)] (St l) = .ok (.int (k : Int)) (St l') := by
  obtain ⟨k, l', k0, k1, q⟩ := take_ex (n : Int) (by omega) l
  obtain ⟨m, rfl⟩ := Int.eq_ofNat_of_zero_le k0
  exact ⟨m, l', by omega, q⟩
end
end M


set_option Elab.async false
set_option linter.all false
set_option maxRecDepth 100000
set_option maxHeartbeats 4000000
namespace K68
open PySem PySem.Spec PyProof.Rows L2 M M.Fo
variable [Tabs]
def top (i : Nat) : Stmt := PySem.Challenge.pw_lostastold_k68_whole_fronts_as_sums_and.main.body.getD i (.Pass ⟨0, 0, 0, 0⟩)
abbrev s__law_draws : Stmt := top 30
abbrev s__law_take : Stmt := top 31
abbrev s__law_front : Stmt := top 33
abbrev s__law_drawn_front : Stmt := top 34
abbrev s_front_of : Stmt := top 12
abbrev s_put_together : Stmt := top 13
abbrev s__law_alike : Stmt := top 32
abbrev s_all_together : Stmt := top 15
abbrev s_either : Stmt := top 14
abbrev s_is_below : Stmt := top 23
abbrev s_hull : Stmt := top 24
abbrev s_in_order : Stmt := top 26
abbrev s_hull_together : Stmt := top 25
abbrev s_is_number : Stmt := top 6
abbrev s_is_price : Stmt := top 20
abbrev s_weighed : Stmt := top 21
abbrev s_best_at : Stmt := top 22
abbrev s_least_bits : Stmt := top 16
abbrev s_bound_by : Stmt := top 28
abbrev s_least_loss : Stmt := top 17
abbrev s_is_pair : Stmt := top 10
abbrev s_is_front : Stmt := top 11
abbrev s_law : Stmt := top 35
theorem sc__law_draws : FnScope ["script", "draws", "cell", "number", "first", "k", "seed"] ["script"] (defScope s__law_draws) := ⟨rfl, rfl, rfl, by decide +kernel, rfl, by decide +kernel, by decide +kernel⟩
theorem sc__law_take : FnScope ["draws", "bound"] ["draws", "bound"] (defScope s__law_take) := ⟨rfl, rfl, rfl, by decide +kernel, rfl, by decide +kernel, by decide +kernel⟩
theorem sc__law_front : FnScope ["rows", "found", "bits", "lost"] ["rows"] (defScope s__law_front) := ⟨rfl, rfl, rfl, by decide +kernel, rfl, by decide +kernel, by decide +kernel⟩
theorem sc__law_drawn_front : FnScope ["draws", "rows", "k"] ["draws"] (defScope s__law_drawn_front) := ⟨rfl, rfl, rfl, by decide +kernel, rfl, by decide +kernel, by decide +kernel⟩
theorem sc_front_of : FnScope ["rows", "found", "bits", "loss"] ["rows"] (defScope s_front_of) := ⟨rfl, rfl, rfl, by decide +kernel, rfl, by decide +kernel, by decide +kernel⟩
theorem sc_put_together : FnScope ["one", "other", "rows", "bits", "loss", "more", "worse"] ["one", "other"] (defScope s_put_together) := ⟨rfl, rfl, rfl, by decide +kernel, rfl, by decide +kernel, by decide +kernel⟩
theorem sc__law_alike : FnScope ["found", "due", "k"] ["found", "due"] (defScope s__law_alike) := ⟨rfl, rfl, rfl, by decide +kernel, rfl, by decide +kernel, by decide +kernel⟩
theorem sc_all_together : FnScope ["rows", "found", "front"] ["rows"] (defScope s_all_together) := ⟨rfl, rfl, rfl, by decide +kernel, rfl, by decide +kernel, by decide +kernel⟩
theorem sc_either : FnScope ["one", "other"] ["one", "other"] (defScope s_either) := ⟨rfl, rfl, rfl, by decide +kernel, rfl, by decide +kernel, by decide +kernel⟩
theorem sc_is_below : FnScope ["one", "middle", "other"] ["one", "middle", "other"] (defScope s_is_below) := ⟨rfl, rfl, rfl, by decide +kernel, rfl, by decide +kernel, by decide +kernel⟩
theorem sc_hull : FnScope ["front", "found", "pair"] ["front"] (defScope s_hull) := ⟨rfl, rfl, rfl, by decide +kernel, rfl, by decide +kernel, by decide +kernel⟩
theorem sc_in_order : FnScope ["steps", "found", "step", "place"] ["steps"] (defScope s_in_order) := ⟨rfl, rfl, rfl, by decide +kernel, rfl, by decide +kernel, by decide +kernel⟩
theorem sc_hull_together : FnScope ["rows", "steps", "bits", "loss", "front", "corners", "one", "other", "found", "more", "gain"] ["rows"] (defScope s_hull_together) := ⟨rfl, rfl, rfl, by decide +kernel, rfl, by decide +kernel, by decide +kernel⟩
theorem sc_is_number : FnScope ["value", "least", "most"] ["value", "least", "most"] (defScope s_is_number) := ⟨rfl, rfl, rfl, by decide +kernel, rfl, by decide +kernel, by decide +kernel⟩
theorem sc_is_price : FnScope ["value"] ["value"] (defScope s_is_price) := ⟨rfl, rfl, rfl, by decide +kernel, rfl, by decide +kernel, by decide +kernel⟩
theorem sc_weighed : FnScope ["price", "pair"] ["price", "pair"] (defScope s_weighed) := ⟨rfl, rfl, rfl, by decide +kernel, rfl, by decide +kernel, by decide +kernel⟩
theorem sc_best_at : FnScope ["front", "price", "found", "pair"] ["front", "price"] (defScope s_best_at) := ⟨rfl, rfl, rfl, by decide +kernel, rfl, by decide +kernel, by decide +kernel⟩
theorem sc_least_bits : FnScope ["front", "loss", "pair"] ["front", "loss"] (defScope s_least_bits) := ⟨rfl, rfl, rfl, by decide +kernel, rfl, by decide +kernel, by decide +kernel⟩
theorem sc_bound_by : FnScope ["rows", "price", "loss", "total", "front"] ["rows", "price", "loss"] (defScope s_bound_by) := ⟨rfl, rfl, rfl, by decide +kernel, rfl, by decide +kernel, by decide +kernel⟩
theorem sc_least_loss : FnScope ["front", "bits", "found", "pair"] ["front", "bits"] (defScope s_least_loss) := ⟨rfl, rfl, rfl, by decide +kernel, rfl, by decide +kernel, by decide +kernel⟩
theorem sc_is_pair : FnScope ["value", "one"] ["value"] (defScope s_is_pair) := ⟨rfl, rfl, rfl, by decide +kernel, rfl, by decide +kernel, by decide +kernel⟩
theorem sc_is_front : FnScope ["value", "one", "other"] ["value"] (defScope s_is_front) := ⟨rfl, rfl, rfl, by decide +kernel, rfl, by decide +kernel, by decide +kernel⟩
theorem sc_law : FnScope ["script", "draws", "turn", "one", "two", "three", "k", "both", "more", "worse", "stretch", "lift_so", "moved", "bits", "lost", "great", "corners", "pair", "step", "price", "best"] ["script"] (defScope s_law) := ⟨rfl, rfl, rfl, by decide +kernel, rfl, by decide +kernel, by decide +kernel⟩
theorem room65 {k : Nat} {A : Around} (r : Room k A) : A.units + 65 < cLine := by have := r.un; omega
/-- what the head tells -/
structure Facts (K : PySem.W.Frag) (mg : Str → Option Value) (base : Heap) where
  fd__law_draws : FuncData
  F__law_draws : FunD K "_law_draws" "_law_draws" (defArgs s__law_draws) (defBody s__law_draws) (defScope s__law_draws) [] [] (He.ga K "_law_draws") fd__law_draws
  g__law_draws : mg "_law_draws" = some (.ref (He.ga K "_law_draws"))
  b__law_draws : Binds K fd__law_draws ["script"] []
  fd__law_take : FuncData
  F__law_take : FunD K "_law_take" "_law_take" (defArgs s__law_take) (defBody s__law_take) (defScope s__law_take) [] [] (He.ga K "_law_take") fd__law_take
  g__law_take : mg "_law_take" = some (.ref (He.ga K "_law_take"))
  b__law_take : Binds K fd__law_take ["draws", "bound"] []
  fd__law_front : FuncData
  F__law_front : FunD K "_law_front" "_law_front" (defArgs s__law_front) (defBody s__law_front) (defScope s__law_front) [] [] (He.ga K "_law_front") fd__law_front
  g__law_front : mg "_law_front" = some (.ref (He.ga K "_law_front"))
  b__law_front : Binds K fd__law_front ["rows"] []
  fd__law_drawn_front : FuncData
  F__law_drawn_front : FunD K "_law_drawn_front" "_law_drawn_front" (defArgs s__law_drawn_front) (defBody s__law_drawn_front) (defScope s__law_drawn_front) [] [] (He.ga K "_law_drawn_front") fd__law_drawn_front
  g__law_drawn_front : mg "_law_drawn_front" = some (.ref (He.ga K "_law_drawn_front"))
  b__law_drawn_front : Binds K fd__law_drawn_front ["draws"] []
  fd_front_of : FuncData
  F_front_of : FunD K "front_of" "front_of" (defArgs s_front_of) (defBody s_front_of) (defScope s_front_of) [] [] (He.ga K "front_of") fd_front_of
  g_front_of : mg "front_of" = some (.ref (He.ga K "front_of"))
  b_front_of : Binds K fd_front_of ["rows"] []
  fd_put_together : FuncData
  F_put_together : FunD K "put_together" "put_together" (defArgs s_put_together) (defBody s_put_together) (defScope s_put_together) [] [] (He.ga K "put_together") fd_put_together
  g_put_together : mg "put_together" = some (.ref (He.ga K "put_together"))
  b_put_together : Binds K fd_put_together ["one", "other"] []
  fd__law_alike : FuncData
  F__law_alike : FunD K "_law_alike" "_law_alike" (defArgs s__law_alike) (defBody s__law_alike) (defScope s__law_alike) [] [] (He.ga K "_law_alike") fd__law_alike
  g__law_alike : mg "_law_alike" = some (.ref (He.ga K "_law_alike"))
  b__law_alike : Binds K fd__law_alike ["found", "due"] []
  fd_all_together : FuncData
  F_all_together : FunD K "all_together" "all_together" (defArgs s_all_together) (defBody s_all_together) (defScope s_all_together) [] [] (He.ga K "all_together") fd_all_together
  g_all_together : mg "all_together" = some (.ref (He.ga K "all_together"))
  b_all_together : Binds K fd_all_together ["rows"] []
  fd_either : FuncData
  F_either : FunD K "either" "either" (defArgs s_either) (defBody s_either) (defScope s_either) [] [] (He.ga K "either") fd_either
  g_either : mg "either" = some (.ref (He.ga K "either"))
  b_either : Binds K fd_either ["one", "other"] []
  fd_is_below : FuncData
  F_is_below : FunD K "is_below" "is_below" (defArgs s_is_below) (defBody s_is_below) (defScope s_is_below) [] [] (He.ga K "is_below") fd_is_below
  g_is_below : mg "is_below" = some (.ref (He.ga K "is_below"))
  b_is_below : Binds K fd_is_below ["one", "middle", "other"] []
  fd_hull : FuncData
  F_hull : FunD K "hull" "hull" (defArgs s_hull) (defBody s_hull) (defScope s_hull) [] [] (He.ga K "hull") fd_hull
  g_hull : mg "hull" = some (.ref (He.ga K "hull"))
  b_hull : Binds K fd_hull ["front"] []
  fd_in_order : FuncData
  F_in_order : FunD K "in_order" "in_order" (defArgs s_in_order) (defBody s_in_order) (defScope s_in_order) [] [] (He.ga K "in_order") fd_in_order
  g_in_order : mg "in_order" = some (.ref (He.ga K "in_order"))
  b_in_order : Binds K fd_in_order ["steps"] []
  fd_hull_together : FuncData
  F_hull_together : FunD K "hull_together" "hull_together" (defArgs s_hull_together) (defBody s_hull_together) (defScope s_hull_together) [] [] (He.ga K "hull_together") fd_hull_together
  g_hull_together : mg "hull_together" = some (.ref (He.ga K "hull_together"))
  b_hull_together : Binds K fd_hull_together ["rows"] []
  fd_is_number : FuncData
  F_is_number : FunD K "is_number" "is_number" (defArgs s_is_number) (defBody s_is_number) (defScope s_is_number) [] [] (He.ga K "is_number") fd_is_number
  g_is_number : mg "is_number" = some (.ref (He.ga K "is_number"))
  b_is_number : Binds K fd_is_number ["value", "least", "most"] []
  fd_is_price : FuncData
  F_is_price : FunD K "is_price" "is_price" (defArgs s_is_price) (defBody s_is_price) (defScope s_is_price) [] [] (He.ga K "is_price") fd_is_price
  g_is_price : mg "is_price" = some (.ref (He.ga K "is_price"))
  b_is_price : Binds K fd_is_price ["value"] []
  fd_weighed : FuncData
  F_weighed : FunD K "weighed" "weighed" (defArgs s_weighed) (defBody s_weighed) (defScope s_weighed) [] [] (He.ga K "weighed") fd_weighed
  g_weighed : mg "weighed" = some (.ref (He.ga K "weighed"))
  b_weighed : Binds K fd_weighed ["price", "pair"] []
  fd_best_at : FuncData
  F_best_at : FunD K "best_at" "best_at" (defArgs s_best_at) (defBody s_best_at) (defScope s_best_at) [] [] (He.ga K "best_at") fd_best_at
  g_best_at : mg "best_at" = some (.ref (He.ga K "best_at"))
  b_best_at : Binds K fd_best_at ["front", "price"] []
  fd_least_bits : FuncData
  F_least_bits : FunD K "least_bits" "least_bits" (defArgs s_least_bits) (defBody s_least_bits) (defScope s_least_bits) [] [] (He.ga K "least_bits") fd_least_bits
  g_least_bits : mg "least_bits" = some (.ref (He.ga K "least_bits"))
  b_least_bits : Binds K fd_least_bits ["front", "loss"] []
  fd_bound_by : FuncData
  F_bound_by : FunD K "bound_by" "bound_by" (defArgs s_bound_by) (defBody s_bound_by) (defScope s_bound_by) [] [] (He.ga K "bound_by") fd_bound_by
  g_bound_by : mg "bound_by" = some (.ref (He.ga K "bound_by"))
  b_bound_by : Binds K fd_bound_by ["rows", "price", "loss"] []
  fd_least_loss : FuncData
  F_least_loss : FunD K "least_loss" "least_loss" (defArgs s_least_loss) (defBody s_least_loss) (defScope s_least_loss) [] [] (He.ga K "least_loss") fd_least_loss
  g_least_loss : mg "least_loss" = some (.ref (He.ga K "least_loss"))
  b_least_loss : Binds K fd_least_loss ["front", "bits"] []
  fd_is_pair : FuncData
  F_is_pair : FunD K "is_pair" "is_pair" (defArgs s_is_pair) (defBody s_is_pair) (defScope s_is_pair) [] [] (He.ga K "is_pair") fd_is_pair
  g_is_pair : mg "is_pair" = some (.ref (He.ga K "is_pair"))
  b_is_pair : Binds K fd_is_pair ["value"] []
  c_is_pair : Addr
  P_is_pair : Addr
  hc_is_pair : fd_is_pair.code = .ref c_is_pair
  TB_is_pair : GxR.TabB base mg c_is_pair P_is_pair
  T_is_pair : P_is_pair ∈ Tabs.t
  fd_is_front : FuncData
  F_is_front : FunD K "is_front" "is_front" (defArgs s_is_front) (defBody s_is_front) (defScope s_is_front) [] [] (He.ga K "is_front") fd_is_front
  g_is_front : mg "is_front" = some (.ref (He.ga K "is_front"))
  b_is_front : Binds K fd_is_front ["value"] []
  c_is_front : Addr
  P_is_front : Addr
  hc_is_front : fd_is_front.code = .ref c_is_front
  TB_is_front : GxR.TabB base mg c_is_front P_is_front
  T_is_front : P_is_front ∈ Tabs.t
  fd_law : FuncData
  F_law : FunD K "law" "law" (defArgs s_law) (defBody s_law) (defScope s_law) [] [] (He.ga K "law") fd_law
  g_law : mg "law" = some (.ref (He.ga K "law"))
  b_law : Binds K fd_law ["script"] []
  u_MOST_NUMBER : Value
  g_MOST_NUMBER : mg "MOST_NUMBER" = some u_MOST_NUMBER
  r_MOST_NUMBER : RelV (.int 1000000000) u_MOST_NUMBER
  u_MOST_PAIRS : Value
  g_MOST_PAIRS : mg "MOST_PAIRS" = some u_MOST_PAIRS
  r_MOST_PAIRS : RelV (.int 4000) u_MOST_PAIRS
  u_MOST_PRICE : Value
  g_MOST_PRICE : mg "MOST_PRICE" = some u_MOST_PRICE
  r_MOST_PRICE : RelV (.int 1000000) u_MOST_PRICE
  n_abs : mg "abs" = none
  n_all : mg "all" = none
  n_bool : mg "bool" = none
  n_int : mg "int" = none
  n_isinstance : mg "isinstance" = none
  n_len : mg "len" = none
  n_list : mg "list" = none
  n_max : mg "max" = none
  n_range : mg "range" = none
  n_reversed : mg "reversed" = none
  n_sorted : mg "sorted" = none
  n_str : mg "str" = none
  n_sum : mg "sum" = none
  n_tuple : mg "tuple" = none
  n_zip : mg "zip" = none
section
variable {P : Program} {w : World} {K : PySem.W.Frag} {mg : Str → Option Value} {base : Heap}
/-! _law_draws -/
set_option maxHeartbeats 0 in
theorem bm__law_draws (T : Facts K mg base) {A : Around} {outer : List PySem.Env} {s : Shared} {H : Hp} {E : XK} (hr : Room 1 (A.deeper (envOfC "_law_draws" (defScope s__law_draws) s.heap.objs.size (He.ga K "_law_draws") T.fd__law_draws.code))) :
  BM (cxOf (L2.CX P w) P w K mg base ["script", "draws", "cell", "number", "first", "k", "seed"] "_law_draws" (defScope s__law_draws) (He.ga K "_law_draws") T.fd__law_draws.code A outer s H E) (fun c d _ H => E c d H) (defBody s__law_draws) b__law_draws :=
  (bm_cons (sm_set sc__law_draws.nd rfl (by first | exact .inl rfl | exact .inr rfl) (em_loc (nm_lst am_nil)))
  (bm_cons (sm_for owns_cx rfl (im_any (em_var (pv 0))) (gm_name sc__law_draws.nd rfl (by first | exact .inl rfl | exact .inr rfl))
 (bm_cons (sm_set sc__law_draws.nd rfl (by first | exact .inl rfl | exact .inr rfl) (em_callB cd_abs (by rfl) T.n_abs (by rfl) (am_cons (em_var (pv 2)) am_nil)))
  (bm_cons (sm_if (tm_cmp opd_lt (em_var (pv 3)) (em_bin opd_pow em_int em_int) (nomark _)) (bm_cons (sm_set sc__law_draws.nd rfl (by first | exact .inl rfl | exact .inr rfl) (em_bin opd_mod (em_callTy cd_int (by rfl) T.n_int (by rfl) (am_cons (em_bin opd_add (em_bin opd_mul (em_var (pv 3)) em_int) em_int) am_nil)) em_int))
  (bm_cons (sm_expr (em_bm PySem.F.plainAttrs_list PySem.F.slot_list_append PySem.F.type_list_append md_append (em_var (pv 1)) (am_cons (em_bin opd_mod (em_callTy cd_int (by rfl) T.n_int (by rfl) (am_cons (em_bin opd_add (em_bin opd_mul (em_var (pv 4)) em_int) (em_var (pv 3))) am_nil)) em_int) am_nil)))
  (bm_cons (sm_expr (em_bm PySem.F.plainAttrs_list PySem.F.slot_list_append PySem.F.type_list_append md_append (em_var (pv 1)) (am_cons (em_bin opd_mod (em_callTy cd_int (by rfl) T.n_int (by rfl) (am_cons (em_bin opd_add (em_var (pv 4)) (em_bin opd_fdiv (em_var (pv 3)) em_int)) am_nil)) em_int) am_nil)))
  (bm_one (sm_set sc__law_draws.nd rfl (by first | exact .inl rfl | exact .inr rfl) em_int))))) bm_nil)
  (bm_one (sm_for owns_cx rfl (im_range1 (by rfl) T.n_range (am_cons em_int am_nil)) (gm_name sc__law_draws.nd rfl (by first | exact .inl rfl | exact .inr rfl))
 (bm_one (sm_if (tm_cmp opd_gt (em_var (pv 3)) em_int (nomark _)) (bm_cons (sm_expr (em_bm PySem.F.plainAttrs_list PySem.F.slot_list_append PySem.F.type_list_append md_append (em_var (pv 1)) (am_cons (em_bin opd_mod (em_callTy cd_int (by rfl) T.n_int (by rfl) (am_cons (em_var (pv 3)) am_nil)) em_int) am_nil)))
  (bm_one (sm_set sc__law_draws.nd rfl (by first | exact .inl rfl | exact .inr rfl) (em_bin opd_fdiv (em_var (pv 3)) em_int)))) bm_nil)))))))
  (bm_cons (sm_set sc__law_draws.nd rfl (by first | exact .inl rfl | exact .inr rfl) em_int)
  (bm_cons (sm_if (tm_cmp opd_gt (em_callB cd_len (by rfl) T.n_len (by rfl) (am_cons (em_var (pv 0)) am_nil)) em_int (nomark _)) (bm_one (sm_set sc__law_draws.nd rfl (by first | exact .inl rfl | exact .inr rfl) (em_bin opd_add em_int (em_callB cd_abs (by rfl) T.n_abs (by rfl) (am_cons (em_ix (em_var (pv 0)) em_int fun _ _ => rfl) am_nil))))) bm_nil)
  (bm_cons (sm_for owns_cx rfl (im_range1 (by rfl) T.n_range (am_cons em_int am_nil)) (gm_name sc__law_draws.nd rfl (by first | exact .inl rfl | exact .inr rfl))
 (bm_cons (sm_set sc__law_draws.nd rfl (by first | exact .inl rfl | exact .inr rfl) (em_bin opd_mod (em_callTy cd_int (by rfl) T.n_int (by rfl) (am_cons (em_bin opd_add (em_bin opd_mul (em_var (pv 6)) em_int) em_int) am_nil)) em_int))
  (bm_one (sm_expr (em_bm PySem.F.plainAttrs_list PySem.F.slot_list_append PySem.F.type_list_append md_append (em_var (pv 1)) (am_cons (em_bin opd_fdiv (em_var (pv 6)) em_int) am_nil))))))
  (bm_one (sm_ret (em_loc (nm_listRev (by rfl) T.n_list (by rfl) T.n_reversed rfl (em_var (pv 1)))))))))))
theorem fn__law_draws (T : Facts K mg base) : FnM P w K mg base 2 (He.ga K "_law_draws") T.fd__law_draws ["script"] m__law_draws := fn_retK (fn_mD T.F__law_draws sc__law_draws fun A outer s H E hr => bm__law_draws T hr)
/-! _law_take -/
set_option maxHeartbeats 0 in
theorem bm__law_take (T : Facts K mg base) {A : Around} {outer : List PySem.Env} {s : Shared} {H : Hp} {E : XK} (hr : Room 1 (A.deeper (envOfC "_law_take" (defScope s__law_take) s.heap.objs.size (He.ga K "_law_take") T.fd__law_take.code))) :
  BM (cxOf (L2.CX P w) P w K mg base ["draws", "bound"] "_law_take" (defScope s__law_take) (He.ga K "_law_take") T.fd__law_take.code A outer s H E) (fun c d _ H => E c d H) (defBody s__law_take) b__law_take :=
  (bm_cons (sm_if (tm_cmp (opd_eq (hr).units) (em_callB cd_len (by rfl) T.n_len (by rfl) (am_cons (em_var (pv 0)) am_nil)) em_int (nomark _)) (bm_one (sm_ret em_int)) bm_nil)
  (bm_one (sm_ret (em_bin opd_mod (em_callTy cd_int (by rfl) T.n_int (by rfl) (am_cons (em_bm0 PySem.F.plainAttrs_list PySem.F.slot_list_pop PySem.F.type_list_pop md_pop (em_var (pv 0))) am_nil)) (em_var (pv 1))))))
theorem fn__law_take (T : Facts K mg base) : FnM P w K mg base 2 (He.ga K "_law_take") T.fd__law_take ["draws", "bound"] m__law_take := fn_retV (fn_mD T.F__law_take sc__law_take fun A outer s H E hr => bm__law_take T hr)
/-! _law_front -/
noncomputable def b__law_front_1 : MS := (sExpr (mMeth "list" gAppend (mVar 1) (mCons (mTup (mCons (mVar 2) (mCons (mVar 3) mNil))) mNil)))
noncomputable def l__law_front_2 : MS := (sIf (mOr (mB (mBin dEq (mVar 1) (asV (mLst mNil)))) (mB (mBin dLt (mVar 3) (mBin dIx (mBin dIx (mVar 1) (mUn dNeg (mC (.int 1)))) (mC (.int 1)))))) b__law_front_1 sSkip)
noncomputable def b__law_front : MS := (sSeq (sSet (gN 1) (asL (mLst mNil))) (sSeq (sFor (mSrc (asV (mCallN nSorted (mCons (mVar 0) mNil)))) (gTup 2 (gCons (gN 2) (gCons (gN 3) gNil))) l__law_front_2) (sRet (mCall dTuple (mCons (mVar 1) mNil)))))
noncomputable def m__law_front : List D → Store → Res D := retV (runF 4 b__law_front)
set_option maxHeartbeats 0 in
theorem bm__law_front (T : Facts K mg base) {A : Around} {outer : List PySem.Env} {s : Shared} {H : Hp} {E : XK} (hr : Room 1 (A.deeper (envOfC "_law_front" (defScope s__law_front) s.heap.objs.size (He.ga K "_law_front") T.fd__law_front.code))) :
  BM (cxOf (L2.CX P w) P w K mg base ["rows", "found", "bits", "lost"] "_law_front" (defScope s__law_front) (He.ga K "_law_front") T.fd__law_front.code A outer s H E) (fun c d _ H => E c d H) (defBody s__law_front) b__law_front :=
  (bm_cons (sm_set sc__law_front.nd rfl (by first | exact .inl rfl | exact .inr rfl) (em_loc (nm_lst am_nil)))
  (bm_cons (sm_for owns_cx rfl (im_any (em_val (nm_callB cn_sorted (by rfl) T.n_sorted (by rfl) (am_cons (em_var (pv 0)) am_nil)))) (gm_tup rfl (gms_cons (gm_name sc__law_front.nd rfl (by first | exact .inl rfl | exact .inr rfl)) (gms_cons (gm_name sc__law_front.nd rfl (by first | exact .inl rfl | exact .inr rfl)) gms_nil)))
 (bm_one (sm_if (tm_w (wm_or (tm_cmp (opd_eq (hr).units) (em_var (pv 1)) (em_val (nm_lst am_nil)) (nomark _)) (wm_or1 (tm_cmp opd_lt (em_var (pv 3)) (em_ix (em_ix (em_var (pv 1)) (em_neg em_int) fun _ _ => rfl) em_int fun _ _ => rfl) (nomark _))))) (bm_one (sm_expr (em_bm PySem.F.plainAttrs_list PySem.F.slot_list_append PySem.F.type_list_append md_append (em_var (pv 1)) (am_cons (em_tup (am_cons (em_var (pv 2)) (am_cons (em_var (pv 3)) am_nil))) am_nil)))) bm_nil)))
  (bm_one (sm_ret (em_callTy cd_tuple (by rfl) T.n_tuple (by rfl) (am_cons (em_var (pv 1)) am_nil))))))
theorem fn__law_front (T : Facts K mg base) : FnM P w K mg base 2 (He.ga K "_law_front") T.fd__law_front ["rows"] m__law_front := fn_retV (fn_mD T.F__law_front sc__law_front fun A outer s H E hr => bm__law_front T hr)
/-! _law_drawn_front -/
noncomputable def l__law_drawn_front_1 : MS := (sExpr (mMeth "list" gAppend (mVar 1) (mCons (mTup (mCons (mCallF 2 m__law_take (mCons (mVar 0) (mCons (mC (.int 40)) mNil))) (mCons (mCallF 2 m__law_take (mCons (mVar 0) (mCons (mBin dIx (asV (mLst (mCons (mC (.int 9)) (mCons (mC (.int 200)) mNil)))) (mCallF 2 m__law_take (mCons (mVar 0) (mCons (mC (.int 2)) mNil)))) mNil))) mNil))) mNil)))
noncomputable def b__law_drawn_front : MS := (sSeq (sSet (gN 1) (asL (mLst mNil))) (sSeq (sFor (mSrcA srcR1 (mCons (mBin dAdd (mC (.int 1)) (mCallF 2 m__law_take (mCons (mVar 0) (mCons (mC (.int 7)) mNil)))) mNil)) (gN 2) l__law_drawn_front_1) (sRet (mCallF 1 m__law_front (mCons (mVar 1) mNil)))))
noncomputable def m__law_drawn_front : List D → Store → Res D := retV (runF 3 b__law_drawn_front)
set_option maxHeartbeats 0 in
theorem bm__law_drawn_front (T : Facts K mg base) {A : Around} {outer : List PySem.Env} {s : Shared} {H : Hp} {E : XK} (hr : Room 2 (A.deeper (envOfC "_law_drawn_front" (defScope s__law_drawn_front) s.heap.objs.size (He.ga K "_law_drawn_front") T.fd__law_drawn_front.code))) :
  BM (cxOf (L2.CX P w) P w K mg base ["draws", "rows", "k"] "_law_drawn_front" (defScope s__law_drawn_front) (He.ga K "_law_drawn_front") T.fd__law_drawn_front.code A outer s H E) (fun c d _ H => E c d H) (defBody s__law_drawn_front) b__law_drawn_front :=
  (bm_cons (sm_set sc__law_drawn_front.nd rfl (by first | exact .inl rfl | exact .inr rfl) (em_loc (nm_lst am_nil)))
  (bm_cons (sm_for owns_cx rfl (im_range1 (by rfl) T.n_range (am_cons (em_bin opd_add em_int (em_call (fn__law_take T) ((hr).mono (by decide)) (by rfl) T.g__law_take T.F__law_take.kp T.b__law_take takes_cx (am_cons (em_var (pv 0)) (am_cons em_int am_nil)))) am_nil)) (gm_name sc__law_drawn_front.nd rfl (by first | exact .inl rfl | exact .inr rfl))
 (bm_one (sm_expr (em_bm PySem.F.plainAttrs_list PySem.F.slot_list_append PySem.F.type_list_append md_append (em_var (pv 1)) (am_cons (em_tup (am_cons (em_call (fn__law_take T) ((hr).mono (by decide)) (by rfl) T.g__law_take T.F__law_take.kp T.b__law_take takes_cx (am_cons (em_var (pv 0)) (am_cons em_int am_nil))) (am_cons (em_call (fn__law_take T) ((hr).mono (by decide)) (by rfl) T.g__law_take T.F__law_take.kp T.b__law_take takes_cx (am_cons (em_var (pv 0)) (am_cons (em_ix (em_val (nm_lst (am_cons em_int (am_cons em_int am_nil)))) (em_call (fn__law_take T) ((hr).mono (by decide)) (by rfl) T.g__law_take T.F__law_take.kp T.b__law_take takes_cx (am_cons (em_var (pv 0)) (am_cons em_int am_nil))) fun _ _ => rfl) am_nil))) am_nil))) am_nil)))))
  (bm_one (sm_ret (em_call (fn__law_front T) ((hr).mono (by decide)) (by rfl) T.g__law_front T.F__law_front.kp T.b__law_front takes_cx (am_cons (em_var (pv 1)) am_nil))))))
theorem fn__law_drawn_front (T : Facts K mg base) : FnM P w K mg base 3 (He.ga K "_law_drawn_front") T.fd__law_drawn_front ["draws"] m__law_drawn_front := fn_retV (fn_mD T.F__law_drawn_front sc__law_drawn_front fun A outer s H E hr => bm__law_drawn_front T hr)
/-! front_of -/
set_option maxHeartbeats 0 in
theorem bm_front_of (T : Facts K mg base) {A : Around} {outer : List PySem.Env} {s : Shared} {H : Hp} {E : XK} (hr : Room 1 (A.deeper (envOfC "front_of" (defScope s_front_of) s.heap.objs.size (He.ga K "front_of") T.fd_front_of.code))) :
  BM (cxOf (L2.CX P w) P w K mg base ["rows", "found", "bits", "loss"] "front_of" (defScope s_front_of) (He.ga K "front_of") T.fd_front_of.code A outer s H E) (fun c d _ H => E c d H) (defBody s_front_of) b_front_of :=
  (bm_cons (sm_set sc_front_of.nd rfl (by first | exact .inl rfl | exact .inr rfl) (em_loc (nm_lst am_nil)))
  (bm_cons (sm_for owns_cx rfl (im_any (em_val (nm_callB cn_sorted (by rfl) T.n_sorted (by rfl) (am_cons (em_var (pv 0)) am_nil)))) (gm_tup rfl (gms_cons (gm_name sc_front_of.nd rfl (by first | exact .inl rfl | exact .inr rfl)) (gms_cons (gm_name sc_front_of.nd rfl (by first | exact .inl rfl | exact .inr rfl)) gms_nil)))
 (bm_one (sm_if (tm_w (wm_or (tm_cmp (opd_eq (hr).units) (em_callB cd_len (by rfl) T.n_len (by rfl) (am_cons (em_var (pv 1)) am_nil)) em_int (nomark _)) (wm_or1 (tm_cmp opd_lt (em_var (pv 3)) (em_ix (em_ix (em_var (pv 1)) (em_neg em_int) fun _ _ => rfl) em_int fun _ _ => rfl) (nomark _))))) (bm_one (sm_expr (em_bm PySem.F.plainAttrs_list PySem.F.slot_list_append PySem.F.type_list_append md_append (em_var (pv 1)) (am_cons (em_tup (am_cons (em_var (pv 2)) (am_cons (em_var (pv 3)) am_nil))) am_nil)))) bm_nil)))
  (bm_cons (sm_if (tm_cmp opd_gt (em_callB cd_len (by rfl) T.n_len (by rfl) (am_cons (em_var (pv 1)) am_nil)) (em_glob (by rfl) T.g_MOST_PAIRS T.r_MOST_PAIRS fun _ _ => .int _) (nomark _)) (bm_one sm_never) bm_nil)
  (bm_one (sm_ret (em_callTy cd_tuple (by rfl) T.n_tuple (by rfl) (am_cons (em_var (pv 1)) am_nil)))))))
theorem fn_front_of (T : Facts K mg base) : FnM P w K mg base 2 (He.ga K "front_of") T.fd_front_of ["rows"] m_front_of := fn_retV (fn_mD T.F_front_of sc_front_of fun A outer s H E hr => bm_front_of T hr)
/-! put_together -/
set_option maxHeartbeats 0 in
theorem bm_put_together (T : Facts K mg base) {A : Around} {outer : List PySem.Env} {s : Shared} {H : Hp} {E : XK} (hr : Room 2 (A.deeper (envOfC "put_together" (defScope s_put_together) s.heap.objs.size (He.ga K "put_together") T.fd_put_together.code))) :
  BM (cxOf (L2.CX P w) P w K mg base ["one", "other", "rows", "bits", "loss", "more", "worse"] "put_together" (defScope s_put_together) (He.ga K "put_together") T.fd_put_together.code A outer s H E) (fun c d _ H => E c d H) (defBody s_put_together) b_put_together :=
  (bm_cons (sm_set sc_put_together.nd rfl (by first | exact .inl rfl | exact .inr rfl) (em_loc (nm_lst am_nil)))
  (bm_cons (sm_for owns_cx rfl (im_any (em_var (pv 0))) (gm_tup rfl (gms_cons (gm_name sc_put_together.nd rfl (by first | exact .inl rfl | exact .inr rfl)) (gms_cons (gm_name sc_put_together.nd rfl (by first | exact .inl rfl | exact .inr rfl)) gms_nil)))
 (bm_one (sm_expr (em_bm PySem.F.plainAttrs_list PySem.F.slot_list_extend PySem.F.type_list_extend md_extend (em_var (pv 2)) (am_cons (em_val (nm_lc [("more", 5), ("worse", 6)] rfl sc_put_together.nd (im_any (em_var (pv 1))) (blkOk_by (by kernel_rfl)) (by decide) (fun _ _ _ _ _ => (gm_tup rfl (gms_cons (gm_name sc_put_together.nd rfl (by first | exact .inl rfl | exact .inr rfl)) (gms_cons (gm_name sc_put_together.nd rfl (by first | exact .inl rfl | exact .inr rfl)) gms_nil)))) (fun _ _ _ _ _ => ptsm_nil) (fun _ _ _ _ _ => (em_tup (am_cons (em_bin opd_add (em_var (pv 3)) (em_var (pv 5))) (am_cons (em_bin opd_add (em_var (pv 4)) (em_var (pv 6))) am_nil)))))) am_nil)))))
  (bm_one (sm_ret (em_call (fn_front_of T) ((hr).mono (by decide)) (by rfl) T.g_front_of T.F_front_of.kp T.b_front_of takes_cx (am_cons (em_var (pv 2)) am_nil))))))
theorem fn_put_together (T : Facts K mg base) : FnM P w K mg base 3 (He.ga K "put_together") T.fd_put_together ["one", "other"] m_put_together := fn_retV (fn_mD T.F_put_together sc_put_together fun A outer s H E hr => bm_put_together T hr)
/-! _law_alike -/
set_option maxHeartbeats 0 in
theorem bm__law_alike (T : Facts K mg base) {g : List D → Store → Res D} {k : Nat} (G : FnM P w K mg base k (He.ga K "_law_alike") T.fd__law_alike ["found", "due"] g) {A : Around} {outer : List PySem.Env} {s : Shared} {H : Hp} {E : XK} (hk : 1 ≤ k) (hr : Room k (A.deeper (envOfC "_law_alike" (defScope s__law_alike) s.heap.objs.size (He.ga K "_law_alike") T.fd__law_alike.code))) :
  BM (cxOf (L2.CX P w) P w K mg base ["found", "due", "k"] "_law_alike" (defScope s__law_alike) (He.ga K "_law_alike") T.fd__law_alike.code A outer s H E) (fun c d _ H => E c d H) (defBody s__law_alike) (b__law_alike g) :=
  (bm_cons (sm_if (tm_w (wm_or (tm_tru (em_callB cd_isinst (by rfl) T.n_isinstance (by rfl) (am_cons (em_var (pv 1)) (am_cons (em_ty (by rfl) T.n_list (by rfl)) am_nil))) fun _ => rfl) (wm_or1 (tm_tru (em_callB cd_isinst (by rfl) T.n_isinstance (by rfl) (am_cons (em_var (pv 1)) (am_cons (em_ty (by rfl) T.n_tuple (by rfl)) am_nil))) fun _ => rfl)))) (bm_cons (sm_if (tm_w (wm_or (tm_cmp (opd_ne (hr).units) (em_callB cd_isinst (by rfl) T.n_isinstance (by rfl) (am_cons (em_var (pv 0)) (am_cons (em_ty (by rfl) T.n_list (by rfl)) am_nil))) (em_callB cd_isinst (by rfl) T.n_isinstance (by rfl) (am_cons (em_var (pv 1)) (am_cons (em_ty (by rfl) T.n_list (by rfl)) am_nil))) (nomark _)) (wm_or1 (tm_cmp (opd_ne (hr).units) (em_callB cd_isinst (by rfl) T.n_isinstance (by rfl) (am_cons (em_var (pv 0)) (am_cons (em_ty (by rfl) T.n_tuple (by rfl)) am_nil))) (em_callB cd_isinst (by rfl) T.n_isinstance (by rfl) (am_cons (em_var (pv 1)) (am_cons (em_ty (by rfl) T.n_tuple (by rfl)) am_nil))) (nomark _))))) (bm_one (sm_ret em_bl)) bm_nil)
  (bm_one (sm_ret (em_and (em_cmp (opd_eq (hr).units) (em_callB cd_len (by rfl) T.n_len (by rfl) (am_cons (em_var (pv 0)) am_nil)) (em_callB cd_len (by rfl) T.n_len (by rfl) (am_cons (em_var (pv 1)) am_nil)) (nomark _)) (em_one (em_cmp (opd_eq (hr).units) (em_val (nm_lc [("k", 2)] rfl sc__law_alike.nd (im_range1 (by rfl) T.n_range (am_cons (em_callB cd_len (by rfl) T.n_len (by rfl) (am_cons (em_var (pv 1)) am_nil)) am_nil)) (blkOk_by (by kernel_rfl)) (by decide) (fun _ _ _ _ _ => (gm_name sc__law_alike.nd rfl (by first | exact .inl rfl | exact .inr rfl))) (fun _ _ _ _ _ => (ptsm_one (tm_not (tm_tru (em_call G ((hr).mono (by first | exact Nat.le_refl _ | exact Nat.le_trans (by decide) hk)) (by rfl) T.g__law_alike T.F__law_alike.kp T.b__law_alike tk0 (am_cons (em_ix (em_var (pv 0)) (em_var (pv 2)) fun _ _ => rfl) (am_cons (em_ix (em_var (pv 1)) (em_var (pv 2)) fun _ _ => rfl) am_nil))) fun _ => rfl)))) (fun _ _ _ _ _ => (em_var (pv 2))))) (em_val (nm_lst am_nil)) (nomark _))))))) bm_nil)
  (bm_cons (sm_if (tm_cmp opd_is (em_var (pv 1)) em_non (nomark _)) (bm_one (sm_ret (em_cmp opd_is (em_var (pv 0)) em_non (nomark _)))) bm_nil)
  (bm_cons (sm_if (tm_w (wm_or (tm_tru (em_callB cd_isinst (by rfl) T.n_isinstance (by rfl) (am_cons (em_var (pv 1)) (am_cons (em_ty (by rfl) T.n_bool (by rfl)) am_nil))) fun _ => rfl) (wm_or1 (tm_tru (em_callB cd_isinst (by rfl) T.n_isinstance (by rfl) (am_cons (em_var (pv 0)) (am_cons (em_ty (by rfl) T.n_bool (by rfl)) am_nil))) fun _ => rfl)))) (bm_one (sm_ret (em_and (em_callB cd_isinst (by rfl) T.n_isinstance (by rfl) (am_cons (em_var (pv 0)) (am_cons (em_ty (by rfl) T.n_bool (by rfl)) am_nil))) (em_and (em_callB cd_isinst (by rfl) T.n_isinstance (by rfl) (am_cons (em_var (pv 1)) (am_cons (em_ty (by rfl) T.n_bool (by rfl)) am_nil))) (em_one (em_cmp (opd_eq (hr).units) (em_var (pv 0)) (em_var (pv 1)) (nomark _))))))) bm_nil)
  (bm_cons (sm_if (tm_tru (em_callB cd_isinst (by rfl) T.n_isinstance (by rfl) (am_cons (em_var (pv 1)) (am_cons (em_ty (by rfl) T.n_int (by rfl)) am_nil))) fun _ => rfl) (bm_one (sm_ret (em_and (em_callB cd_isinst (by rfl) T.n_isinstance (by rfl) (am_cons (em_var (pv 0)) (am_cons (em_ty (by rfl) T.n_int (by rfl)) am_nil))) (em_one (em_cmp (opd_eq (hr).units) (em_var (pv 0)) (em_var (pv 1)) (nomark _)))))) bm_nil)
  (bm_one (sm_ret (em_and (em_callB cd_isinst (by rfl) T.n_isinstance (by rfl) (am_cons (em_var (pv 0)) (am_cons (em_ty (by rfl) T.n_str (by rfl)) am_nil))) (em_one (em_cmp (opd_eq (hr).units) (em_var (pv 0)) (em_var (pv 1)) (nomark _))))))))))
theorem fr__law_alike (T : Facts K mg base) : ∀ n, FnM P w K mg base (1 + n) (He.ga K "_law_alike") T.fd__law_alike ["found", "due"] (r__law_alike n)
  | 0 => fn_bad (n := 2) _
  | n + 1 => fn_retV (fn_mD (k := 1 + n) T.F__law_alike sc__law_alike fun A outer s H E hr => bm__law_alike T (fr__law_alike T n) (Nat.le_add_right _ _) hr)
theorem fn__law_alike (T : Facts K mg base) : FnM P w K mg base 10 (He.ga K "_law_alike") T.fd__law_alike ["found", "due"] m__law_alike := FnOk.mono (fr__law_alike T 8) (by decide)
/-! all_together -/
set_option maxHeartbeats 0 in
theorem bm_all_together (T : Facts K mg base) {A : Around} {outer : List PySem.Env} {s : Shared} {H : Hp} {E : XK} (hr : Room 3 (A.deeper (envOfC "all_together" (defScope s_all_together) s.heap.objs.size (He.ga K "all_together") T.fd_all_together.code))) :
  BM (cxOf (L2.CX P w) P w K mg base ["rows", "found", "front"] "all_together" (defScope s_all_together) (He.ga K "all_together") T.fd_all_together.code A outer s H E) (fun c d _ H => E c d H) (defBody s_all_together) b_all_together :=
  (bm_cons (sm_set sc_all_together.nd rfl (by first | exact .inl rfl | exact .inr rfl) (em_tup (am_cons (em_tup (am_cons em_int (am_cons em_int am_nil))) am_nil)))
  (bm_cons (sm_for owns_cx rfl (im_any (em_var (pv 0))) (gm_name sc_all_together.nd rfl (by first | exact .inl rfl | exact .inr rfl))
 (bm_one (sm_set sc_all_together.nd rfl (by first | exact .inl rfl | exact .inr rfl) (em_call (fn_put_together T) ((hr).mono (by decide)) (by rfl) T.g_put_together T.F_put_together.kp T.b_put_together takes_cx (am_cons (em_var (pv 1)) (am_cons (em_var (pv 2)) am_nil))))))
  (bm_one (sm_ret (em_var (pv 1))))))
theorem fn_all_together (T : Facts K mg base) : FnM P w K mg base 4 (He.ga K "all_together") T.fd_all_together ["rows"] m_all_together := fn_retV (fn_mD T.F_all_together sc_all_together fun A outer s H E hr => bm_all_together T hr)
/-! either -/
set_option maxHeartbeats 0 in
theorem bm_either (T : Facts K mg base) {A : Around} {outer : List PySem.Env} {s : Shared} {H : Hp} {E : XK} (hr : Room 2 (A.deeper (envOfC "either" (defScope s_either) s.heap.objs.size (He.ga K "either") T.fd_either.code))) :
  BM (cxOf (L2.CX P w) P w K mg base ["one", "other"] "either" (defScope s_either) (He.ga K "either") T.fd_either.code A outer s H E) (fun c d _ H => E c d H) (defBody s_either) b_either :=
  (bm_one (sm_ret (em_call (fn_front_of T) ((hr).mono (by decide)) (by rfl) T.g_front_of T.F_front_of.kp T.b_front_of takes_cx (am_cons (em_val (nm_lst (am_star (em_var (pv 0)) (am_star (em_var (pv 1)) am_nil)))) am_nil))))
theorem fn_either (T : Facts K mg base) : FnM P w K mg base 3 (He.ga K "either") T.fd_either ["one", "other"] m_either := fn_retV (fn_mD T.F_either sc_either fun A outer s H E hr => bm_either T hr)
/-! is_below -/
set_option maxHeartbeats 0 in
theorem bm_is_below (T : Facts K mg base) {A : Around} {outer : List PySem.Env} {s : Shared} {H : Hp} {E : XK} (hr : Room 1 (A.deeper (envOfC "is_below" (defScope s_is_below) s.heap.objs.size (He.ga K "is_below") T.fd_is_below.code))) :
  BM (cxOf (L2.CX P w) P w K mg base ["one", "middle", "other"] "is_below" (defScope s_is_below) (He.ga K "is_below") T.fd_is_below.code A outer s H E) (fun c d _ H => E c d H) (defBody s_is_below) b_is_below :=
  (bm_one (sm_ret (em_cmp opd_gt (em_bin opd_mul (em_bin opd_sub (em_ix (em_var (pv 0)) em_int fun _ _ => rfl) (em_ix (em_var (pv 1)) em_int fun _ _ => rfl)) (em_bin opd_sub (em_ix (em_var (pv 2)) em_int fun _ _ => rfl) (em_ix (em_var (pv 0)) em_int fun _ _ => rfl))) (em_bin opd_mul (em_bin opd_sub (em_ix (em_var (pv 0)) em_int fun _ _ => rfl) (em_ix (em_var (pv 2)) em_int fun _ _ => rfl)) (em_bin opd_sub (em_ix (em_var (pv 1)) em_int fun _ _ => rfl) (em_ix (em_var (pv 0)) em_int fun _ _ => rfl))) (nomark _))))
theorem fn_is_below (T : Facts K mg base) : FnM P w K mg base 2 (He.ga K "is_below") T.fd_is_below ["one", "middle", "other"] m_is_below := fn_retV (fn_mD T.F_is_below sc_is_below fun A outer s H E hr => bm_is_below T hr)
/-! hull -/
set_option maxHeartbeats 0 in
theorem bm_hull (T : Facts K mg base) {A : Around} {outer : List PySem.Env} {s : Shared} {H : Hp} {E : XK} (hr : Room 2 (A.deeper (envOfC "hull" (defScope s_hull) s.heap.objs.size (He.ga K "hull") T.fd_hull.code))) :
  BM (cxOf (L2.CX P w) P w K mg base ["front", "found", "pair"] "hull" (defScope s_hull) (He.ga K "hull") T.fd_hull.code A outer s H E) (fun c d _ H => E c d H) (defBody s_hull) b_hull :=
  (bm_cons (sm_set sc_hull.nd rfl (by first | exact .inl rfl | exact .inr rfl) (em_loc (nm_lst am_nil)))
  (bm_cons (sm_for owns_cx rfl (im_any (em_var (pv 0))) (gm_name sc_hull.nd rfl (by first | exact .inl rfl | exact .inr rfl))
 (bm_cons (sm_while (2^40) owns_cx (tm_w (wm_and (tm_cmp opd_gt (em_callB cd_len (by rfl) T.n_len (by rfl) (am_cons (em_var (pv 1)) am_nil)) em_int (nomark _)) (wm_and1 (tm_not (tm_tru (em_call (fn_is_below T) ((hr).mono (by decide)) (by rfl) T.g_is_below T.F_is_below.kp T.b_is_below takes_cx (am_cons (em_ix (em_var (pv 1)) (em_neg em_int) fun _ _ => rfl) (am_cons (em_ix (em_var (pv 1)) (em_neg em_int) fun _ _ => rfl) (am_cons (em_var (pv 2)) am_nil)))) fun _ => rfl))))) (bm_one (sm_expr (em_bm0 PySem.F.plainAttrs_list PySem.F.slot_list_pop PySem.F.type_list_pop md_pop (em_var (pv 1))))))
  (bm_one (sm_expr (em_bm PySem.F.plainAttrs_list PySem.F.slot_list_append PySem.F.type_list_append md_append (em_var (pv 1)) (am_cons (em_var (pv 2)) am_nil))))))
  (bm_one (sm_ret (em_callTy cd_tuple (by rfl) T.n_tuple (by rfl) (am_cons (em_var (pv 1)) am_nil))))))
theorem fn_hull (T : Facts K mg base) : FnM P w K mg base 3 (He.ga K "hull") T.fd_hull ["front"] m_hull := fn_retV (fn_mD T.F_hull sc_hull fun A outer s H E hr => bm_hull T hr)
/-! in_order -/
set_option maxHeartbeats 0 in
theorem bm_in_order (T : Facts K mg base) {A : Around} {outer : List PySem.Env} {s : Shared} {H : Hp} {E : XK} (hr : Room 1 (A.deeper (envOfC "in_order" (defScope s_in_order) s.heap.objs.size (He.ga K "in_order") T.fd_in_order.code))) :
  BM (cxOf (L2.CX P w) P w K mg base ["steps", "found", "step", "place"] "in_order" (defScope s_in_order) (He.ga K "in_order") T.fd_in_order.code A outer s H E) (fun c d _ H => E c d H) (defBody s_in_order) b_in_order :=
  (bm_cons (sm_set sc_in_order.nd rfl (by first | exact .inl rfl | exact .inr rfl) (em_loc (nm_lst am_nil)))
  (bm_cons (sm_for owns_cx rfl (im_any (em_var (pv 0))) (gm_name sc_in_order.nd rfl (by first | exact .inl rfl | exact .inr rfl))
 (bm_cons (sm_set sc_in_order.nd rfl (by first | exact .inl rfl | exact .inr rfl) (em_callB cd_len (by rfl) T.n_len (by rfl) (am_cons (em_var (pv 1)) am_nil)))
  (bm_cons (sm_while (2^40) owns_cx (tm_w (wm_and (tm_cmp opd_gt (em_var (pv 3)) em_int (nomark _)) (wm_and1 (tm_cmp opd_lt (em_bin opd_mul (em_ix (em_ix (em_var (pv 1)) (em_bin opd_sub (em_var (pv 3)) em_int) fun _ _ => rfl) em_int fun _ _ => rfl) (em_ix (em_var (pv 2)) em_int fun _ _ => rfl)) (em_bin opd_mul (em_ix (em_var (pv 2)) em_int fun _ _ => rfl) (em_ix (em_ix (em_var (pv 1)) (em_bin opd_sub (em_var (pv 3)) em_int) fun _ _ => rfl) em_int fun _ _ => rfl)) (nomark _))))) (bm_one (sm_set sc_in_order.nd rfl (by first | exact .inl rfl | exact .inr rfl) (em_bin opd_sub (em_var (pv 3)) em_int))))
  (bm_one (sm_expr (em_bm PySem.F.plainAttrs_list PySem.F.slot_list_insert PySem.F.type_list_insert md_insert (em_var (pv 1)) (am_cons (em_var (pv 3)) (am_cons (em_var (pv 2)) am_nil))))))))
  (bm_one (sm_ret (em_var (pv 1))))))
theorem fn_in_order (T : Facts K mg base) : FnM P w K mg base 2 (He.ga K "in_order") T.fd_in_order ["steps"] m_in_order := fn_retV (fn_mD T.F_in_order sc_in_order fun A outer s H E hr => bm_in_order T hr)
/-! hull_together -/
set_option maxHeartbeats 0 in
theorem bm_hull_together (T : Facts K mg base) {A : Around} {outer : List PySem.Env} {s : Shared} {H : Hp} {E : XK} (hr : Room 3 (A.deeper (envOfC "hull_together" (defScope s_hull_together) s.heap.objs.size (He.ga K "hull_together") T.fd_hull_together.code))) :
  BM (cxOf (L2.CX P w) P w K mg base ["rows", "steps", "bits", "loss", "front", "corners", "one", "other", "found", "more", "gain"] "hull_together" (defScope s_hull_together) (He.ga K "hull_together") T.fd_hull_together.code A outer s H E) (fun c d _ H => E c d H) (defBody s_hull_together) b_hull_together :=
  (bm_cons (sm_par3 rfl sc_hull_together.nd rfl rfl rfl (by decide) (by decide) (by decide) rfl rfl rfl (am_cons (em_loc (nm_lst am_nil)) (am_cons em_int (am_cons em_int am_nil))) rfl)
  (bm_cons (sm_for owns_cx rfl (im_any (em_var (pv 0))) (gm_name sc_hull_together.nd rfl (by first | exact .inl rfl | exact .inr rfl))
 (bm_cons (sm_set sc_hull_together.nd rfl (by first | exact .inl rfl | exact .inr rfl) (em_call (fn_hull T) ((hr).mono (by decide)) (by rfl) T.g_hull T.F_hull.kp T.b_hull takes_cx (am_cons (em_var (pv 4)) am_nil)))
  (bm_cons (sm_par rfl sc_hull_together.nd rfl rfl (by decide) rfl rfl (am_cons (em_bin opd_add (em_var (pv 2)) (em_ix (em_ix (em_var (pv 5)) em_int fun _ _ => rfl) em_int fun _ _ => rfl)) (am_cons (em_bin opd_add (em_var (pv 3)) (em_ix (em_ix (em_var (pv 5)) em_int fun _ _ => rfl) em_int fun _ _ => rfl)) am_nil)) rfl)
  (bm_one (sm_for owns_cx rfl (im_zip (by rfl) T.n_zip (am_cons (em_var (pv 5)) (am_cons (em_slice (em_var (pv 5)) (om_some em_int) om_no) am_nil))) (gm_tup rfl (gms_cons (gm_name sc_hull_together.nd rfl (by first | exact .inl rfl | exact .inr rfl)) (gms_cons (gm_name sc_hull_together.nd rfl (by first | exact .inl rfl | exact .inr rfl)) gms_nil)))
 (bm_one (sm_expr (em_bm PySem.F.plainAttrs_list PySem.F.slot_list_append PySem.F.type_list_append md_append (em_var (pv 1)) (am_cons (em_tup (am_cons (em_bin opd_sub (em_ix (em_var (pv 7)) em_int fun _ _ => rfl) (em_ix (em_var (pv 6)) em_int fun _ _ => rfl)) (am_cons (em_bin opd_sub (em_ix (em_var (pv 6)) em_int fun _ _ => rfl) (em_ix (em_var (pv 7)) em_int fun _ _ => rfl)) am_nil))) am_nil)))))))))
  (bm_cons (sm_set sc_hull_together.nd rfl (by first | exact .inl rfl | exact .inr rfl) (em_loc (nm_lst (am_cons (em_tup (am_cons (em_var (pv 2)) (am_cons (em_var (pv 3)) am_nil))) am_nil))))
  (bm_cons (sm_for owns_cx rfl (im_any (em_call (fn_in_order T) ((hr).mono (by decide)) (by rfl) T.g_in_order T.F_in_order.kp T.b_in_order takes_cx (am_cons (em_var (pv 1)) am_nil))) (gm_tup rfl (gms_cons (gm_name sc_hull_together.nd rfl (by first | exact .inl rfl | exact .inr rfl)) (gms_cons (gm_name sc_hull_together.nd rfl (by first | exact .inl rfl | exact .inr rfl)) gms_nil)))
 (bm_one (sm_expr (em_bm PySem.F.plainAttrs_list PySem.F.slot_list_append PySem.F.type_list_append md_append (em_var (pv 8)) (am_cons (em_tup (am_cons (em_bin opd_add (em_ix (em_ix (em_var (pv 8)) (em_neg em_int) fun _ _ => rfl) em_int fun _ _ => rfl) (em_var (pv 9))) (am_cons (em_bin opd_sub (em_ix (em_ix (em_var (pv 8)) (em_neg em_int) fun _ _ => rfl) em_int fun _ _ => rfl) (em_var (pv 10))) am_nil))) am_nil)))))
  (bm_one (sm_ret (em_call (fn_hull T) ((hr).mono (by decide)) (by rfl) T.g_hull T.F_hull.kp T.b_hull takes_cx (am_cons (em_callTy cd_tuple (by rfl) T.n_tuple (by rfl) (am_cons (em_var (pv 8)) am_nil)) am_nil))))))))
theorem fn_hull_together (T : Facts K mg base) : FnM P w K mg base 4 (He.ga K "hull_together") T.fd_hull_together ["rows"] m_hull_together := fn_retV (fn_mD T.F_hull_together sc_hull_together fun A outer s H E hr => bm_hull_together T hr)
/-! is_number -/
set_option maxHeartbeats 0 in
theorem bm_is_number (T : Facts K mg base) {A : Around} {outer : List PySem.Env} {s : Shared} {H : Hp} {E : XK} (hr : Room 1 (A.deeper (envOfC "is_number" (defScope s_is_number) s.heap.objs.size (He.ga K "is_number") T.fd_is_number.code))) :
  BM (cxOf (L2.CX P w) P w K mg base ["value", "least", "most"] "is_number" (defScope s_is_number) (He.ga K "is_number") T.fd_is_number.code A outer s H E) (fun c d _ H => E c d H) (defBody s_is_number) b_is_number :=
  (bm_one (sm_ret (em_and (em_callB cd_isinst (by rfl) T.n_isinstance (by rfl) (am_cons (em_var (pv 0)) (am_cons (em_ty (by rfl) T.n_int (by rfl)) am_nil))) (em_and (em_not (em_callB cd_isinst (by rfl) T.n_isinstance (by rfl) (am_cons (em_var (pv 0)) (am_cons (em_ty (by rfl) T.n_bool (by rfl)) am_nil)))) (em_one (em_chain opd_le opd_le (em_var (pv 1)) (em_var (pv 0)) (em_var (pv 2))))))))
theorem fn_is_number (T : Facts K mg base) : FnM P w K mg base 2 (He.ga K "is_number") T.fd_is_number ["value", "least", "most"] m_is_number := fn_retV (fn_mD T.F_is_number sc_is_number fun A outer s H E hr => bm_is_number T hr)
/-! is_price -/
set_option maxHeartbeats 0 in
theorem bm_is_price (T : Facts K mg base) {A : Around} {outer : List PySem.Env} {s : Shared} {H : Hp} {E : XK} (hr : Room 2 (A.deeper (envOfC "is_price" (defScope s_is_price) s.heap.objs.size (He.ga K "is_price") T.fd_is_price.code))) :
  BM (cxOf (L2.CX P w) P w K mg base ["value"] "is_price" (defScope s_is_price) (He.ga K "is_price") T.fd_is_price.code A outer s H E) (fun c d _ H => E c d H) (defBody s_is_price) b_is_price :=
  (bm_cons (sm_if (tm_w (wm_or (tm_not (tm_tru (em_callB cd_isinst (by rfl) T.n_isinstance (by rfl) (am_cons (em_var (pv 0)) (am_cons (em_ty (by rfl) T.n_tuple (by rfl)) am_nil))) fun _ => rfl)) (wm_or1 (tm_cmp (opd_ne (hr).units) (em_callB cd_len (by rfl) T.n_len (by rfl) (am_cons (em_var (pv 0)) am_nil)) em_int (nomark _))))) (bm_one (sm_ret em_bl)) bm_nil)
  (bm_one (sm_ret (em_and (em_call (fn_is_number T) ((hr).mono (by decide)) (by rfl) T.g_is_number T.F_is_number.kp T.b_is_number takes_cx (am_cons (em_ix (em_var (pv 0)) em_int fun _ _ => rfl) (am_cons em_int (am_cons (em_glob (by rfl) T.g_MOST_PRICE T.r_MOST_PRICE fun _ _ => .int _) am_nil)))) (em_one (em_call (fn_is_number T) ((hr).mono (by decide)) (by rfl) T.g_is_number T.F_is_number.kp T.b_is_number takes_cx (am_cons (em_ix (em_var (pv 0)) em_int fun _ _ => rfl) (am_cons em_int (am_cons (em_glob (by rfl) T.g_MOST_PRICE T.r_MOST_PRICE fun _ _ => .int _) am_nil)))))))))
theorem fn_is_price (T : Facts K mg base) : FnM P w K mg base 3 (He.ga K "is_price") T.fd_is_price ["value"] m_is_price := fn_retV (fn_mD T.F_is_price sc_is_price fun A outer s H E hr => bm_is_price T hr)
/-! weighed -/
set_option maxHeartbeats 0 in
theorem bm_weighed (T : Facts K mg base) {A : Around} {outer : List PySem.Env} {s : Shared} {H : Hp} {E : XK} (hr : Room 1 (A.deeper (envOfC "weighed" (defScope s_weighed) s.heap.objs.size (He.ga K "weighed") T.fd_weighed.code))) :
  BM (cxOf (L2.CX P w) P w K mg base ["price", "pair"] "weighed" (defScope s_weighed) (He.ga K "weighed") T.fd_weighed.code A outer s H E) (fun c d _ H => E c d H) (defBody s_weighed) b_weighed :=
  (bm_one (sm_ret (em_bin opd_add (em_bin opd_mul (em_ix (em_var (pv 0)) em_int fun _ _ => rfl) (em_ix (em_var (pv 1)) em_int fun _ _ => rfl)) (em_bin opd_mul (em_ix (em_var (pv 0)) em_int fun _ _ => rfl) (em_ix (em_var (pv 1)) em_int fun _ _ => rfl)))))
theorem fn_weighed (T : Facts K mg base) : FnM P w K mg base 2 (He.ga K "weighed") T.fd_weighed ["price", "pair"] m_weighed := fn_retV (fn_mD T.F_weighed sc_weighed fun A outer s H E hr => bm_weighed T hr)
/-! best_at -/
set_option maxHeartbeats 0 in
theorem bm_best_at (T : Facts K mg base) {A : Around} {outer : List PySem.Env} {s : Shared} {H : Hp} {E : XK} (hr : Room 3 (A.deeper (envOfC "best_at" (defScope s_best_at) s.heap.objs.size (He.ga K "best_at") T.fd_best_at.code))) :
  BM (cxOf (L2.CX P w) P w K mg base ["front", "price", "found", "pair"] "best_at" (defScope s_best_at) (He.ga K "best_at") T.fd_best_at.code A outer s H E) (fun c d _ H => E c d H) (defBody s_best_at) b_best_at :=
  (bm_cons (sm_if (tm_not (tm_tru (em_call (fn_is_price T) ((hr).mono (by decide)) (by rfl) T.g_is_price T.F_is_price.kp T.b_is_price takes_cx (am_cons (em_var (pv 1)) am_nil)) fun _ => rfl)) (bm_one sm_never) bm_nil)
  (bm_cons (sm_set sc_best_at.nd rfl (by first | exact .inl rfl | exact .inr rfl) (em_ix (em_var (pv 0)) em_int fun _ _ => rfl))
  (bm_cons (sm_for owns_cx rfl (im_any (em_slice (em_var (pv 0)) (om_some em_int) om_no)) (gm_name sc_best_at.nd rfl (by first | exact .inl rfl | exact .inr rfl))
 (bm_one (sm_if (tm_cmp opd_lt (em_call (fn_weighed T) ((hr).mono (by decide)) (by rfl) T.g_weighed T.F_weighed.kp T.b_weighed takes_cx (am_cons (em_var (pv 1)) (am_cons (em_var (pv 3)) am_nil))) (em_call (fn_weighed T) ((hr).mono (by decide)) (by rfl) T.g_weighed T.F_weighed.kp T.b_weighed takes_cx (am_cons (em_var (pv 1)) (am_cons (em_var (pv 2)) am_nil))) (nomark _)) (bm_one (sm_set sc_best_at.nd rfl (by first | exact .inl rfl | exact .inr rfl) (em_var (pv 3)))) bm_nil)))
  (bm_one (sm_ret (em_var (pv 2)))))))
theorem fn_best_at (T : Facts K mg base) : FnM P w K mg base 4 (He.ga K "best_at") T.fd_best_at ["front", "price"] m_best_at := fn_retV (fn_mD T.F_best_at sc_best_at fun A outer s H E hr => bm_best_at T hr)
/-! least_bits -/
set_option maxHeartbeats 0 in
theorem bm_least_bits (T : Facts K mg base) {A : Around} {outer : List PySem.Env} {s : Shared} {H : Hp} {E : XK} (hr : Room 1 (A.deeper (envOfC "least_bits" (defScope s_least_bits) s.heap.objs.size (He.ga K "least_bits") T.fd_least_bits.code))) :
  BM (cxOf (L2.CX P w) P w K mg base ["front", "loss", "pair"] "least_bits" (defScope s_least_bits) (He.ga K "least_bits") T.fd_least_bits.code A outer s H E) (fun c d _ H => E c d H) (defBody s_least_bits) b_least_bits :=
  (bm_cons (sm_for owns_cx rfl (im_any (em_var (pv 0))) (gm_name sc_least_bits.nd rfl (by first | exact .inl rfl | exact .inr rfl))
 (bm_one (sm_if (tm_cmp opd_le (em_ix (em_var (pv 2)) em_int fun _ _ => rfl) (em_var (pv 1)) (nomark _)) (bm_one (sm_ret (em_var (pv 2)))) bm_nil)))
  (bm_one sm_never))
theorem fn_least_bits (T : Facts K mg base) : FnM P w K mg base 2 (He.ga K "least_bits") T.fd_least_bits ["front", "loss"] m_least_bits := fn_retV (fn_mD T.F_least_bits sc_least_bits fun A outer s H E hr => bm_least_bits T hr)
/-! bound_by -/
set_option maxHeartbeats 0 in
theorem bm_bound_by (T : Facts K mg base) {A : Around} {outer : List PySem.Env} {s : Shared} {H : Hp} {E : XK} (hr : Room 4 (A.deeper (envOfC "bound_by" (defScope s_bound_by) s.heap.objs.size (He.ga K "bound_by") T.fd_bound_by.code))) :
  BM (cxOf (L2.CX P w) P w K mg base ["rows", "price", "loss", "total", "front"] "bound_by" (defScope s_bound_by) (He.ga K "bound_by") T.fd_bound_by.code A outer s H E) (fun c d _ H => E c d H) (defBody s_bound_by) b_bound_by :=
  (bm_cons (sm_set sc_bound_by.nd rfl (by first | exact .inl rfl | exact .inr rfl) (em_callB (cd_sum rfl) (by rfl) T.n_sum (by rfl) (am_cons (em_val (nm_lc [("front", 4)] rfl sc_bound_by.nd (im_any (em_var (pv 0))) (blkOk_by (by kernel_rfl)) (by decide) (fun _ _ _ _ _ => (gm_name sc_bound_by.nd rfl (by first | exact .inl rfl | exact .inr rfl))) (fun _ _ _ _ _ => ptsm_nil) (fun _ _ _ _ _ => (em_call (fn_weighed T) ((hr).mono (by decide)) (by rfl) T.g_weighed T.F_weighed.kp T.b_weighed tk0 (am_cons (em_var (pv 1)) (am_cons (em_call (fn_best_at T) ((hr).mono (by decide)) (by rfl) T.g_best_at T.F_best_at.kp T.b_best_at tk0 (am_cons (em_var (pv 4)) (am_cons (em_var (pv 1)) am_nil))) am_nil)))))) am_nil)))
  (bm_one (sm_ret (em_callB (cd_max rfl) (by rfl) T.n_max (by rfl) (am_cons em_int (am_cons (em_bin opd_fdiv (em_bin opd_sub (em_bin opd_add (em_bin opd_sub (em_var (pv 3)) (em_bin opd_mul (em_ix (em_var (pv 1)) em_int fun _ _ => rfl) (em_var (pv 2)))) (em_ix (em_var (pv 1)) em_int fun _ _ => rfl)) em_int) (em_ix (em_var (pv 1)) em_int fun _ _ => rfl)) am_nil))))))
theorem fn_bound_by (T : Facts K mg base) : FnM P w K mg base 5 (He.ga K "bound_by") T.fd_bound_by ["rows", "price", "loss"] m_bound_by := fn_retV (fn_mD T.F_bound_by sc_bound_by fun A outer s H E hr => bm_bound_by T hr)
/-! least_loss -/
set_option maxHeartbeats 0 in
theorem bm_least_loss (T : Facts K mg base) {A : Around} {outer : List PySem.Env} {s : Shared} {H : Hp} {E : XK} (hr : Room 1 (A.deeper (envOfC "least_loss" (defScope s_least_loss) s.heap.objs.size (He.ga K "least_loss") T.fd_least_loss.code))) :
  BM (cxOf (L2.CX P w) P w K mg base ["front", "bits", "found", "pair"] "least_loss" (defScope s_least_loss) (He.ga K "least_loss") T.fd_least_loss.code A outer s H E) (fun c d _ H => E c d H) (defBody s_least_loss) b_least_loss :=
  (bm_cons (sm_set sc_least_loss.nd rfl (by first | exact .inl rfl | exact .inr rfl) em_non)
  (bm_cons (sm_for owns_cx rfl (im_any (em_var (pv 0))) (gm_name sc_least_loss.nd rfl (by first | exact .inl rfl | exact .inr rfl))
 (bm_one (sm_if (tm_cmp opd_le (em_ix (em_var (pv 3)) em_int fun _ _ => rfl) (em_var (pv 1)) (nomark _)) (bm_one (sm_set sc_least_loss.nd rfl (by first | exact .inl rfl | exact .inr rfl) (em_var (pv 3)))) bm_nil)))
  (bm_cons (sm_if (tm_cmp opd_is (em_var (pv 2)) em_non (nomark _)) (bm_one sm_never) bm_nil)
  (bm_one (sm_ret (em_var (pv 2)))))))
theorem fn_least_loss (T : Facts K mg base) : FnM P w K mg base 2 (He.ga K "least_loss") T.fd_least_loss ["front", "bits"] m_least_loss := fn_retV (fn_mD T.F_least_loss sc_least_loss fun A outer s H E hr => bm_least_loss T hr)
/-! is_pair -/
set_option maxHeartbeats 0 in
theorem bm_is_pair (T : Facts K mg base) {A : Around} {outer : List PySem.Env} {s : Shared} {H : Hp} {E : XK} (hr : Room 5 (A.deeper (envOfC "is_pair" (defScope s_is_pair) s.heap.objs.size (He.ga K "is_pair") T.fd_is_pair.code))) :
  BM (cxOf (L2.CX P w) P w K mg base ["value", "one"] "is_pair" (defScope s_is_pair) (He.ga K "is_pair") T.fd_is_pair.code A outer s H E) (fun c d _ H => E c d H) (defBody s_is_pair) b_is_pair :=
  (bm_one (sm_ret (em_and (em_callB cd_isinst (by rfl) T.n_isinstance (by rfl) (am_cons (em_var (pv 0)) (am_cons (em_ty (by rfl) T.n_tuple (by rfl)) am_nil))) (em_and (em_cmp (opd_eq (hr).units) (em_callB cd_len (by rfl) T.n_len (by rfl) (am_cons (em_var (pv 0)) am_nil)) em_int (nomark _)) (em_one (em_all [("one", 1)] (hr) (by rfl) T.n_all (genIn_def T.TB_is_pair T.T_is_pair T.hc_is_pair) (im_any (em_var (pv 0))) (blkOk_by (by kernel_rfl)) (by decide) sc_is_pair.nd rfl rfl (by decide +kernel) (by rfl) (fun _ _ _ _ _ _ _ => (gm_name sc_is_pair.nd rfl (by first | exact .inl rfl | exact .inr rfl))) (fun _ _ _ _ _ _ _ hin1 => (em_call (fn_is_number T) (((((hr).in1).in1.deeper _)).mono (by decide)) (by rfl) T.g_is_number T.F_is_number.kp T.b_is_number tk0 (am_cons (em_var (pv 1)) (am_cons em_int (am_cons (em_glob (by rfl) T.g_MOST_NUMBER T.r_MOST_NUMBER fun _ _ => .int _) am_nil)))))))))))
theorem fn_is_pair (T : Facts K mg base) : FnM P w K mg base 6 (He.ga K "is_pair") T.fd_is_pair ["value"] m_is_pair := fn_retV (fn_mD T.F_is_pair sc_is_pair fun A outer s H E hr => bm_is_pair T hr)
/-! is_front -/
set_option maxHeartbeats 0 in
theorem bm_is_front (T : Facts K mg base) {A : Around} {outer : List PySem.Env} {s : Shared} {H : Hp} {E : XK} (hr : Room 9 (A.deeper (envOfC "is_front" (defScope s_is_front) s.heap.objs.size (He.ga K "is_front") T.fd_is_front.code))) :
  BM (cxOf (L2.CX P w) P w K mg base ["value", "one", "other"] "is_front" (defScope s_is_front) (He.ga K "is_front") T.fd_is_front.code A outer s H E) (fun c d _ H => E c d H) (defBody s_is_front) b_is_front :=
  (bm_cons (sm_if (tm_w (wm_or (tm_not (tm_tru (em_callB cd_isinst (by rfl) T.n_isinstance (by rfl) (am_cons (em_var (pv 0)) (am_cons (em_ty (by rfl) T.n_tuple (by rfl)) am_nil))) fun _ => rfl)) (wm_or (tm_not (tm_chain opd_le opd_le em_int (em_callB cd_len (by rfl) T.n_len (by rfl) (am_cons (em_var (pv 0)) am_nil)) (em_glob (by rfl) T.g_MOST_PAIRS T.r_MOST_PAIRS fun _ _ => .int _))) (wm_or1 (tm_not (tm_tru (em_all [("one", 1)] (hr) (by rfl) T.n_all (genIn_def T.TB_is_front T.T_is_front T.hc_is_front) (im_any (em_var (pv 0))) (blkOk_by (by kernel_rfl)) (by decide) sc_is_front.nd rfl rfl (by decide +kernel) (by rfl) (fun _ _ _ _ _ _ _ => (gm_name sc_is_front.nd rfl (by first | exact .inl rfl | exact .inr rfl))) (fun _ _ _ _ _ _ _ hin1 => (em_call (fn_is_pair T) (((((hr).in1).in1.deeper _)).mono (by decide)) (by rfl) T.g_is_pair T.F_is_pair.kp T.b_is_pair tk0 (am_cons (em_var (pv 1)) am_nil)))) fun _ => rfl)))))) (bm_one (sm_ret em_bl)) bm_nil)
  (bm_one (sm_ret (em_all [("one", 1), ("other", 2)] (hr) (by rfl) T.n_all (genIn_def T.TB_is_front T.T_is_front T.hc_is_front) (im_zip (by rfl) T.n_zip (am_cons (em_var (pv 0)) (am_cons (em_slice (em_var (pv 0)) (om_some em_int) om_no) am_nil))) (blkOk_by (by kernel_rfl)) (by decide) sc_is_front.nd rfl rfl (by decide +kernel) (by rfl) (fun _ _ _ _ _ _ _ => (gm_tup rfl (gms_cons (gm_name sc_is_front.nd rfl (by first | exact .inl rfl | exact .inr rfl)) (gms_cons (gm_name sc_is_front.nd rfl (by first | exact .inl rfl | exact .inr rfl)) gms_nil)))) (fun _ _ _ _ _ _ _ hin1 => (em_and (em_cmp opd_lt (em_ix (em_var (pv 1)) em_int fun _ _ => rfl) (em_ix (em_var (pv 2)) em_int fun _ _ => rfl) (nomark _)) (em_one (em_cmp opd_gt (em_ix (em_var (pv 1)) em_int fun _ _ => rfl) (em_ix (em_var (pv 2)) em_int fun _ _ => rfl) (nomark _)))))))))
theorem fn_is_front (T : Facts K mg base) : FnM P w K mg base 10 (He.ga K "is_front") T.fd_is_front ["value"] m_is_front := fn_retV (fn_mD T.F_is_front sc_is_front fun A outer s H E hr => bm_is_front T hr)
/-! law -/
noncomputable def e_law_1 : ME := (mCallF 1 m__law_drawn_front (mCons (mVar 1) mNil))
noncomputable def e_law_2 : ME := (mTup (mCons (mBin dAdd (mVar 13) (mVar 8)) (mCons (mBin dAdd (mVar 14) (mVar 9)) mNil)))
noncomputable def e_law_3 : ME := (mTup (mCons (mBin dMul (mVar 10) (mVar 13)) (mCons (mBin dMul (mVar 11) (mVar 14)) mNil)))
noncomputable def e_law_4 : ME := (mTup (mCons (mBin dAdd (mVar 13) (mVar 8)) (mCons (mBin dAdd (mVar 14) (mVar 9)) mNil)))
noncomputable def e_law_5 : ME := (mTup (mCons (mBin dMul (mVar 10) (mVar 13)) (mCons (mBin dMul (mVar 11) (mVar 14)) mNil)))
noncomputable def e_law_6 : ME := (mTup (mCons (mBin dMul (mVar 10) (mVar 13)) (mCons (mBin dMul (mVar 11) (mVar 14)) mNil)))
noncomputable def e_law_7 : ME := (mTup (mCons (mBin dAdd (mVar 13) (mVar 8)) (mCons (mBin dAdd (mVar 14) (mVar 9)) mNil)))
noncomputable def e_law_8 : ME := (mTup (mCons (mBin dMul (mVar 10) (mVar 13)) (mCons (mBin dMul (mVar 11) (mVar 14)) mNil)))
noncomputable def t_law_9 : MT := (mB (mBin dNotIn (mVar 17) (mVar 3)))
noncomputable def b_law_10 : MS := (sSeq (sSet (gN 17) (mCallF 2 m_least_bits (mCons (mVar 7) (mCons (mVar 14) mNil)))) (sSeq (sIf (mOr (mB (mBin dLt (mBin dIx (mVar 17) (mC (.int 0))) (mCallF 3 m_bound_by (mCons (mTup (mCons (mVar 3) (mCons (mVar 4) mNil))) (mCons (mVar 19) (mCons (mVar 14) mNil)))))) (mOr (mB (mBin dNe (mCallF 2 m_least_loss (mCons (mVar 7) (mCons (mBin dIx (mVar 17) (mC (.int 0))) mNil))) (mVar 17))) (mB (mBin dIsNot (mCallF 1 m_is_front (mCons (mVar 7) mNil)) (mC (.bl true)))))) (sRet (mC (.bl false))) sSkip) (sIf (mAnd (mB (mBin dNe (mVar 17) (mBin dIx (mVar 7) (mC (.int 0))))) (mB (mBin dGt (mBin dIx (mCallF 2 m_least_bits (mCons (mVar 7) (mCons (mBin dAdd (mBin dIx (mVar 17) (mC (.int 1))) (mC (.int 1))) mNil))) (mC (.int 0))) (mBin dIx (mVar 17) (mC (.int 0)))))) (sRet (mC (.bl false))) sSkip)))
noncomputable def l_law_11 : MS := (sSeq (sSet (gN 19) (mTup (mCons (mBin dAdd (mC (.int 1)) (mCallF 2 m__law_take (mCons (mVar 1) (mCons (mC (.int 60)) mNil)))) (mCons (mBin dAdd (mC (.int 1)) (mCallF 2 m__law_take (mCons (mVar 1) (mCons (mC (.int 60)) mNil)))) mNil)))) (sSeq (sSet (gN 20) (mCallF 2 m_best_at (mCons (mVar 3) (mCons (mVar 19) mNil)))) (sSeq (sIf (mOr (mB (mBin dNotIn (mVar 20) (mVar 16))) (mB (mBin dNe (mBin dAdd (mCallF 2 m_weighed (mCons (mVar 19) (mCons (mVar 20) mNil))) (mCallF 2 m_weighed (mCons (mVar 19) (mCons (mCallF 2 m_best_at (mCons (mVar 4) (mCons (mVar 19) mNil))) mNil)))) (mCallF 2 m_weighed (mCons (mVar 19) (mCons (mCallF 2 m_best_at (mCons (mVar 7) (mCons (mVar 19) mNil))) mNil)))))) (sRet (mC (.bl false))) sSkip) (sSeq (sIf (mOr (mB (mBin dNe (mCallF 2 m_best_at (mCons (mVar 15) (mCons (mTup (mCons (mBin dMul (mBin dIx (mVar 19) (mC (.int 0))) (mVar 11)) (mCons (mBin dMul (mBin dIx (mVar 19) (mC (.int 1))) (mVar 10)) mNil))) mNil))) (mTup (mCons (mBin dMul (mVar 10) (mBin dIx (mVar 20) (mC (.int 0)))) (mCons (mBin dMul (mVar 11) (mBin dIx (mVar 20) (mC (.int 1)))) mNil))))) (mB (mBin dNe (mCallF 2 m_best_at (mCons (mVar 12) (mCons (mVar 19) mNil))) (mTup (mCons (mBin dAdd (mBin dIx (mVar 20) (mC (.int 0))) (mVar 8)) (mCons (mBin dAdd (mBin dIx (mVar 20) (mC (.int 1))) (mVar 9)) mNil)))))) (sRet (mC (.bl false))) sSkip) (sSeq (sSet (gN 14) (mCallF 2 m__law_take (mCons (mVar 1) (mCons (mC (.int 420)) mNil)))) (sSeq (sIf (mB (mBin dGe (mVar 14) (mBin dIx (mBin dIx (mVar 7) (mUn dNeg (mC (.int 1)))) (mC (.int 1))))) b_law_10 sSkip) (sIf (mB (mBin dGt (mBin dIx (mCallF 2 m_best_at (mCons (mVar 3) (mCons (mTup (mCons (mBin dAdd (mBin dAdd (mBin dIx (mVar 19) (mC (.int 0))) (mC (.int 1))) (mCallF 2 m__law_take (mCons (mVar 1) (mCons (mC (.int 9)) mNil)))) (mCons (mBin dIx (mVar 19) (mC (.int 1))) mNil))) mNil))) (mC (.int 0))) (mBin dIx (mVar 20) (mC (.int 0))))) (sRet (mC (.bl false))) sSkip)))))))
noncomputable def l_law_12 : MS := (sSeq (sSet (gLst 3 (gCons (gN 3) (gCons (gN 4) (gCons (gN 5) gNil)))) (asV (mLc (mSrcA srcR1 (mCons (mC (.int 3)) mNil)) (gN 6) mYes e_law_1 [6]))) (sSeq (sSet (gN 7) (mCallF 2 m_put_together (mCons (mVar 3) (mCons (mVar 4) mNil)))) (sSeq (sIf (mOr (mNot (mTru (mCallF 2 m__law_alike (mCons (mVar 7) (mCons (mCallF 2 m_put_together (mCons (mVar 4) (mCons (mVar 3) mNil))) mNil))))) (mOr (mB (mBin dNe (mCallF 2 m_put_together (mCons (mVar 7) (mCons (mVar 5) mNil))) (mCallF 2 m_put_together (mCons (mVar 3) (mCons (mCallF 2 m_put_together (mCons (mVar 4) (mCons (mVar 5) mNil))) mNil))))) (mB (mBin dNe (mCallF 1 m_all_together (mCons (mTup (mCons (mVar 3) (mCons (mVar 4) (mCons (mVar 5) mNil)))) mNil)) (mCallF 2 m_put_together (mCons (mVar 7) (mCons (mVar 5) mNil))))))) (sRet (mC (.bl false))) sSkip) (sSeq (sIf (mOr (mB (mBin dNe (mCallF 2 m_either (mCons (mVar 3) (mCons (mVar 4) mNil))) (mCallF 2 m_either (mCons (mVar 4) (mCons (mVar 3) mNil))))) (mOr (mB (mBin dNe (mCallF 2 m_either (mCons (mCallF 2 m_either (mCons (mVar 3) (mCons (mVar 4) mNil))) (mCons (mVar 5) mNil))) (mCallF 2 m_either (mCons (mVar 3) (mCons (mCallF 2 m_either (mCons (mVar 4) (mCons (mVar 5) mNil))) mNil))))) (mOr (mB (mBin dNe (mCallF 2 m_either (mCons (mVar 3) (mCons (mVar 3) mNil))) (mVar 3))) (mB (mBin dNe (mCallF 1 m_front_of (mCons (mBin dAdd (asV (mCallN nList (mCons (mVar 3) mNil))) (asV (mCallN nList (mCons (mVar 4) mNil)))) mNil)) (mCallF 2 m_either (mCons (mVar 3) (mCons (mVar 4) mNil)))))))) (sRet (mC (.bl false))) sSkip) (sSeq (sIf (mOr (mB (mBin dNe (mCallF 2 m_put_together (mCons (mVar 3) (mCons (mCallF 2 m_either (mCons (mVar 4) (mCons (mVar 5) mNil))) mNil))) (mCallF 2 m_either (mCons (mCallF 2 m_put_together (mCons (mVar 3) (mCons (mVar 4) mNil))) (mCons (mCallF 2 m_put_together (mCons (mVar 3) (mCons (mVar 5) mNil))) mNil))))) (mB (mBin dNe (mCallF 2 m_put_together (mCons (mVar 3) (mCons (mTup (mCons (mTup (mCons (mC (.int 0)) (mCons (mC (.int 0)) mNil))) mNil)) mNil))) (mVar 3)))) (sRet (mC (.bl false))) sSkip) (sSeq (sSet (gTup 4 (gCons (gN 8) (gCons (gN 9) (gCons (gN 10) (gCons (gN 11) gNil))))) (mTup (mCons (mCallF 2 m__law_take (mCons (mVar 1) (mCons (mC (.int 30)) mNil))) (mCons (mCallF 2 m__law_take (mCons (mVar 1) (mCons (mC (.int 30)) mNil))) (mCons (mBin dAdd (mC (.int 1)) (mCallF 2 m__law_take (mCons (mVar 1) (mCons (mC (.int 5)) mNil)))) (mCons (mBin dAdd (mC (.int 1)) (mCallF 2 m__law_take (mCons (mVar 1) (mCons (mC (.int 5)) mNil)))) mNil)))))) (sSeq (sSet (gN 12) (mCall dTuple (mCons (asV (mLc (mSrc (mVar 3)) (gTup 2 (gCons (gN 13) (gCons (gN 14) gNil))) mYes e_law_2 [13, 14])) mNil))) (sSeq (sSet (gN 15) (mCall dTuple (mCons (asV (mLc (mSrc (mVar 3)) (gTup 2 (gCons (gN 13) (gCons (gN 14) gNil))) mYes e_law_3 [13, 14])) mNil))) (sSeq (sIf (mOr (mB (mBin dNe (mCallF 2 m_put_together (mCons (mVar 12) (mCons (mVar 4) mNil))) (mCall dTuple (mCons (asV (mLc (mSrc (mVar 7)) (gTup 2 (gCons (gN 13) (gCons (gN 14) gNil))) mYes e_law_4 [13, 14])) mNil)))) (mB (mBin dNe (mCallF 2 m_put_together (mCons (mVar 3) (mCons (mTup (mCons (mTup (mCons (mVar 8) (mCons (mVar 9) mNil))) mNil)) mNil))) (mVar 12)))) (sRet (mC (.bl false))) sSkip) (sSeq (sIf (mB (mBin dNe (mCallF 2 m_put_together (mCons (mVar 15) (mCons (mCall dTuple (mCons (asV (mLc (mSrc (mVar 4)) (gTup 2 (gCons (gN 13) (gCons (gN 14) gNil))) mYes e_law_5 [13, 14])) mNil)) mNil))) (mCall dTuple (mCons (asV (mLc (mSrc (mVar 7)) (gTup 2 (gCons (gN 13) (gCons (gN 14) gNil))) mYes e_law_6 [13, 14])) mNil)))) (sRet (mC (.bl false))) sSkip) (sSeq (sSet (gN 16) (mCallF 1 m_hull (mCons (mVar 3) mNil))) (sSeq (sIf (mOr (mB (mBin dNe (mCallF 1 m_hull (mCons (mVar 16) mNil)) (mVar 16))) (mOr (mB (mBin dNe (mCallF 1 m_hull (mCons (mVar 12) mNil)) (mCall dTuple (mCons (asV (mLc (mSrc (mVar 16)) (gTup 2 (gCons (gN 13) (gCons (gN 14) gNil))) mYes e_law_7 [13, 14])) mNil)))) (mB (mBin dNe (mCallF 1 m_hull (mCons (mVar 15) mNil)) (mCall dTuple (mCons (asV (mLc (mSrc (mVar 16)) (gTup 2 (gCons (gN 13) (gCons (gN 14) gNil))) mYes e_law_8 [13, 14])) mNil)))))) (sRet (mC (.bl false))) sSkip) (sSeq (sIf (mOr (mB (mBin dNe (mCallF 1 m_hull (mCons (mVar 7) mNil)) (mCallF 1 m_hull_together (mCons (mTup (mCons (mVar 3) (mCons (mVar 4) mNil))) mNil)))) (mOr (mB (mBin dNe (mCallF 1 m_hull_together (mCons (mTup (mCons (mVar 3) (mCons (mVar 4) mNil))) mNil)) (mCallF 1 m_hull (mCons (mCallF 2 m_put_together (mCons (mVar 16) (mCons (mCallF 1 m_hull (mCons (mVar 4) mNil)) mNil))) mNil)))) (mB (mBin dNe (asV (mLc (mSrc (mVar 16)) (gN 17) t_law_9 (mVar 17) [17])) (asV (mLst mNil)))))) (sRet (mC (.bl false))) sSkip) (sFor (mSrcA srcR1 (mCons (mC (.int 4)) mNil)) (gN 18) l_law_11))))))))))))))
noncomputable def b_law : MS := (sSeq (sSet (gN 1) (mCallF 1 m__law_draws (mCons (mVar 0) mNil))) (sSeq (sFor (mSrcA srcR1 (mCons (mC (.int 8)) mNil)) (gN 2) l_law_12) (sRet (mC (.bl true)))))
noncomputable def m_law : List D → Store → Res D := retV (runF 21 b_law)
set_option maxHeartbeats 0 in
theorem bm_law (T : Facts K mg base) {A : Around} {outer : List PySem.Env} {s : Shared} {H : Hp} {E : XK} (hr : Room 10 (A.deeper (envOfC "law" (defScope s_law) s.heap.objs.size (He.ga K "law") T.fd_law.code))) :
  BM (cxOf (L2.CX P w) P w K mg base ["script", "draws", "turn", "one", "two", "three", "k", "both", "more", "worse", "stretch", "lift_so", "moved", "bits", "lost", "great", "corners", "pair", "step", "price", "best"] "law" (defScope s_law) (He.ga K "law") T.fd_law.code A outer s H E) (fun c d _ H => E c d H) (defBody s_law) b_law :=
  (bm_cons (sm_set sc_law.nd rfl (by first | exact .inl rfl | exact .inr rfl) (em_call (fn__law_draws T) ((hr).mono (by decide)) (by rfl) T.g__law_draws T.F__law_draws.kp T.b__law_draws takes_cx (am_cons (em_var (pv 0)) am_nil)))
  (bm_cons (sm_for owns_cx rfl (im_range1 (by rfl) T.n_range (am_cons em_int am_nil)) (gm_name sc_law.nd rfl (by first | exact .inl rfl | exact .inr rfl))
 (bm_cons (sm_asg (em_val (nm_lc [("k", 6)] rfl sc_law.nd (im_range1 (by rfl) T.n_range (am_cons em_int am_nil)) (blkOk_by (by kernel_rfl)) (by decide) (fun _ _ _ _ _ => (gm_name sc_law.nd rfl (by first | exact .inl rfl | exact .inr rfl))) (fun _ _ _ _ _ => ptsm_nil) (fun _ _ _ _ _ => (em_call (fn__law_drawn_front T) ((hr).mono (by decide)) (by rfl) T.g__law_drawn_front T.F__law_drawn_front.kp T.b__law_drawn_front tk0 (am_cons (em_var (pv 1)) am_nil))))) (gm_lst rfl (gms_cons (gm_name sc_law.nd rfl (by first | exact .inl rfl | exact .inr rfl)) (gms_cons (gm_name sc_law.nd rfl (by first | exact .inl rfl | exact .inr rfl)) (gms_cons (gm_name sc_law.nd rfl (by first | exact .inl rfl | exact .inr rfl)) gms_nil)))))
  (bm_cons (sm_set sc_law.nd rfl (by first | exact .inl rfl | exact .inr rfl) (em_call (fn_put_together T) ((hr).mono (by decide)) (by rfl) T.g_put_together T.F_put_together.kp T.b_put_together takes_cx (am_cons (em_var (pv 3)) (am_cons (em_var (pv 4)) am_nil))))
  (bm_cons (sm_if (tm_w (wm_or (tm_not (tm_tru (em_call (fn__law_alike T) ((hr).mono (by decide)) (by rfl) T.g__law_alike T.F__law_alike.kp T.b__law_alike takes_cx (am_cons (em_var (pv 7)) (am_cons (em_call (fn_put_together T) ((hr).mono (by decide)) (by rfl) T.g_put_together T.F_put_together.kp T.b_put_together takes_cx (am_cons (em_var (pv 4)) (am_cons (em_var (pv 3)) am_nil))) am_nil))) fun _ => rfl)) (wm_or (tm_cmp (opd_ne (hr).units) (em_call (fn_put_together T) ((hr).mono (by decide)) (by rfl) T.g_put_together T.F_put_together.kp T.b_put_together takes_cx (am_cons (em_var (pv 7)) (am_cons (em_var (pv 5)) am_nil))) (em_call (fn_put_together T) ((hr).mono (by decide)) (by rfl) T.g_put_together T.F_put_together.kp T.b_put_together takes_cx (am_cons (em_var (pv 3)) (am_cons (em_call (fn_put_together T) ((hr).mono (by decide)) (by rfl) T.g_put_together T.F_put_together.kp T.b_put_together takes_cx (am_cons (em_var (pv 4)) (am_cons (em_var (pv 5)) am_nil))) am_nil))) (nomark _)) (wm_or1 (tm_cmp (opd_ne (hr).units) (em_call (fn_all_together T) ((hr).mono (by decide)) (by rfl) T.g_all_together T.F_all_together.kp T.b_all_together takes_cx (am_cons (em_tup (am_cons (em_var (pv 3)) (am_cons (em_var (pv 4)) (am_cons (em_var (pv 5)) am_nil)))) am_nil)) (em_call (fn_put_together T) ((hr).mono (by decide)) (by rfl) T.g_put_together T.F_put_together.kp T.b_put_together takes_cx (am_cons (em_var (pv 7)) (am_cons (em_var (pv 5)) am_nil))) (nomark _)))))) (bm_one (sm_ret em_bl)) bm_nil)
  (bm_cons (sm_if (tm_w (wm_or (tm_cmp (opd_ne (hr).units) (em_call (fn_either T) ((hr).mono (by decide)) (by rfl) T.g_either T.F_either.kp T.b_either takes_cx (am_cons (em_var (pv 3)) (am_cons (em_var (pv 4)) am_nil))) (em_call (fn_either T) ((hr).mono (by decide)) (by rfl) T.g_either T.F_either.kp T.b_either takes_cx (am_cons (em_var (pv 4)) (am_cons (em_var (pv 3)) am_nil))) (nomark _)) (wm_or (tm_cmp (opd_ne (hr).units) (em_call (fn_either T) ((hr).mono (by decide)) (by rfl) T.g_either T.F_either.kp T.b_either takes_cx (am_cons (em_call (fn_either T) ((hr).mono (by decide)) (by rfl) T.g_either T.F_either.kp T.b_either takes_cx (am_cons (em_var (pv 3)) (am_cons (em_var (pv 4)) am_nil))) (am_cons (em_var (pv 5)) am_nil))) (em_call (fn_either T) ((hr).mono (by decide)) (by rfl) T.g_either T.F_either.kp T.b_either takes_cx (am_cons (em_var (pv 3)) (am_cons (em_call (fn_either T) ((hr).mono (by decide)) (by rfl) T.g_either T.F_either.kp T.b_either takes_cx (am_cons (em_var (pv 4)) (am_cons (em_var (pv 5)) am_nil))) am_nil))) (nomark _)) (wm_or (tm_cmp (opd_ne (hr).units) (em_call (fn_either T) ((hr).mono (by decide)) (by rfl) T.g_either T.F_either.kp T.b_either takes_cx (am_cons (em_var (pv 3)) (am_cons (em_var (pv 3)) am_nil))) (em_var (pv 3)) (nomark _)) (wm_or1 (tm_cmp (opd_ne (hr).units) (em_call (fn_front_of T) ((hr).mono (by decide)) (by rfl) T.g_front_of T.F_front_of.kp T.b_front_of takes_cx (am_cons (em_bin opd_add (em_val (nm_callTy cn_list (by rfl) T.n_list (by rfl) (am_cons (em_var (pv 3)) am_nil))) (em_val (nm_callTy cn_list (by rfl) T.n_list (by rfl) (am_cons (em_var (pv 4)) am_nil)))) am_nil)) (em_call (fn_either T) ((hr).mono (by decide)) (by rfl) T.g_either T.F_either.kp T.b_either takes_cx (am_cons (em_var (pv 3)) (am_cons (em_var (pv 4)) am_nil))) (nomark _))))))) (bm_one (sm_ret em_bl)) bm_nil)
  (bm_cons (sm_if (tm_w (wm_or (tm_cmp (opd_ne (hr).units) (em_call (fn_put_together T) ((hr).mono (by decide)) (by rfl) T.g_put_together T.F_put_together.kp T.b_put_together takes_cx (am_cons (em_var (pv 3)) (am_cons (em_call (fn_either T) ((hr).mono (by decide)) (by rfl) T.g_either T.F_either.kp T.b_either takes_cx (am_cons (em_var (pv 4)) (am_cons (em_var (pv 5)) am_nil))) am_nil))) (em_call (fn_either T) ((hr).mono (by decide)) (by rfl) T.g_either T.F_either.kp T.b_either takes_cx (am_cons (em_call (fn_put_together T) ((hr).mono (by decide)) (by rfl) T.g_put_together T.F_put_together.kp T.b_put_together takes_cx (am_cons (em_var (pv 3)) (am_cons (em_var (pv 4)) am_nil))) (am_cons (em_call (fn_put_together T) ((hr).mono (by decide)) (by rfl) T.g_put_together T.F_put_together.kp T.b_put_together takes_cx (am_cons (em_var (pv 3)) (am_cons (em_var (pv 5)) am_nil))) am_nil))) (nomark _)) (wm_or1 (tm_cmp (opd_ne (hr).units) (em_call (fn_put_together T) ((hr).mono (by decide)) (by rfl) T.g_put_together T.F_put_together.kp T.b_put_together takes_cx (am_cons (em_var (pv 3)) (am_cons (em_tup (am_cons (em_tup (am_cons em_int (am_cons em_int am_nil))) am_nil)) am_nil))) (em_var (pv 3)) (nomark _))))) (bm_one (sm_ret em_bl)) bm_nil)
  (bm_cons (sm_asg (em_tup (am_cons (em_call (fn__law_take T) ((hr).mono (by decide)) (by rfl) T.g__law_take T.F__law_take.kp T.b__law_take takes_cx (am_cons (em_var (pv 1)) (am_cons em_int am_nil))) (am_cons (em_call (fn__law_take T) ((hr).mono (by decide)) (by rfl) T.g__law_take T.F__law_take.kp T.b__law_take takes_cx (am_cons (em_var (pv 1)) (am_cons em_int am_nil))) (am_cons (em_bin opd_add em_int (em_call (fn__law_take T) ((hr).mono (by decide)) (by rfl) T.g__law_take T.F__law_take.kp T.b__law_take takes_cx (am_cons (em_var (pv 1)) (am_cons em_int am_nil)))) (am_cons (em_bin opd_add em_int (em_call (fn__law_take T) ((hr).mono (by decide)) (by rfl) T.g__law_take T.F__law_take.kp T.b__law_take takes_cx (am_cons (em_var (pv 1)) (am_cons em_int am_nil)))) am_nil))))) (gm_tup rfl (gms_cons (gm_name sc_law.nd rfl (by first | exact .inl rfl | exact .inr rfl)) (gms_cons (gm_name sc_law.nd rfl (by first | exact .inl rfl | exact .inr rfl)) (gms_cons (gm_name sc_law.nd rfl (by first | exact .inl rfl | exact .inr rfl)) (gms_cons (gm_name sc_law.nd rfl (by first | exact .inl rfl | exact .inr rfl)) gms_nil))))))
  (bm_cons (sm_set sc_law.nd rfl (by first | exact .inl rfl | exact .inr rfl) (em_callTy cd_tuple (by rfl) T.n_tuple (by rfl) (am_cons (em_val (nm_lc [("bits", 13), ("lost", 14)] rfl sc_law.nd (im_any (em_var (pv 3))) (blkOk_by (by kernel_rfl)) (by decide) (fun _ _ _ _ _ => (gm_tup rfl (gms_cons (gm_name sc_law.nd rfl (by first | exact .inl rfl | exact .inr rfl)) (gms_cons (gm_name sc_law.nd rfl (by first | exact .inl rfl | exact .inr rfl)) gms_nil)))) (fun _ _ _ _ _ => ptsm_nil) (fun _ _ _ _ _ => (em_tup (am_cons (em_bin opd_add (em_var (pv 13)) (em_var (pv 8))) (am_cons (em_bin opd_add (em_var (pv 14)) (em_var (pv 9))) am_nil)))))) am_nil)))
  (bm_cons (sm_set sc_law.nd rfl (by first | exact .inl rfl | exact .inr rfl) (em_callTy cd_tuple (by rfl) T.n_tuple (by rfl) (am_cons (em_val (nm_lc [("bits", 13), ("lost", 14)] rfl sc_law.nd (im_any (em_var (pv 3))) (blkOk_by (by kernel_rfl)) (by decide) (fun _ _ _ _ _ => (gm_tup rfl (gms_cons (gm_name sc_law.nd rfl (by first | exact .inl rfl | exact .inr rfl)) (gms_cons (gm_name sc_law.nd rfl (by first | exact .inl rfl | exact .inr rfl)) gms_nil)))) (fun _ _ _ _ _ => ptsm_nil) (fun _ _ _ _ _ => (em_tup (am_cons (em_bin opd_mul (em_var (pv 10)) (em_var (pv 13))) (am_cons (em_bin opd_mul (em_var (pv 11)) (em_var (pv 14))) am_nil)))))) am_nil)))
  (bm_cons (sm_if (tm_w (wm_or (tm_cmp (opd_ne (hr).units) (em_call (fn_put_together T) ((hr).mono (by decide)) (by rfl) T.g_put_together T.F_put_together.kp T.b_put_together takes_cx (am_cons (em_var (pv 12)) (am_cons (em_var (pv 4)) am_nil))) (em_callTy cd_tuple (by rfl) T.n_tuple (by rfl) (am_cons (em_val (nm_lc [("bits", 13), ("lost", 14)] rfl sc_law.nd (im_any (em_var (pv 7))) (blkOk_by (by kernel_rfl)) (by decide) (fun _ _ _ _ _ => (gm_tup rfl (gms_cons (gm_name sc_law.nd rfl (by first | exact .inl rfl | exact .inr rfl)) (gms_cons (gm_name sc_law.nd rfl (by first | exact .inl rfl | exact .inr rfl)) gms_nil)))) (fun _ _ _ _ _ => ptsm_nil) (fun _ _ _ _ _ => (em_tup (am_cons (em_bin opd_add (em_var (pv 13)) (em_var (pv 8))) (am_cons (em_bin opd_add (em_var (pv 14)) (em_var (pv 9))) am_nil)))))) am_nil)) (nomark _)) (wm_or1 (tm_cmp (opd_ne (hr).units) (em_call (fn_put_together T) ((hr).mono (by decide)) (by rfl) T.g_put_together T.F_put_together.kp T.b_put_together takes_cx (am_cons (em_var (pv 3)) (am_cons (em_tup (am_cons (em_tup (am_cons (em_var (pv 8)) (am_cons (em_var (pv 9)) am_nil))) am_nil)) am_nil))) (em_var (pv 12)) (nomark _))))) (bm_one (sm_ret em_bl)) bm_nil)
  (bm_cons (sm_if (tm_cmp (opd_ne (hr).units) (em_call (fn_put_together T) ((hr).mono (by decide)) (by rfl) T.g_put_together T.F_put_together.kp T.b_put_together takes_cx (am_cons (em_var (pv 15)) (am_cons (em_callTy cd_tuple (by rfl) T.n_tuple (by rfl) (am_cons (em_val (nm_lc [("bits", 13), ("lost", 14)] rfl sc_law.nd (im_any (em_var (pv 4))) (blkOk_by (by kernel_rfl)) (by decide) (fun _ _ _ _ _ => (gm_tup rfl (gms_cons (gm_name sc_law.nd rfl (by first | exact .inl rfl | exact .inr rfl)) (gms_cons (gm_name sc_law.nd rfl (by first | exact .inl rfl | exact .inr rfl)) gms_nil)))) (fun _ _ _ _ _ => ptsm_nil) (fun _ _ _ _ _ => (em_tup (am_cons (em_bin opd_mul (em_var (pv 10)) (em_var (pv 13))) (am_cons (em_bin opd_mul (em_var (pv 11)) (em_var (pv 14))) am_nil)))))) am_nil)) am_nil))) (em_callTy cd_tuple (by rfl) T.n_tuple (by rfl) (am_cons (em_val (nm_lc [("bits", 13), ("lost", 14)] rfl sc_law.nd (im_any (em_var (pv 7))) (blkOk_by (by kernel_rfl)) (by decide) (fun _ _ _ _ _ => (gm_tup rfl (gms_cons (gm_name sc_law.nd rfl (by first | exact .inl rfl | exact .inr rfl)) (gms_cons (gm_name sc_law.nd rfl (by first | exact .inl rfl | exact .inr rfl)) gms_nil)))) (fun _ _ _ _ _ => ptsm_nil) (fun _ _ _ _ _ => (em_tup (am_cons (em_bin opd_mul (em_var (pv 10)) (em_var (pv 13))) (am_cons (em_bin opd_mul (em_var (pv 11)) (em_var (pv 14))) am_nil)))))) am_nil)) (nomark _)) (bm_one (sm_ret em_bl)) bm_nil)
  (bm_cons (sm_set sc_law.nd rfl (by first | exact .inl rfl | exact .inr rfl) (em_call (fn_hull T) ((hr).mono (by decide)) (by rfl) T.g_hull T.F_hull.kp T.b_hull takes_cx (am_cons (em_var (pv 3)) am_nil)))
  (bm_cons (sm_if (tm_w (wm_or (tm_cmp (opd_ne (hr).units) (em_call (fn_hull T) ((hr).mono (by decide)) (by rfl) T.g_hull T.F_hull.kp T.b_hull takes_cx (am_cons (em_var (pv 16)) am_nil)) (em_var (pv 16)) (nomark _)) (wm_or (tm_cmp (opd_ne (hr).units) (em_call (fn_hull T) ((hr).mono (by decide)) (by rfl) T.g_hull T.F_hull.kp T.b_hull takes_cx (am_cons (em_var (pv 12)) am_nil)) (em_callTy cd_tuple (by rfl) T.n_tuple (by rfl) (am_cons (em_val (nm_lc [("bits", 13), ("lost", 14)] rfl sc_law.nd (im_any (em_var (pv 16))) (blkOk_by (by kernel_rfl)) (by decide) (fun _ _ _ _ _ => (gm_tup rfl (gms_cons (gm_name sc_law.nd rfl (by first | exact .inl rfl | exact .inr rfl)) (gms_cons (gm_name sc_law.nd rfl (by first | exact .inl rfl | exact .inr rfl)) gms_nil)))) (fun _ _ _ _ _ => ptsm_nil) (fun _ _ _ _ _ => (em_tup (am_cons (em_bin opd_add (em_var (pv 13)) (em_var (pv 8))) (am_cons (em_bin opd_add (em_var (pv 14)) (em_var (pv 9))) am_nil)))))) am_nil)) (nomark _)) (wm_or1 (tm_cmp (opd_ne (hr).units) (em_call (fn_hull T) ((hr).mono (by decide)) (by rfl) T.g_hull T.F_hull.kp T.b_hull takes_cx (am_cons (em_var (pv 15)) am_nil)) (em_callTy cd_tuple (by rfl) T.n_tuple (by rfl) (am_cons (em_val (nm_lc [("bits", 13), ("lost", 14)] rfl sc_law.nd (im_any (em_var (pv 16))) (blkOk_by (by kernel_rfl)) (by decide) (fun _ _ _ _ _ => (gm_tup rfl (gms_cons (gm_name sc_law.nd rfl (by first | exact .inl rfl | exact .inr rfl)) (gms_cons (gm_name sc_law.nd rfl (by first | exact .inl rfl | exact .inr rfl)) gms_nil)))) (fun _ _ _ _ _ => ptsm_nil) (fun _ _ _ _ _ => (em_tup (am_cons (em_bin opd_mul (em_var (pv 10)) (em_var (pv 13))) (am_cons (em_bin opd_mul (em_var (pv 11)) (em_var (pv 14))) am_nil)))))) am_nil)) (nomark _)))))) (bm_one (sm_ret em_bl)) bm_nil)
  (bm_cons (sm_if (tm_w (wm_or (tm_cmp (opd_ne (hr).units) (em_call (fn_hull T) ((hr).mono (by decide)) (by rfl) T.g_hull T.F_hull.kp T.b_hull takes_cx (am_cons (em_var (pv 7)) am_nil)) (em_call (fn_hull_together T) ((hr).mono (by decide)) (by rfl) T.g_hull_together T.F_hull_together.kp T.b_hull_together takes_cx (am_cons (em_tup (am_cons (em_var (pv 3)) (am_cons (em_var (pv 4)) am_nil))) am_nil)) (nomark _)) (wm_or (tm_cmp (opd_ne (hr).units) (em_call (fn_hull_together T) ((hr).mono (by decide)) (by rfl) T.g_hull_together T.F_hull_together.kp T.b_hull_together takes_cx (am_cons (em_tup (am_cons (em_var (pv 3)) (am_cons (em_var (pv 4)) am_nil))) am_nil)) (em_call (fn_hull T) ((hr).mono (by decide)) (by rfl) T.g_hull T.F_hull.kp T.b_hull takes_cx (am_cons (em_call (fn_put_together T) ((hr).mono (by decide)) (by rfl) T.g_put_together T.F_put_together.kp T.b_put_together takes_cx (am_cons (em_var (pv 16)) (am_cons (em_call (fn_hull T) ((hr).mono (by decide)) (by rfl) T.g_hull T.F_hull.kp T.b_hull takes_cx (am_cons (em_var (pv 4)) am_nil)) am_nil))) am_nil)) (nomark _)) (wm_or1 (tm_cmp (opd_ne (hr).units) (em_val (nm_lc [("pair", 17)] rfl sc_law.nd (im_any (em_var (pv 16))) (blkOk_by (by kernel_rfl)) (by decide) (fun _ _ _ _ _ => (gm_name sc_law.nd rfl (by first | exact .inl rfl | exact .inr rfl))) (fun _ _ _ _ _ => (ptsm_one (tm_cmp (opd_notIn (room65 hr)) (em_var (pv 17)) (em_var (pv 3)) (by rfl)))) (fun _ _ _ _ _ => (em_var (pv 17))))) (em_val (nm_lst am_nil)) (nomark _)))))) (bm_one (sm_ret em_bl)) bm_nil)
  (bm_one (sm_for owns_cx rfl (im_range1 (by rfl) T.n_range (am_cons em_int am_nil)) (gm_name sc_law.nd rfl (by first | exact .inl rfl | exact .inr rfl))
 (bm_cons (sm_set sc_law.nd rfl (by first | exact .inl rfl | exact .inr rfl) (em_tup (am_cons (em_bin opd_add em_int (em_call (fn__law_take T) ((hr).mono (by decide)) (by rfl) T.g__law_take T.F__law_take.kp T.b__law_take takes_cx (am_cons (em_var (pv 1)) (am_cons em_int am_nil)))) (am_cons (em_bin opd_add em_int (em_call (fn__law_take T) ((hr).mono (by decide)) (by rfl) T.g__law_take T.F__law_take.kp T.b__law_take takes_cx (am_cons (em_var (pv 1)) (am_cons em_int am_nil)))) am_nil))))
  (bm_cons (sm_set sc_law.nd rfl (by first | exact .inl rfl | exact .inr rfl) (em_call (fn_best_at T) ((hr).mono (by decide)) (by rfl) T.g_best_at T.F_best_at.kp T.b_best_at takes_cx (am_cons (em_var (pv 3)) (am_cons (em_var (pv 19)) am_nil))))
  (bm_cons (sm_if (tm_w (wm_or (tm_cmp (opd_notIn (room65 hr)) (em_var (pv 20)) (em_var (pv 16)) (by rfl)) (wm_or1 (tm_cmp (opd_ne (hr).units) (em_bin opd_add (em_call (fn_weighed T) ((hr).mono (by decide)) (by rfl) T.g_weighed T.F_weighed.kp T.b_weighed takes_cx (am_cons (em_var (pv 19)) (am_cons (em_var (pv 20)) am_nil))) (em_call (fn_weighed T) ((hr).mono (by decide)) (by rfl) T.g_weighed T.F_weighed.kp T.b_weighed takes_cx (am_cons (em_var (pv 19)) (am_cons (em_call (fn_best_at T) ((hr).mono (by decide)) (by rfl) T.g_best_at T.F_best_at.kp T.b_best_at takes_cx (am_cons (em_var (pv 4)) (am_cons (em_var (pv 19)) am_nil))) am_nil)))) (em_call (fn_weighed T) ((hr).mono (by decide)) (by rfl) T.g_weighed T.F_weighed.kp T.b_weighed takes_cx (am_cons (em_var (pv 19)) (am_cons (em_call (fn_best_at T) ((hr).mono (by decide)) (by rfl) T.g_best_at T.F_best_at.kp T.b_best_at takes_cx (am_cons (em_var (pv 7)) (am_cons (em_var (pv 19)) am_nil))) am_nil))) (nomark _))))) (bm_one (sm_ret em_bl)) bm_nil)
  (bm_cons (sm_if (tm_w (wm_or (tm_cmp (opd_ne (hr).units) (em_call (fn_best_at T) ((hr).mono (by decide)) (by rfl) T.g_best_at T.F_best_at.kp T.b_best_at takes_cx (am_cons (em_var (pv 15)) (am_cons (em_tup (am_cons (em_bin opd_mul (em_ix (em_var (pv 19)) em_int fun _ _ => rfl) (em_var (pv 11))) (am_cons (em_bin opd_mul (em_ix (em_var (pv 19)) em_int fun _ _ => rfl) (em_var (pv 10))) am_nil))) am_nil))) (em_tup (am_cons (em_bin opd_mul (em_var (pv 10)) (em_ix (em_var (pv 20)) em_int fun _ _ => rfl)) (am_cons (em_bin opd_mul (em_var (pv 11)) (em_ix (em_var (pv 20)) em_int fun _ _ => rfl)) am_nil))) (nomark _)) (wm_or1 (tm_cmp (opd_ne (hr).units) (em_call (fn_best_at T) ((hr).mono (by decide)) (by rfl) T.g_best_at T.F_best_at.kp T.b_best_at takes_cx (am_cons (em_var (pv 12)) (am_cons (em_var (pv 19)) am_nil))) (em_tup (am_cons (em_bin opd_add (em_ix (em_var (pv 20)) em_int fun _ _ => rfl) (em_var (pv 8))) (am_cons (em_bin opd_add (em_ix (em_var (pv 20)) em_int fun _ _ => rfl) (em_var (pv 9))) am_nil))) (nomark _))))) (bm_one (sm_ret em_bl)) bm_nil)
  (bm_cons (sm_set sc_law.nd rfl (by first | exact .inl rfl | exact .inr rfl) (em_call (fn__law_take T) ((hr).mono (by decide)) (by rfl) T.g__law_take T.F__law_take.kp T.b__law_take takes_cx (am_cons (em_var (pv 1)) (am_cons em_int am_nil))))
  (bm_cons (sm_if (tm_cmp opd_ge (em_var (pv 14)) (em_ix (em_ix (em_var (pv 7)) (em_neg em_int) fun _ _ => rfl) em_int fun _ _ => rfl) (nomark _)) (bm_cons (sm_set sc_law.nd rfl (by first | exact .inl rfl | exact .inr rfl) (em_call (fn_least_bits T) ((hr).mono (by decide)) (by rfl) T.g_least_bits T.F_least_bits.kp T.b_least_bits takes_cx (am_cons (em_var (pv 7)) (am_cons (em_var (pv 14)) am_nil))))
  (bm_cons (sm_if (tm_w (wm_or (tm_cmp opd_lt (em_ix (em_var (pv 17)) em_int fun _ _ => rfl) (em_call (fn_bound_by T) ((hr).mono (by decide)) (by rfl) T.g_bound_by T.F_bound_by.kp T.b_bound_by takes_cx (am_cons (em_tup (am_cons (em_var (pv 3)) (am_cons (em_var (pv 4)) am_nil))) (am_cons (em_var (pv 19)) (am_cons (em_var (pv 14)) am_nil)))) (nomark _)) (wm_or (tm_cmp (opd_ne (hr).units) (em_call (fn_least_loss T) ((hr).mono (by decide)) (by rfl) T.g_least_loss T.F_least_loss.kp T.b_least_loss takes_cx (am_cons (em_var (pv 7)) (am_cons (em_ix (em_var (pv 17)) em_int fun _ _ => rfl) am_nil))) (em_var (pv 17)) (nomark _)) (wm_or1 (tm_cmp opd_isNot (em_call (fn_is_front T) ((hr).mono (by decide)) (by rfl) T.g_is_front T.F_is_front.kp T.b_is_front takes_cx (am_cons (em_var (pv 7)) am_nil)) em_bl (nomark _)))))) (bm_one (sm_ret em_bl)) bm_nil)
  (bm_one (sm_if (tm_w (wm_and (tm_cmp (opd_ne (hr).units) (em_var (pv 17)) (em_ix (em_var (pv 7)) em_int fun _ _ => rfl) (nomark _)) (wm_and1 (tm_cmp opd_gt (em_ix (em_call (fn_least_bits T) ((hr).mono (by decide)) (by rfl) T.g_least_bits T.F_least_bits.kp T.b_least_bits takes_cx (am_cons (em_var (pv 7)) (am_cons (em_bin opd_add (em_ix (em_var (pv 17)) em_int fun _ _ => rfl) em_int) am_nil))) em_int fun _ _ => rfl) (em_ix (em_var (pv 17)) em_int fun _ _ => rfl) (nomark _))))) (bm_one (sm_ret em_bl)) bm_nil)))) bm_nil)
  (bm_one (sm_if (tm_cmp opd_gt (em_ix (em_call (fn_best_at T) ((hr).mono (by decide)) (by rfl) T.g_best_at T.F_best_at.kp T.b_best_at takes_cx (am_cons (em_var (pv 3)) (am_cons (em_tup (am_cons (em_bin opd_add (em_bin opd_add (em_ix (em_var (pv 19)) em_int fun _ _ => rfl) em_int) (em_call (fn__law_take T) ((hr).mono (by decide)) (by rfl) T.g__law_take T.F__law_take.kp T.b__law_take takes_cx (am_cons (em_var (pv 1)) (am_cons em_int am_nil)))) (am_cons (em_ix (em_var (pv 19)) em_int fun _ _ => rfl) am_nil))) am_nil))) em_int fun _ _ => rfl) (em_ix (em_var (pv 20)) em_int fun _ _ => rfl) (nomark _)) (bm_one (sm_ret em_bl)) bm_nil))))))))))))))))))))))))
  (bm_one (sm_ret em_bl))))
theorem fn_law (T : Facts K mg base) : FnM P w K mg base 11 (He.ga K "law") T.fd_law ["script"] m_law := fn_retV (fn_mD T.F_law sc_law fun A outer s H E hr => bm_law T hr)
end
end K68


set_option Elab.async false
set_option linter.all false
set_option maxRecDepth 100000
set_option maxHeartbeats 4000000
/-! Fronts, plainly. -/
namespace M.Fo
open M
abbrev P := Int × Int
/-- of rows in order, those that lose less than all ahead of them -/
def fro : Option Int → List P → List P
  | _, [] => []
  | none, p :: ps => p :: fro (some p.2) ps
  | some v, p :: ps => if p.2 < v then p :: fro (some p.2) ps else fro (some v) ps
def front (rows : List P) : List P := fro none (isort lexB rows)
/-- rising in bits, falling in loss -/
def Fro (l : List P) : Prop := l.Pairwise fun p q => p.1 < q.1 ∧ q.2 < p.2
def dom (p q : P) : Prop := p.1 ≤ q.1 ∧ p.2 ≤ q.2
theorem dom_refl (p : P) : dom p p := ⟨Int.le_refl _, Int.le_refl _⟩
theorem dom_trans {p q r : P} (h : dom p q) (g : dom q r) : dom p r := ⟨Int.le_trans h.1 g.1, Int.le_trans h.2 g.2⟩
theorem fro_mem : ∀ (l : List P) (m : Option Int), ∀ p ∈ fro m l, p ∈ l ∧ ∀ v, m = some v → p.2 < v
  | [], m, p, h => by cases m <;> simp [fro] at h
  | a :: l, none, p, h => by
    rcases List.mem_cons.mp (show p ∈ a :: fro (some a.2) l from h) with rfl | h
    · exact ⟨by simp, fun v e => by cases e⟩
    · exact ⟨List.mem_cons_of_mem _ (fro_mem l _ p h).1, fun v e => by cases e⟩
  | a :: l, some v, p, h => by
    unfold fro at h
    split at h
    · rename_i hv
      rcases List.mem_cons.mp h with rfl | h
      · exact ⟨by simp, fun w e => by cases e; exact hv⟩
      · obtain ⟨h1, h2⟩ := fro_mem l _ p h
        exact ⟨List.mem_cons_of_mem _ h1, fun w e => by cases e; have := h2 _ rfl; omega⟩
    · obtain ⟨h1, h2⟩ := fro_mem l _ p h
      exact ⟨List.mem_cons_of_mem _ h1, h2⟩
theorem fro_fro : ∀ (l : List P) (m : Option Int), SrtO.Srtd lexB l → Fro (fro m l)
  | [], m, _ => by cases m <;> exact List.Pairwise.nil
  | a :: l, m, h => by
    have h1 := List.pairwise_cons.mp h
    have key : Fro (a :: fro (some a.2) l) := by
      refine List.pairwise_cons.mpr ⟨fun q hq => ?_, fro_fro l _ h1.2⟩
      obtain ⟨g1, g2⟩ := fro_mem l _ q hq
      have g2 := g2 _ rfl
      have := SrtO.lexB_no.mp (h1.1 q g1)
      exact ⟨by omega, g2⟩
    cases m with
    | none => exact key
    | some v =>
      unfold fro
      split
      · exact key
      · exact fro_fro l _ h1.2
theorem fro_dom : ∀ (l : List P) (m : Option Int), SrtO.Srtd lexB l → ∀ q ∈ l, (∃ v, m = some v ∧ v ≤ q.2) ∨ ∃ p ∈ fro m l, dom p q
  | [], _, _, q, h => by simp at h
  | a :: l, m, hs, q, h => by
    have h1 := List.pairwise_cons.mp hs
    have key : ∀ q ∈ a :: l, ∃ p ∈ a :: fro (some a.2) l, dom p q := by
      intro q h
      rcases List.mem_cons.mp h with rfl | h
      · exact ⟨q, by simp, dom_refl q⟩
      · rcases fro_dom l (some a.2) h1.2 q h with ⟨v, e, hv⟩ | ⟨p, hp, d⟩
        · cases e
          have := SrtO.lexB_no.mp (h1.1 q h)
          exact ⟨a, by simp, by omega, hv⟩
        · exact ⟨p, List.mem_cons_of_mem _ hp, d⟩
    cases m with
    | none => exact .inr (key q h)
    | some v =>
      unfold fro
      split
      · exact .inr (key q h)
      · rename_i hv
        rcases List.mem_cons.mp h with rfl | h
        · exact .inl ⟨v, rfl, by omega⟩
        · exact fro_dom l (some v) h1.2 q h
theorem front_fro (r : List P) : Fro (front r) := fro_fro _ _ (isort_srtd lex_swo r)
theorem front_mem {r : List P} {p : P} (h : p ∈ front r) : p ∈ r := (isort_perm r).mem_iff.mp (fro_mem _ _ p h).1
theorem front_dom {r : List P} {q : P} (h : q ∈ r) : ∃ p ∈ front r, dom p q := by
  rcases fro_dom (isort lexB r) none (isort_srtd lex_swo r) q ((isort_perm r).mem_iff.mpr h) with ⟨v, e, _⟩ | h
  · cases e
  · exact h
theorem asc_ext : ∀ {l m : List P}, l.Pairwise (fun p q => p.1 < q.1) → m.Pairwise (fun p q => p.1 < q.1) → (∀ p, p ∈ l ↔ p ∈ m) → l = m
  | [], [], _, _, _ => rfl
  | [], b :: m, _, _, h => absurd ((h b).mpr (by simp)) (by simp)
  | a :: l, [], _, _, h => absurd ((h a).mp (by simp)) (by simp)
  | a :: l, b :: m, hl, hm, h => by
    have hl' := List.pairwise_cons.mp hl
    have hm' := List.pairwise_cons.mp hm
    have e : a = b := by
      rcases List.mem_cons.mp ((h a).mp (by simp)) with e | ha
      · exact e
      · rcases List.mem_cons.mp ((h b).mpr (by simp)) with e | hb
        · exact e.symm
        · have h1 := hm'.1 a ha
          have h2 := hl'.1 b hb
          omega
    subst e
    rw [asc_ext hl'.2 hm'.2 fun p => ?_]
    constructor
    · intro hp
      rcases List.mem_cons.mp ((h p).mp (List.mem_cons_of_mem _ hp)) with e | hp'
      · subst e; have := hl'.1 p hp; omega
      · exact hp'
    · intro hp
      rcases List.mem_cons.mp ((h p).mpr (List.mem_cons_of_mem _ hp)) with e | hp'
      · subst e; have := hm'.1 p hp; omega
      · exact hp'
theorem Fro.asc {l : List P} (h : Fro l) : l.Pairwise fun p q => p.1 < q.1 := h.imp fun h => h.1
theorem Fro.anti : ∀ {l : List P}, Fro l → ∀ p ∈ l, ∀ q ∈ l, dom p q → p = q
  | [], _, p, hp, _, _, _ => by simp at hp
  | a :: l, h, p, hp, q, hq, d => by
    have h' := List.pairwise_cons.mp h
    rcases List.mem_cons.mp hp with e | hp1 <;> rcases List.mem_cons.mp hq with f | hq1
    · rw [e, f]
    · have := h'.1 q hq1
      rw [e] at d
      unfold dom at d; omega
    · have := h'.1 p hp1
      rw [f] at d
      unfold dom at d; omega
    · exact Fro.anti h'.2 p hp1 q hq1 d
theorem fro_uniq {l m : List P} (hl : Fro l) (hm : Fro m) (h1 : ∀ p ∈ l, ∃ q ∈ m, dom q p) (h2 : ∀ q ∈ m, ∃ p ∈ l, dom p q) : l = m := by
  have key : ∀ {l m : List P}, Fro l → (∀ p ∈ l, ∃ q ∈ m, dom q p) → (∀ q ∈ m, ∃ p ∈ l, dom p q) → ∀ p ∈ l, p ∈ m := by
    intro l m hl h1 h2 p hp
    obtain ⟨q, hq, d⟩ := h1 p hp
    obtain ⟨p', hp', d'⟩ := h2 q hq
    have e := hl.anti p' hp' p hp (dom_trans d' d)
    subst e
    have : p' = q := Prod.ext (by unfold dom at d d'; omega) (by unfold dom at d d'; omega)
    rw [this]; exact hq
  exact asc_ext hl.asc hm.asc fun p => ⟨key hl h1 h2 p, key hm h2 h1 p⟩
theorem front_uniq {r m : List P} (hm : Fro m) (h1 : ∀ p ∈ m, ∃ q ∈ r, dom q p) (h2 : ∀ q ∈ r, ∃ p ∈ m, dom p q) : front r = m := by
  refine fro_uniq (front_fro r) hm (fun p hp => h2 p (front_mem hp)) fun q hq => ?_
  obtain ⟨s, hs, d⟩ := h1 q hq
  obtain ⟨p, hp, d'⟩ := front_dom hs
  exact ⟨p, hp, dom_trans d' d⟩
theorem front_eq {r r' : List P} (h1 : ∀ q ∈ r, ∃ p ∈ r', dom p q) (h2 : ∀ q ∈ r', ∃ p ∈ r, dom p q) : front r = front r' := by
  refine front_uniq (front_fro r') (fun p hp => h2 p (front_mem hp)) fun q hq => ?_
  obtain ⟨p, hp, d⟩ := h1 q hq
  obtain ⟨p', hp', d'⟩ := front_dom hp
  exact ⟨p', hp', dom_trans d' d⟩
theorem front_id {l : List P} (h : Fro l) : front l = l := front_uniq h (fun p hp => ⟨p, hp, dom_refl p⟩) fun q hq => ⟨q, hq, dom_refl q⟩
/-! ### put together -/
def add (p q : P) : P := (p.1 + q.1, p.2 + q.2)
def sums (a b : List P) : List P := (a.map fun p => b.map (add p)).flatten
theorem mem_sums {a b : List P} {x : P} : x ∈ sums a b ↔ ∃ p ∈ a, ∃ q ∈ b, x = add p q := by
  unfold sums
  rw [List.mem_flatten]
  constructor
  · rintro ⟨l, hl, hx⟩
    obtain ⟨p, hp, rfl⟩ := List.mem_map.mp hl
    obtain ⟨q, hq, rfl⟩ := List.mem_map.mp hx
    exact ⟨p, hp, q, hq, rfl⟩
  · rintro ⟨p, hp, q, hq, rfl⟩
    exact ⟨_, List.mem_map.mpr ⟨p, hp, rfl⟩, List.mem_map.mpr ⟨q, hq, rfl⟩⟩
theorem sums_len (a b : List P) : (sums a b).length = a.length * b.length := by
  unfold sums
  induction a with
  | nil => simp
  | cons p a ih => simp only [List.map_cons, List.flatten_cons, List.length_append, List.length_map, ih, List.length_cons, Nat.succ_mul]; omega
def put (a b : List P) : List P := front (sums a b)
theorem add_comm (p q : P) : add p q = add q p := Prod.ext (Int.add_comm _ _) (Int.add_comm _ _)
theorem add_assoc (p q r : P) : add (add p q) r = add p (add q r) := Prod.ext (Int.add_assoc _ _ _) (Int.add_assoc _ _ _)
theorem add_dom {p p' q q' : P} (h : dom p p') (g : dom q q') : dom (add p q) (add p' q') := ⟨Int.add_le_add h.1 g.1, Int.add_le_add h.2 g.2⟩
theorem put_comm (a b : List P) : put a b = put b a := by
  refine front_eq (fun x hx => ?_) fun x hx => ?_ <;>
    (obtain ⟨p, hp, q, hq, rfl⟩ := mem_sums.mp hx; exact ⟨_, mem_sums.mpr ⟨q, hq, p, hp, rfl⟩, by rw [add_comm]; exact dom_refl _⟩)
theorem put_assoc (a b c : List P) : put (put a b) c = put a (put b c) := by
  refine front_eq (fun x hx => ?_) fun x hx => ?_
  · obtain ⟨s, hs, r, hr, rfl⟩ := mem_sums.mp hx
    obtain ⟨p, hp, q, hq, rfl⟩ := mem_sums.mp (front_mem hs)
    obtain ⟨t, ht, d⟩ := front_dom (mem_sums.mpr ⟨q, hq, r, hr, rfl⟩ : add q r ∈ sums b c)
    exact ⟨_, mem_sums.mpr ⟨p, hp, t, ht, rfl⟩, by rw [add_assoc]; exact add_dom (dom_refl p) d⟩
  · obtain ⟨p, hp, s, hs, rfl⟩ := mem_sums.mp hx
    obtain ⟨q, hq, r, hr, rfl⟩ := mem_sums.mp (front_mem hs)
    obtain ⟨t, ht, d⟩ := front_dom (mem_sums.mpr ⟨p, hp, q, hq, rfl⟩ : add p q ∈ sums a b)
    exact ⟨_, mem_sums.mpr ⟨t, ht, r, hr, rfl⟩, by rw [← add_assoc]; exact add_dom d (dom_refl r)⟩
theorem add_zero (p : P) : add p (0, 0) = p := Prod.ext (Int.add_zero _) (Int.add_zero _)
theorem sums_one (a : List P) (q : P) : sums a [q] = a.map fun p => add p q := by
  unfold sums
  induction a with
  | nil => rfl
  | cons p a ih =>
    simp only [List.map_cons, List.flatten_cons, List.map_nil, List.singleton_append] at ih ⊢
    rw [ih]
theorem put_zero {a : List P} (h : Fro a) : put a [(0, 0)] = a := by
  unfold put
  rw [sums_one]
  have : (a.map fun p => add p (0, 0)) = a := by
    conv => rhs; rw [← List.map_id a]
    exact List.map_congr_left fun p _ => add_zero p
  rw [this, front_id h]
theorem zero_put {a : List P} (h : Fro a) : put [(0, 0)] a = a := by rw [put_comm, put_zero h]
/-! either -/
theorem ei_comm (a b : List P) : front (a ++ b) = front (b ++ a) :=
  front_eq (fun q hq => ⟨q, by simp only [List.mem_append] at *; exact hq.symm, dom_refl q⟩) fun q hq => ⟨q, by simp only [List.mem_append] at *; exact hq.symm, dom_refl q⟩
theorem ei_assoc (a b c : List P) : front (front (a ++ b) ++ c) = front (a ++ front (b ++ c)) := by
  have key1 : ∀ q ∈ front (a ++ b) ++ c, ∃ p ∈ a ++ (b ++ c), dom p q := fun q hq => by
    rcases List.mem_append.mp hq with h | h
    · exact ⟨q, by rw [← List.append_assoc]; exact List.mem_append_left _ (front_mem h), dom_refl q⟩
    · exact ⟨q, by simp [h], dom_refl q⟩
  have key2 : ∀ q ∈ a ++ (b ++ c), ∃ p ∈ front (a ++ b) ++ c, dom p q := fun q hq => by
    rw [← List.append_assoc] at hq
    rcases List.mem_append.mp hq with h | h
    · obtain ⟨p, hp, d⟩ := front_dom h
      exact ⟨p, List.mem_append_left _ hp, d⟩
    · exact ⟨q, List.mem_append_right _ h, dom_refl q⟩
  have key3 : ∀ q ∈ a ++ front (b ++ c), ∃ p ∈ a ++ (b ++ c), dom p q := fun q hq => by
    rcases List.mem_append.mp hq with h | h
    · exact ⟨q, List.mem_append_left _ h, dom_refl q⟩
    · exact ⟨q, List.mem_append_right _ (front_mem h), dom_refl q⟩
  have key4 : ∀ q ∈ a ++ (b ++ c), ∃ p ∈ a ++ front (b ++ c), dom p q := fun q hq => by
    rcases List.mem_append.mp hq with h | h
    · exact ⟨q, List.mem_append_left _ h, dom_refl q⟩
    · obtain ⟨p, hp, d⟩ := front_dom h
      exact ⟨p, List.mem_append_right _ hp, d⟩
  rw [front_eq key1 key2, front_eq key3 key4]
theorem ei_self {a : List P} (h : Fro a) : front (a ++ a) = a :=
  front_uniq h (fun p hp => ⟨p, List.mem_append_left _ hp, dom_refl p⟩) fun q hq => by
    rcases List.mem_append.mp hq with h | h <;> exact ⟨q, h, dom_refl q⟩
theorem put_ei (a b c : List P) : put a (front (b ++ c)) = front (put a b ++ put a c) := by
  refine front_eq (fun x hx => ?_) fun x hx => ?_
  · obtain ⟨p, hp, s, hs, rfl⟩ := mem_sums.mp hx
    rcases List.mem_append.mp (front_mem hs) with h | h
    · obtain ⟨t, ht, d⟩ := front_dom (mem_sums.mpr ⟨p, hp, s, h, rfl⟩ : add p s ∈ sums a b)
      exact ⟨t, List.mem_append_left _ ht, d⟩
    · obtain ⟨t, ht, d⟩ := front_dom (mem_sums.mpr ⟨p, hp, s, h, rfl⟩ : add p s ∈ sums a c)
      exact ⟨t, List.mem_append_right _ ht, d⟩
  · have : ∃ p ∈ a, ∃ s ∈ b ++ c, x = add p s := by
      rcases List.mem_append.mp hx with h | h
      · obtain ⟨p, hp, s, hs, rfl⟩ := mem_sums.mp (front_mem h)
        exact ⟨p, hp, s, List.mem_append_left _ hs, rfl⟩
      · obtain ⟨p, hp, s, hs, rfl⟩ := mem_sums.mp (front_mem h)
        exact ⟨p, hp, s, List.mem_append_right _ hs, rfl⟩
    obtain ⟨p, hp, s, hs, rfl⟩ := this
    obtain ⟨t, ht, d⟩ := front_dom hs
    exact ⟨_, mem_sums.mpr ⟨p, hp, t, ht, rfl⟩, add_dom (dom_refl p) d⟩
/-! moved and stretched -/
structure Mono (f : P → P) : Prop where
  dom : ∀ p q, M.Fo.dom p q → M.Fo.dom (f p) (f q)
  lt : ∀ p q : P, p.1 < q.1 ∧ q.2 < p.2 → (f p).1 < (f q).1 ∧ (f q).2 < (f p).2
theorem Mono.fro {f : P → P} (m : Mono f) {l : List P} (h : Fro l) : Fro (l.map f) := List.pairwise_map.mpr (h.imp fun h => m.lt _ _ h)
theorem Mono.front {f : P → P} (m : Mono f) (r : List P) : M.Fo.front (r.map f) = (M.Fo.front r).map f :=
  front_uniq (m.fro (front_fro r)) (fun p hp => by
    obtain ⟨q, hq, rfl⟩ := List.mem_map.mp hp
    exact ⟨f q, List.mem_map.mpr ⟨q, front_mem hq, rfl⟩, dom_refl _⟩) fun q hq => by
    obtain ⟨s, hs, rfl⟩ := List.mem_map.mp hq
    obtain ⟨p, hp, d⟩ := front_dom hs
    exact ⟨f p, List.mem_map.mpr ⟨p, hp, rfl⟩, m.dom _ _ d⟩
def mv (t : P) (p : P) : P := add p t
def sc (s l : Int) (p : P) : P := (s * p.1, l * p.2)
theorem mv_mono (t : P) : Mono (mv t) := ⟨fun p q d => add_dom d (dom_refl t), fun p q h => by simp only [mv, add]; omega⟩
theorem sc_mono {s l : Int} (hs : 0 < s) (hl : 0 < l) : Mono (sc s l) :=
  ⟨fun p q d => ⟨Int.mul_le_mul_of_nonneg_left d.1 (by omega), Int.mul_le_mul_of_nonneg_left d.2 (by omega)⟩, fun p q h => ⟨Int.mul_lt_mul_of_pos_left h.1 hs, Int.mul_lt_mul_of_pos_left h.2 hl⟩⟩
theorem put_mv (t : P) (a b : List P) : put (a.map (mv t)) b = (put a b).map (mv t) := by
  rw [put, put, ← (mv_mono t).front]
  have e : sums (a.map (mv t)) b = (sums a b).map (mv t) := by
    unfold sums
    rw [List.map_flatten, List.map_map, List.map_map]
    congr 1
    apply List.map_congr_left
    intro p _
    simp only [Function.comp, List.map_map]
    apply List.map_congr_left
    intro q _
    simp only [Function.comp, mv]
    rw [add_assoc, add_assoc, add_comm t q]
  rw [e]
theorem put_sc {s l : Int} (hs : 0 < s) (hl : 0 < l) (a b : List P) : put (a.map (sc s l)) (b.map (sc s l)) = (put a b).map (sc s l) := by
  rw [put, put, ← (sc_mono hs hl).front]
  have e : sums (a.map (sc s l)) (b.map (sc s l)) = (sums a b).map (sc s l) := by
    unfold sums
    rw [List.map_flatten, List.map_map, List.map_map]
    congr 1
    apply List.map_congr_left
    intro p _
    simp only [Function.comp, List.map_map]
    apply List.map_congr_left
    intro q _
    simp only [Function.comp, sc, add, Int.mul_add]
  rw [e]
theorem put_one {a : List P} (h : Fro a) (t : P) : put a [t] = a.map (mv t) := by
  rw [put, sums_one]
  exact front_id ((mv_mono t).fro h)
end M.Fo


set_option Elab.async false
set_option linter.all false
set_option maxRecDepth 100000
set_option maxHeartbeats 4000000
/-! Hulls, plainly. -/
namespace M.Fo
open M
def wt (a b : Int) (p : P) : Int := a * p.1 + b * p.2
/-- m is below the line from o to n -/
def below (o m n : P) : Prop := (o.2 - n.2) * (m.1 - o.1) < (o.2 - m.2) * (n.1 - o.1)
instance (o m n : P) : Decidable (below o m n) := inferInstanceAs (Decidable (_ < _))
/-- the stack, its last first -/
def popS (n : P) : List P → List P
  | m :: o :: r => if below o m n then m :: o :: r else popS n (o :: r)
  | s => s
def push (st : List P) (n : P) : List P := n :: popS n st
def stk (l : List P) : List P := l.foldl push []
def hull (l : List P) : List P := (stk l).reverse
/-- falling in bits, rising in loss: a front from its end -/
def Rev (l : List P) : Prop := l.Pairwise fun p q => q.1 < p.1 ∧ p.2 < q.2
/-- the only one of l that weighs least -/
def Only (a b : Int) (l : List P) (p : P) : Prop := p ∈ l ∧ ∀ q ∈ l, q ≠ p → wt a b p < wt a b q
def Exp (l : List P) (p : P) : Prop := ∃ a b : Int, 0 < a ∧ 0 < b ∧ Only a b l p
theorem pop_sub (n : P) : ∀ (st : List P), ∃ k, popS n st = st.drop k
  | [] => ⟨0, rfl⟩
  | [m] => ⟨0, rfl⟩
  | m :: o :: r => by
    unfold popS
    split
    · exact ⟨0, rfl⟩
    · obtain ⟨k, h⟩ := pop_sub n (o :: r)
      exact ⟨k + 1, by rw [h]; rfl⟩
theorem pop_mem {n : P} {st : List P} {p : P} (h : p ∈ popS n st) : p ∈ st := by
  obtain ⟨k, e⟩ := pop_sub n st
  rw [e] at h
  exact List.mem_of_mem_drop h
theorem pop_ne (n : P) : ∀ (st : List P), st ≠ [] → popS n st ≠ []
  | [], h => absurd rfl h
  | [m], _ => by simp [popS]
  | m :: o :: r, _ => by
    unfold popS
    split
    · simp
    · exact pop_ne n (o :: r) (by simp)
theorem pop_rev {n : P} {st : List P} (h : Rev st) : Rev (popS n st) := by
  obtain ⟨k, e⟩ := pop_sub n st
  rw [e]
  exact List.Pairwise.sublist (List.drop_sublist k st) h
/-- one that is not below weighs no less than some mean of its neighbours -/
theorem not_below {o m n : P} (a b : Int) (hb : 0 < b) (h : ¬ below o m n) : wt a b o * (n.1 - m.1) + wt a b n * (m.1 - o.1) ≤ wt a b m * (n.1 - o.1) := by
  unfold below at h
  have h1 : (o.2 - m.2) * (n.1 - o.1) ≤ (o.2 - n.2) * (m.1 - o.1) := by omega
  have h2 := Int.mul_le_mul_of_nonneg_left h1 (show 0 ≤ b by omega)
  unfold wt
  grind
theorem mean_ge {x y m u v w : Int} (hu : 0 < u) (hv : 0 < v) (hw : w = u + v) (h : x * u + y * v ≤ m * w) (c : Int) (hx : c ≤ x) (hy : c ≤ y) : c ≤ m := by
  by_cases hm : m < c
  · exfalso
    have h1 := Int.mul_le_mul_of_nonneg_right hx (show 0 ≤ u by omega)
    have h2 := Int.mul_le_mul_of_nonneg_right hy (show 0 ≤ v by omega)
    have h3 := Int.mul_lt_mul_of_pos_right hm (show 0 < w by omega)
    subst hw
    grind
  · omega
theorem mean_gt {x y m u v w : Int} (hu : 0 < u) (hv : 0 < v) (hw : w = u + v) (h : x * u + y * v ≤ m * w) (c : Int) (hx : c ≤ x) (hy : c ≤ y) (hs : c < x ∨ c < y) : c < m := by
  by_cases hm : c < m
  · exact hm
  · exfalso
    have hm : m ≤ c := by omega
    have h3 := Int.mul_le_mul_of_nonneg_right hm (show 0 ≤ w by omega)
    subst hw
    rcases hs with hs | hs
    · have h1 := Int.mul_lt_mul_of_pos_right hs hu
      have h2 := Int.mul_le_mul_of_nonneg_right hy (show 0 ≤ v by omega)
      grind
    · have h1 := Int.mul_le_mul_of_nonneg_right hx (show 0 ≤ u by omega)
      have h2 := Int.mul_lt_mul_of_pos_right hs hv
      grind
/-- what was popped weighs no less than what is left -/
theorem pop_low (n : P) (a b : Int) (hb : 0 < b) : ∀ (st : List P), Rev (n :: st) → ∀ q ∈ st, ∃ s ∈ n :: popS n st, wt a b s ≤ wt a b q
  | [], _, q, h => by simp at h
  | [m], _, q, h => ⟨q, by simp only [popS]; exact List.mem_cons_of_mem _ h, Int.le_refl _⟩
  | m :: o :: r, hr, q, h => by
    unfold popS
    by_cases hbl : below o m n
    · rw [if_pos hbl]
      exact ⟨q, List.mem_cons_of_mem _ h, Int.le_refl _⟩
    · rw [if_neg hbl]
      have hr1 := List.pairwise_cons.mp hr
      have hr2 := List.pairwise_cons.mp hr1.2
      have hr' : Rev (n :: o :: r) := List.pairwise_cons.mpr ⟨fun x hx => hr1.1 x (List.mem_cons_of_mem _ hx), hr2.2⟩
      have ih := pop_low n a b hb (o :: r) hr'
      rcases List.mem_cons.mp h with rfl | h
      · obtain ⟨s, hs, hle⟩ := ih o (by simp)
        have e1 := (hr1.1 q (by simp)).1
        have e2 := (hr2.1 o (by simp)).1
        have nb := not_below a b hb hbl
        rcases Int.le_total (wt a b o) (wt a b n) with z | z
        · exact ⟨s, hs, Int.le_trans hle (mean_ge (by omega) (by omega) (by omega) nb _ (Int.le_refl _) z)⟩
        · exact ⟨n, by simp, mean_ge (by omega) (by omega) (by omega) nb _ z (Int.le_refl _)⟩
      · exact ih q h
/-- the only least one of what is left is the only one of all -/
theorem pop_only (n : P) (a b : Int) (hb : 0 < b) : ∀ (st : List P), Rev (n :: st) → ∀ p, Only a b (n :: popS n st) p → Only a b (n :: st) p
  | [], _, p, h => h
  | [m], _, p, h => h
  | m :: o :: r, hr, p, h => by
    unfold popS at h
    by_cases hbl : below o m n
    · rw [if_pos hbl] at h; exact h
    · rw [if_neg hbl] at h
      have hr1 := List.pairwise_cons.mp hr
      have hr2 := List.pairwise_cons.mp hr1.2
      have hr' : Rev (n :: o :: r) := List.pairwise_cons.mpr ⟨fun x hx => hr1.1 x (List.mem_cons_of_mem _ hx), hr2.2⟩
      obtain ⟨h1, h2⟩ := pop_only n a b hb (o :: r) hr' p h
      have e1 := (hr1.1 m (by simp)).1
      have e2 := (hr2.1 o (by simp)).1
      have nb := not_below a b hb hbl
      refine ⟨?_, fun q hq hne => ?_⟩
      · rcases List.mem_cons.mp h1 with rfl | h1
        · simp
        · exact List.mem_cons_of_mem _ (List.mem_cons_of_mem _ h1)
      · rcases List.mem_cons.mp hq with rfl | hq
        · exact h2 q (by simp) hne
        · rcases List.mem_cons.mp hq with rfl | hq
          · have ho : wt a b p ≤ wt a b o := by
              by_cases e : o = p
              · rw [e]; exact Int.le_refl _
              · exact Int.le_of_lt (h2 o (by simp) e)
            have hn : wt a b p ≤ wt a b n := by
              by_cases e : n = p
              · rw [e]; exact Int.le_refl _
              · exact Int.le_of_lt (h2 n (by simp) e)
            refine mean_gt (by omega) (by omega) (by omega) nb _ ho hn ?_
            by_cases e : o = p
            · right
              refine h2 n (by simp) ?_
              intro z
              rw [← e] at z
              rw [z] at e1
              omega
            · exact .inl (h2 o (by simp) e)
          · exact h2 q (List.mem_cons_of_mem _ hq) hne
/-- the only least one is never popped -/
theorem pop_keeps (n : P) (a b : Int) (hb : 0 < b) : ∀ (st : List P), Rev (n :: st) → ∀ p, Only a b (n :: st) p → Only a b (n :: popS n st) p
  | [], _, p, h => h
  | [m], _, p, h => h
  | m :: o :: r, hr, p, h => by
    unfold popS
    by_cases hbl : below o m n
    · rw [if_pos hbl]; exact h
    · rw [if_neg hbl]
      have hr1 := List.pairwise_cons.mp hr
      have hr2 := List.pairwise_cons.mp hr1.2
      have hr' : Rev (n :: o :: r) := List.pairwise_cons.mpr ⟨fun x hx => hr1.1 x (List.mem_cons_of_mem _ hx), hr2.2⟩
      have e1 := (hr1.1 m (by simp)).1
      have e2 := (hr2.1 o (by simp)).1
      have nb := not_below a b hb hbl
      have hpm : p ≠ m := by
        rintro rfl
        have ho := h.2 o (by simp) (fun z => by rw [z] at e2; omega)
        have hn := h.2 n (by simp) (fun z => by rw [z] at e1; omega)
        have := mean_gt (c := wt a b p) (by omega) (by omega) (by omega) nb (Int.le_of_lt ho) (Int.le_of_lt hn) (.inl ho)
        omega
      refine pop_keeps n a b hb (o :: r) hr' p ⟨?_, fun q hq hne => h.2 q ?_ hne⟩
      · rcases List.mem_cons.mp h.1 with e | h1
        · rw [e]; simp
        · rcases List.mem_cons.mp h1 with e | h1
          · exact absurd e hpm
          · exact List.mem_cons_of_mem _ h1
      · rcases List.mem_cons.mp hq with e | hq
        · rw [e]; simp
        · exact List.mem_cons_of_mem _ (List.mem_cons_of_mem _ hq)
/-- neighbours in threes: the middle one is below -/
def Conv : List P → Prop
  | m :: o :: x :: r => below x o m ∧ Conv (o :: x :: r)
  | _ => True
theorem Conv.tail {m : P} {st : List P} (h : Conv (m :: st)) : Conv st := by
  match st, h with
  | [], _ => trivial
  | [_], _ => trivial
  | _ :: _ :: _, h => exact h.2
theorem Conv.drop : ∀ (k : Nat) {st : List P}, Conv st → Conv (st.drop k)
  | 0, st, h => by simpa using h
  | k + 1, [], _ => trivial
  | k + 1, m :: st, h => Conv.drop k h.tail
theorem pop_conv (n : P) : ∀ (st : List P), Conv st → Conv (n :: popS n st)
  | [], _ => trivial
  | [m], _ => trivial
  | m :: o :: r, h => by
    unfold popS
    by_cases hbl : below o m n
    · rw [if_pos hbl]; exact ⟨hbl, h⟩
    · rw [if_neg hbl]; exact pop_conv n (o :: r) h.tail
/-! what stands of the stack, all along -/
structure Inv (L st : List P) : Prop where
  sub : ∀ p ∈ st, p ∈ L
  rev : Rev st
  conv : Conv st
  low : ∀ a b : Int, 0 < a → 0 < b → ∀ q ∈ L, ∃ s ∈ st, wt a b s ≤ wt a b q
  only : ∀ a b : Int, 0 < a → 0 < b → ∀ p, Only a b st p ↔ Only a b L p
theorem only_app {a b : Int} {L st : List P} {n : P} (low : ∀ q ∈ L, ∃ s ∈ st, wt a b s ≤ wt a b q) (sub : ∀ p ∈ st, p ∈ L) (only : ∀ p, Only a b st p ↔ Only a b L p) (hn : n ∉ L) (p : P) : Only a b (n :: st) p ↔ Only a b (L ++ [n]) p := by
  constructor
  · rintro ⟨h1, h2⟩
    rcases List.mem_cons.mp h1 with e | h1
    · subst e
      refine ⟨by simp, fun q hq hne => ?_⟩
      rcases List.mem_append.mp hq with hq | hq
      · obtain ⟨s, hs, hle⟩ := low q hq
        have : s ≠ p := fun z => hn (by rw [← z]; exact sub s hs)
        have := h2 s (List.mem_cons_of_mem _ hs) this
        omega
      · exact absurd (List.mem_singleton.mp hq) hne
    · have h3 := (only p).mp ⟨h1, fun q hq hne => h2 q (List.mem_cons_of_mem _ hq) hne⟩
      refine ⟨List.mem_append_left _ h3.1, fun q hq hne => ?_⟩
      rcases List.mem_append.mp hq with hq | hq
      · exact h3.2 q hq hne
      · rw [List.mem_singleton] at hq
        subst hq
        exact h2 q (by simp) hne
  · rintro ⟨h1, h2⟩
    rcases List.mem_append.mp h1 with h1 | h1
    · have h3 := (only p).mpr ⟨h1, fun q hq hne => h2 q (List.mem_append_left _ hq) hne⟩
      refine ⟨List.mem_cons_of_mem _ h3.1, fun q hq hne => ?_⟩
      rcases List.mem_cons.mp hq with e | hq
      · subst e; exact h2 q (by simp) hne
      · exact h3.2 q hq hne
    · rw [List.mem_singleton] at h1
      subst h1
      refine ⟨by simp, fun q hq hne => ?_⟩
      rcases List.mem_cons.mp hq with e | hq
      · exact absurd e hne
      · exact h2 q (List.mem_append_left _ (sub q hq)) hne
theorem inv_push {L st : List P} {n : P} (i : Inv L st) (h : Fro (L ++ [n])) : Inv (L ++ [n]) (push st n) := by
  have hh : ∀ q ∈ L, q.1 < n.1 ∧ n.2 < q.2 := fun q hq => (List.pairwise_append.mp h).2.2 q hq n (by simp)
  have hn : n ∉ L := fun hm => by have := hh n hm; omega
  have hr : Rev (n :: st) := List.pairwise_cons.mpr ⟨fun q hq => hh q (i.sub q hq), i.rev⟩
  refine ⟨fun p hp => ?_, ?_, pop_conv n st i.conv, fun a b ha hb q hq => ?_, fun a b ha hb p => ?_⟩
  · rcases List.mem_cons.mp hp with e | hp
    · rw [e]; simp
    · exact List.mem_append_left _ (i.sub p (pop_mem hp))
  · exact List.pairwise_cons.mpr ⟨fun q hq => hh q (i.sub q (pop_mem hq)), pop_rev i.rev⟩
  · rcases List.mem_append.mp hq with hq | hq
    · obtain ⟨s, hs, hle⟩ := i.low a b ha hb q hq
      obtain ⟨t, ht, hle2⟩ := pop_low n a b hb st hr s hs
      exact ⟨t, ht, Int.le_trans hle2 hle⟩
    · rw [List.mem_singleton] at hq
      exact ⟨q, by rw [hq]; simp [push], Int.le_refl _⟩
  · rw [← only_app (i.low a b ha hb) i.sub (i.only a b ha hb) hn p]
    exact ⟨pop_only n a b hb st hr p, pop_keeps n a b hb st hr p⟩
theorem inv_stk : ∀ (l L st : List P), Inv L st → Fro (L ++ l) → Inv (L ++ l) (l.foldl push st)
  | [], L, st, i, _ => by simpa using i
  | n :: l, L, st, i, h => by
    have e : L ++ n :: l = (L ++ [n]) ++ l := by simp
    rw [e] at h ⊢
    exact inv_stk l (L ++ [n]) (push st n) (inv_push i (List.pairwise_append.mp h).1) h
theorem inv_of {l : List P} (h : Fro l) : Inv l (stk l) := by
  have := inv_stk l [] [] ⟨by simp, List.Pairwise.nil, trivial, by simp, fun a b _ _ p => Iff.rfl⟩ h
  exact this
/-! ### on a convex chain each one is the only one for some price -/
theorem slope_tr {a b c d e f : Int} (hb : 0 < b) (hd : 0 < d) (hf : 0 < f) (h : c * b < a * d) (g : e * d < c * f) : e * b < a * f := by
  have h1 := Int.mul_lt_mul_of_pos_right h hf
  have h2 := Int.mul_lt_mul_of_pos_right g hb
  have h3 : (e * b) * d < (a * f) * d := by grind
  exact Int.lt_of_mul_lt_mul_right h3 (by omega)
/-- the steepness from o to m, as loss over bits -/
def st1 (m o : P) : Int × Int := (m.1 - o.1, o.2 - m.2)
/-- the next one is steeper (its slope is greater) -/
theorem conv_edge {m o x : P} (h : below x o m) : (o.2 - m.2) * (o.1 - x.1) < (x.2 - o.2) * (m.1 - o.1) := by
  unfold below at h
  grind
/-- below a slope, all further edges weigh down -/
theorem chain_up {a b : Int} (hb : 0 < b) : ∀ (r : List P) (m o : P), Rev (m :: o :: r) → Conv (m :: o :: r) → a * (m.1 - o.1) < b * (o.2 - m.2) → ∀ q ∈ o :: r, wt a b m < wt a b q
  | r, m, o, hr, hc, h, q, hq => by
    have hr1 := List.pairwise_cons.mp hr
    have hmo : wt a b m < wt a b o := by unfold wt; grind
    rcases List.mem_cons.mp hq with e | hq
    · rw [e]; exact hmo
    · match r, hr, hc, hq with
      | x :: r, hr, hc, hq =>
        have hr2 := List.pairwise_cons.mp hr1.2
        have e1 := (hr1.1 o (by simp)).1
        have e2 := (hr2.1 x (by simp)).1
        have hs : a * (o.1 - x.1) < b * (x.2 - o.2) := by
          have := slope_tr (a := x.2 - o.2) (b := o.1 - x.1) (c := o.2 - m.2) (d := m.1 - o.1) (e := a) (f := b) (by omega) (by omega) hb (conv_edge hc.1) (by rw [Int.mul_comm (o.2 - m.2)]; exact h)
          rw [Int.mul_comm (x.2 - o.2)] at this
          exact this
        have := chain_up hb r o x hr1.2 hc.2 hs q hq
        omega
/-- steeper ones ahead weigh up -/
theorem chain_down {a b : Int} (hb : 0 < b) : ∀ (u : List P) (p y : P) (r : List P), Rev (u ++ y :: p :: r) → Conv (u ++ y :: p :: r) → b * (p.2 - y.2) < a * (y.1 - p.1) → ∀ q ∈ u ++ [y], wt a b p < wt a b q
  | [], p, y, r, hr, hc, h, q, hq => by
    have : q = y := by simpa using hq
    subst this
    unfold wt; grind
  | v :: u, p, y, r, hr, hc, h, q, hq => by
    have hr1 := List.pairwise_cons.mp hr
    have ih := chain_down hb u p y r hr1.2 hc.tail h
    rcases List.mem_cons.mp hq with e | hq
    · subst e
      -- the edge from q to its next
      obtain ⟨z, w, hz⟩ : ∃ z w, u ++ y :: p :: r = z :: w := by
        cases u with
        | nil => exact ⟨y, p :: r, rfl⟩
        | cons z u => exact ⟨z, u ++ y :: p :: r, rfl⟩
      have hzm : z ∈ u ++ [y] := by
        cases u with
        | nil => simp at hz; simp [hz.1]
        | cons z' u => simp at hz; simp [hz.1]
      have hpz := ih z hzm
      -- all edges from q down to y are flatter than y's to p
      have hfl : ∀ (u : List P) (q : P), Rev (q :: (u ++ y :: p :: r)) → Conv (q :: (u ++ y :: p :: r)) → ∀ z w, u ++ y :: p :: r = z :: w → b * (z.2 - q.2) < a * (q.1 - z.1) := by
        intro u
        induction u with
        | nil =>
          intro q hr hc z w hz
          simp only [List.nil_append, List.cons.injEq] at hz
          obtain ⟨rfl, rfl⟩ := hz
          have g1 := List.pairwise_cons.mp hr
          have g2 := List.pairwise_cons.mp g1.2
          have e1 := (g1.1 y (by simp)).1
          have e2 := (g2.1 p (by simp)).1
          have hcc : Conv (q :: y :: p :: r) := hc
          have := slope_tr (a := a) (b := b) (c := p.2 - y.2) (d := y.1 - p.1) (e := y.2 - q.2) (f := q.1 - y.1) hb (by omega) (by omega) (by rw [Int.mul_comm]; exact h) (conv_edge hcc.1)
          rw [Int.mul_comm b]
          exact this
        | cons z' u ih =>
          intro q hr hc z w hz
          simp only [List.cons_append, List.cons.injEq] at hz
          obtain ⟨rfl, rfl⟩ := hz
          have g1 := List.pairwise_cons.mp hr
          obtain ⟨z2, w2, hz2⟩ : ∃ z w, u ++ y :: p :: r = z :: w := by
            cases u with
            | nil => exact ⟨y, p :: r, rfl⟩
            | cons z u => exact ⟨z, u ++ y :: p :: r, rfl⟩
          have i2 := ih z' g1.2 hc.tail z2 w2 hz2
          rw [List.cons_append, hz2] at hr hc
          have g1 := List.pairwise_cons.mp hr
          have g2 := List.pairwise_cons.mp g1.2
          have e1 := (g1.1 z' (by simp)).1
          have e2 := (g2.1 z2 (by simp)).1
          have hcc : Conv (q :: z' :: z2 :: w2) := hc
          have := slope_tr (a := a) (b := b) (c := z2.2 - z'.2) (d := z'.1 - z2.1) (e := z'.2 - q.2) (f := q.1 - z'.1) hb (by omega) (by omega) (by rw [Int.mul_comm]; exact i2) (conv_edge hcc.1)
          rw [Int.mul_comm b]
          exact this
      have := hfl u q hr hc z w hz
      have hqz : wt a b z < wt a b q := by unfold wt; grind
      omega
    · exact ih q hq
theorem conv_exp {st : List P} (hr : Rev st) (hc : Conv st) {p : P} (hp : p ∈ st) : Exp st p := by
  obtain ⟨u, r, rfl⟩ := List.append_of_mem hp
  -- a price for which what is ahead and what is behind weighs more
  have key : ∃ a b : Int, 0 < a ∧ 0 < b ∧ (∀ o s, r = o :: s → a * (p.1 - o.1) < b * (o.2 - p.2)) ∧ ∀ v y, u = v ++ [y] → b * (p.2 - y.2) < a * (y.1 - p.1) := by
    have hpo : ∀ o s, r = o :: s → o.1 < p.1 ∧ p.2 < o.2 := fun o s e => by
      have := (List.pairwise_append.mp hr).2.1
      exact (List.pairwise_cons.mp this).1 o (by rw [e]; simp)
    have hyp : ∀ v y, u = v ++ [y] → p.1 < y.1 ∧ y.2 < p.2 := fun v y e => (List.pairwise_append.mp hr).2.2 y (by rw [e]; simp) p (by simp)
    rcases List.eq_nil_or_concat u with rfl | ⟨v, y, rfl⟩
    · cases r with
      | nil => exact ⟨1, 1, by decide, by decide, fun o s e => (nomatch e), fun v y e => absurd e (by simp)⟩
      | cons o s =>
        have := hpo o s rfl
        refine ⟨o.2 - p.2, p.1 - o.1 + 1, by omega, by omega, fun o' s' e => ?_, fun v y e => by simp at e⟩
        cases e
        grind
    · have h1 := hyp v y (by simp)
      cases r with
      | nil =>
        refine ⟨p.2 - y.2 + 1, y.1 - p.1, by omega, by omega, fun o s e => (nomatch e), fun v' y' e => ?_⟩
        have : y = y' := (by simpa using e : v = v' ∧ y = y').2
        subst this
        grind
      | cons o s =>
        have h2 := hpo o s rfl
        refine ⟨(o.2 - p.2) + (p.2 - y.2), (p.1 - o.1) + (y.1 - p.1), by omega, by omega, fun o' s' e => ?_, fun v' y' e => ?_⟩
        · cases e
          have hcc : ∀ (v : List P), Conv ((v ++ [y]) ++ p :: o :: s) → below o p y := by
            intro v
            induction v with
            | nil => intro h; exact h.1
            | cons z v ih => intro h; exact ih h.tail
          have := conv_edge (hcc v (by simpa using hc))
          grind
        · have : y = y' := (by simpa using e : v = v' ∧ y = y').2
          subst this
          have hcc : ∀ (v : List P), Conv ((v ++ [y]) ++ p :: o :: s) → below o p y := by
            intro v
            induction v with
            | nil => intro h; exact h.1
            | cons z v ih => intro h; exact ih h.tail
          have := conv_edge (hcc v (by simpa using hc))
          grind
  obtain ⟨a, b, ha, hb, k1, k2⟩ := key
  refine ⟨a, b, ha, hb, by simp, fun q hq hne => ?_⟩
  have hcr : Conv (p :: r) := by
    have := Conv.drop u.length hc
    rwa [List.drop_append, List.drop_length, Nat.sub_self, List.drop_zero, List.nil_append] at this
  rcases List.mem_append.mp hq with hq | hq
  · rcases List.eq_nil_or_concat u with rfl | ⟨v, y, rfl⟩
    · simp at hq
    · refine chain_down hb v p y r (by simpa using hr) (by simpa using hc) (k2 v y (by simp)) q (by simpa using hq)
  · rcases List.mem_cons.mp hq with e | hq
    · exact absurd e hne
    · cases r with
      | nil => simp at hq
      | cons o s => exact chain_up hb s p o (List.pairwise_append.mp hr).2.1 hcr (k1 o s rfl) q hq
/-- the hull's corners are the exposed ones -/
theorem hull_iff {l : List P} (h : Fro l) (p : P) : p ∈ hull l ↔ Exp l p := by
  have i := inv_of h
  unfold hull
  rw [List.mem_reverse]
  constructor
  · intro hp
    obtain ⟨a, b, ha, hb, ho⟩ := conv_exp i.rev i.conv hp
    exact ⟨a, b, ha, hb, (i.only a b ha hb p).mp ho⟩
  · rintro ⟨a, b, ha, hb, ho⟩
    exact ((i.only a b ha hb p).mpr ho).1
theorem hull_fro {l : List P} (h : Fro l) : Fro (hull l) := by
  have := (inv_of h).rev
  unfold hull Fro
  rw [List.pairwise_reverse]
  exact this
theorem hull_mem {l : List P} (h : Fro l) {p : P} (hp : p ∈ hull l) : p ∈ l := (inv_of h).sub p (List.mem_reverse.mp hp)
theorem hull_eq {l m : List P} (hl : Fro l) (hm : Fro m) (h : ∀ p, Exp l p ↔ Exp m p) : hull l = hull m :=
  asc_ext (hull_fro hl).asc (hull_fro hm).asc fun p => by rw [hull_iff hl, hull_iff hm, h]
theorem only_hull {l : List P} (h : Fro l) {a b : Int} (ha : 0 < a) (hb : 0 < b) (p : P) : Only a b (hull l) p ↔ Only a b l p := by
  have i := inv_of h
  rw [← i.only a b ha hb p]
  unfold Only hull
  simp only [List.mem_reverse]
theorem hull_hull {l : List P} (h : Fro l) : hull (hull l) = hull l :=
  hull_eq (hull_fro h) h fun p => ⟨fun ⟨a, b, ha, hb, o⟩ => ⟨a, b, ha, hb, (only_hull h ha hb p).mp o⟩, fun ⟨a, b, ha, hb, o⟩ => ⟨a, b, ha, hb, (only_hull h ha hb p).mpr o⟩⟩
theorem hull_ne {l : List P} (h : l ≠ []) : hull l ≠ [] := by
  have : ∀ (l st : List P), st ≠ [] → l.foldl push st ≠ [] := by
    intro l
    induction l with
    | nil => intro st h; exact h
    | cons n l ih => intro st _; exact ih _ (by simp [push])
  cases l with
  | nil => exact absurd rfl h
  | cons n l =>
    unfold hull stk
    intro e
    exact this l (push [] n) (by simp [push]) (by simpa using e)
end M.Fo


set_option Elab.async false
set_option linter.all false
set_option maxRecDepth 100000
set_option maxHeartbeats 4000000
/-! Hulls put together; the best at a price. -/
namespace M.Fo
open M
/-! ### chains of steps -/
def shift (p t : P) : P := (p.1 + t.1, p.2 - t.2)
def chain : P → List P → List P
  | b, [] => [b]
  | b, t :: s => b :: chain (shift b t) s
def steps : List P → List P
  | p :: q :: r => (q.1 - p.1, p.2 - q.2) :: steps (q :: r)
  | _ => []
theorem chain_steps : ∀ (p : P) (r : List P), chain p (steps (p :: r)) = p :: r
  | p, [] => rfl
  | p, q :: r => by
    unfold steps chain
    have : shift p (q.1 - p.1, p.2 - q.2) = q := Prod.ext (by simp only [shift]; omega) (by simp only [shift]; omega)
    rw [this, chain_steps q r]
/-- g is no steeper than f -/
def Le (f g : P) : Prop := g.2 * f.1 ≤ f.2 * g.1
abbrev Sorted (s : List P) : Prop := s.Pairwise Le
def Pos (s : List P) : Prop := ∀ t ∈ s, 0 < t.1 ∧ 0 < t.2
theorem steps_pos : ∀ {l : List P}, Fro l → Pos (steps l)
  | [], _, t, h => by simp [steps] at h
  | [_], _, t, h => by simp [steps] at h
  | p :: q :: r, h, t, ht => by
    have h1 := List.pairwise_cons.mp h
    rcases List.mem_cons.mp (show t ∈ (q.1 - p.1, p.2 - q.2) :: steps (q :: r) from ht) with e | ht
    · have := h1.1 q (by simp)
      rw [e]
      exact ⟨by show 0 < q.1 - p.1; omega, by show 0 < p.2 - q.2; omega⟩
    · exact steps_pos h1.2 t ht
theorem chain_head (b : P) (s : List P) : b ∈ chain b s := by cases s <;> simp [chain]
theorem chain_fro : ∀ (s : List P) (b : P), Pos s → Fro (chain b s) ∧ ∀ q ∈ chain b s, b.1 ≤ q.1 ∧ q.2 ≤ b.2
  | [], b, _ => ⟨List.pairwise_singleton _ _, fun q hq => by
    have : q = b := by simpa [chain] using hq
    subst this; exact ⟨Int.le_refl _, Int.le_refl _⟩⟩
  | t :: s, b, h => by
    have ht := h t (by simp)
    obtain ⟨h1, h2⟩ := chain_fro s (shift b t) fun u hu => h u (List.mem_cons_of_mem _ hu)
    have e1 : (shift b t).1 = b.1 + t.1 := rfl
    have e2 : (shift b t).2 = b.2 - t.2 := rfl
    refine ⟨List.pairwise_cons.mpr ⟨fun q hq => ?_, h1⟩, fun q hq => ?_⟩
    · have := h2 q hq
      omega
    · rcases List.mem_cons.mp (show q ∈ b :: chain (shift b t) s from hq) with e | hq
      · rw [e]; exact ⟨Int.le_refl _, Int.le_refl _⟩
      · have := h2 q hq
        omega
/-! what a price says of a step -/
def dd (a b : Int) (t : P) : Int := a * t.1 - b * t.2
theorem wt_shift (a b : Int) (p t : P) : wt a b (shift p t) = wt a b p + dd a b t := by unfold wt dd shift; grind
def sm (f : P → Int) (l : List P) : Int := (l.map f).sum
theorem sm_cons (f : P → Int) (t : P) (l : List P) : sm f (t :: l) = f t + sm f l := rfl
theorem sm_app (f : P → Int) : ∀ l m : List P, sm f (l ++ m) = sm f l + sm f m
  | [], m => by simp [sm]
  | t :: l, m => by rw [List.cons_append, sm_cons, sm_cons, sm_app f l m]; omega
theorem sm_perm (f : P → Int) {l m : List P} (h : l.Perm m) : sm f l = sm f m := by
  induction h with
  | nil => rfl
  | cons x _ ih => rw [sm_cons, sm_cons, ih]
  | swap x y l => rw [sm_cons, sm_cons, sm_cons, sm_cons]; omega
  | trans _ _ ih1 ih2 => exact ih1.trans ih2
/-- behind all steps that weigh less -/
def far (a b : Int) (p : P) (s : List P) : P := (p.1 + sm (·.1) (s.filter fun t => decide (dd a b t < 0)), p.2 - sm (·.2) (s.filter fun t => decide (dd a b t < 0)))
theorem far_perm {a b : Int} {p : P} {s m : List P} (h : s.Perm m) : far a b p s = far a b p m := by
  unfold far
  rw [sm_perm _ (h.filter _), sm_perm _ (h.filter _)]
theorem far_none {a b : Int} {p : P} {s : List P} (h : ∀ t ∈ s, 0 ≤ dd a b t) : far a b p s = p := by
  unfold far
  have : s.filter (fun t => decide (dd a b t < 0)) = [] := List.filter_eq_nil_iff.mpr fun t ht => by have := h t ht; simp; omega
  rw [this]
  exact Prod.ext (Int.add_zero _) (Int.sub_zero _)
theorem flat_nn {a b : Int} (hb : 0 < b) {t u : P} (ht : 0 < t.1) (hu : 0 < u.1) (h : Le t u) (hd : 0 ≤ dd a b t) : 0 ≤ dd a b u ∧ (0 < dd a b t → 0 < dd a b u) := by
  unfold Le at h
  unfold dd at *
  have h1 := Int.mul_le_mul_of_nonneg_left h (show 0 ≤ b by omega)
  constructor
  · have h2 := Int.mul_le_mul_of_nonneg_right (show b * t.2 ≤ a * t.1 by omega) (show 0 ≤ u.1 by omega)
    have h3 : (b * u.2) * t.1 ≤ (a * u.1) * t.1 := by grind
    have := Int.le_of_mul_le_mul_right h3 ht
    omega
  · intro hs
    have h2 := Int.mul_lt_mul_of_pos_right (show b * t.2 < a * t.1 by omega) hu
    have h3 : (b * u.2) * t.1 < (a * u.1) * t.1 := by grind
    have := Int.lt_of_mul_lt_mul_right h3 (show 0 ≤ t.1 by omega)
    omega
theorem chain_wt {a b : Int} : ∀ (s : List P) (p : P), (∀ t ∈ s, 0 ≤ dd a b t) → ∀ q ∈ chain p s, wt a b p ≤ wt a b q
  | [], p, _, q, hq => by
    have : q = p := by simpa [chain] using hq
    rw [this]; exact Int.le_refl _
  | t :: s, p, h, q, hq => by
    rcases List.mem_cons.mp (show q ∈ p :: chain (shift p t) s from hq) with e | hq
    · rw [e]; exact Int.le_refl _
    · have h1 := chain_wt s (shift p t) (fun u hu => h u (List.mem_cons_of_mem _ hu)) q hq
      have h2 := h t (by simp)
      rw [wt_shift] at h1
      omega
theorem chain_only {a b : Int} (ha : 0 < a) (hb : 0 < b) : ∀ (s : List P) (p : P), Pos s → Sorted s → ∀ q, Only a b (chain p s) q ↔ (∀ t ∈ s, dd a b t ≠ 0) ∧ q = far a b p s
  | [], p, _, _, q => by
    rw [far_none (by simp)]
    constructor
    · intro h
      exact ⟨by simp, by simpa [chain] using h.1⟩
    · rintro ⟨_, rfl⟩
      exact ⟨by simp [chain], fun r hr hne => absurd (by simpa [chain] using hr) hne⟩
  | t :: s, p, hp, hs, q => by
    have hs' := List.pairwise_cons.mp hs
    have ht := hp t (by simp)
    have ih := chain_only ha hb s (shift p t) (fun u hu => hp u (List.mem_cons_of_mem _ hu)) hs'.2 q
    have hw := wt_shift a b p t
    have hne : shift p t ≠ p := fun e => by have := congrArg Prod.fst e; simp only [shift] at this; omega
    have hpn : p ∉ chain (shift p t) s := fun h => by
      have := ((chain_fro s (shift p t) fun u hu => hp u (List.mem_cons_of_mem _ hu)).2 p h).1
      simp only [shift] at this; omega
    by_cases hd : dd a b t < 0
    · have e : far a b p (t :: s) = far a b (shift p t) s := by
        unfold far
        rw [List.filter_cons_of_pos (by simpa using hd), sm_cons, sm_cons]
        exact Prod.ext (by simp only [shift]; omega) (by simp only [shift]; omega)
      rw [e]
      have : Only a b (chain p (t :: s)) q ↔ Only a b (chain (shift p t) s) q := by
        constructor
        · rintro ⟨h1, h2⟩
          rcases List.mem_cons.mp (show q ∈ p :: chain (shift p t) s from h1) with e | h1
          · subst e
            have := h2 (shift q t) (List.mem_cons_of_mem _ (chain_head _ _)) hne
            omega
          · exact ⟨h1, fun r hr hn => h2 r (List.mem_cons_of_mem _ hr) hn⟩
        · rintro ⟨h1, h2⟩
          refine ⟨List.mem_cons_of_mem _ h1, fun r hr hn => ?_⟩
          rcases List.mem_cons.mp (show r ∈ p :: chain (shift p t) s from hr) with e | hr
          · subst e
            have : wt a b q ≤ wt a b (shift r t) := by
              by_cases z : shift r t = q
              · rw [z]; exact Int.le_refl _
              · exact Int.le_of_lt (h2 _ (chain_head _ _) z)
            omega
          · exact h2 r hr hn
      rw [this, ih]
      constructor
      · rintro ⟨h1, h2⟩
        refine ⟨fun u hu => ?_, h2⟩
        rcases List.mem_cons.mp hu with e | hu
        · rw [e]; omega
        · exact h1 u hu
      · rintro ⟨h1, h2⟩
        exact ⟨fun u hu => h1 u (List.mem_cons_of_mem _ hu), h2⟩
    · have hall : ∀ u ∈ t :: s, 0 ≤ dd a b u ∧ (0 < dd a b t → 0 < dd a b u) := fun u hu => by
        rcases List.mem_cons.mp hu with e | hu
        · rw [e]; exact ⟨by omega, id⟩
        · exact flat_nn hb ht.1 (hp u (List.mem_cons_of_mem _ hu)).1 (hs'.1 u hu) (by omega)
      rw [far_none fun u hu => (hall u hu).1]
      have hlow := chain_wt (a := a) (b := b) s (shift p t) fun u hu => (hall u (List.mem_cons_of_mem _ hu)).1
      constructor
      · rintro ⟨h1, h2⟩
        have e : q = p := by
          rcases List.mem_cons.mp (show q ∈ p :: chain (shift p t) s from h1) with e | h1
          · exact e
          · have := hlow q h1
            have := h2 p (by simp [chain]) (fun z => hpn (by have k := h1; rw [← z] at k; exact k))
            omega
        subst e
        have := h2 (shift q t) (List.mem_cons_of_mem _ (chain_head _ _)) hne
        refine ⟨fun u hu => ?_, rfl⟩
        have := (hall u hu).2 (by omega)
        omega
      · rintro ⟨h1, rfl⟩
        have := h1 t (by simp)
        refine ⟨by simp [chain], fun r hr hn => ?_⟩
        rcases List.mem_cons.mp (show r ∈ q :: chain (shift q t) s from hr) with e | hr
        · exact absurd e hn
        · have := hlow r hr
          omega
/-! the steps of a hull -/
theorem le_tr {f g h : P} (hf : 0 < f.1) (hg : 0 < g.1) (hh : 0 < h.1) (a : Le f g) (b : Le g h) : Le f h := by
  unfold Le at *
  have h1 := Int.mul_le_mul_of_nonneg_right a (show 0 ≤ h.1 by omega)
  have h2 := Int.mul_le_mul_of_nonneg_right b (show 0 ≤ f.1 by omega)
  have h3 : (h.2 * f.1) * g.1 ≤ (f.2 * h.1) * g.1 := by grind
  exact Int.le_of_mul_le_mul_right h3 hg
def stepsR : List P → List P
  | m :: o :: r => (m.1 - o.1, o.2 - m.2) :: stepsR (o :: r)
  | _ => []
theorem steps_snoc : ∀ (l : List P) (b a : P), steps (l ++ [b] ++ [a]) = steps (l ++ [b]) ++ [(a.1 - b.1, b.2 - a.2)]
  | [], b, a => rfl
  | [c], b, a => rfl
  | c :: d :: l, b, a => by
    have := steps_snoc (d :: l) b a
    simp only [List.cons_append, steps] at this ⊢
    rw [this]
theorem steps_rev : ∀ (st : List P), steps st.reverse = (stepsR st).reverse
  | [] => rfl
  | [_] => rfl
  | m :: o :: r => by
    have ih := steps_rev (o :: r)
    rw [List.reverse_cons, List.reverse_cons, steps_snoc, ← List.reverse_cons, ih]
    simp [stepsR]
theorem stepsR_sorted : ∀ (st : List P), Rev st → Conv st → (stepsR st).Pairwise fun f g => Le g f
  | [], _, _ => List.Pairwise.nil
  | [_], _, _ => List.Pairwise.nil
  | [m, o], _, _ => List.pairwise_singleton _ _
  | m :: o :: x :: r, hr, hc => by
    have h1 := List.pairwise_cons.mp hr
    have ih := stepsR_sorted (o :: x :: r) h1.2 hc.tail
    have hcc : below x o m := hc.1
    have e := conv_edge hcc
    have h2 := List.pairwise_cons.mp h1.2
    have p1 := (h1.1 o (by simp)).1
    have p2 := (h2.1 x (by simp)).1
    have pos : ∀ (st : List P), Rev st → ∀ t ∈ stepsR st, 0 < t.1 := by
      intro st
      induction st with
      | nil => intro _ t ht; simp [stepsR] at ht
      | cons a st ih =>
        intro hr t ht
        cases st with
        | nil => simp [stepsR] at ht
        | cons b st =>
          have h := List.pairwise_cons.mp hr
          rcases List.mem_cons.mp (show t ∈ (a.1 - b.1, b.2 - a.2) :: stepsR (b :: st) from ht) with e | ht
          · have := (h.1 b (by simp)).1
            rw [e]; show 0 < a.1 - b.1; omega
          · exact ih h.2 t ht
    refine List.pairwise_cons.mpr ⟨fun t ht => ?_, ih⟩
    have hle : Le (o.1 - x.1, x.2 - o.2) (m.1 - o.1, o.2 - m.2) := by
      unfold Le
      exact Int.le_of_lt e
    rcases List.mem_cons.mp (show t ∈ (o.1 - x.1, x.2 - o.2) :: stepsR (x :: r) from ht) with z | z
    · rw [z]; exact hle
    · have g := (List.pairwise_cons.mp (show ((o.1 - x.1, x.2 - o.2) :: stepsR (x :: r)).Pairwise _ from ih)).1 t z
      exact le_tr (pos (x :: r) h2.2 t z) (by show 0 < o.1 - x.1; omega) (by show 0 < m.1 - o.1; omega) g hle
theorem hull_sorted {l : List P} (h : Fro l) : Sorted (steps (hull l)) := by
  have i := inv_of h
  unfold hull Sorted
  rw [steps_rev, List.pairwise_reverse]
  exact stepsR_sorted _ i.rev i.conv
/-! ### put together -/
theorem only_front {r : List P} {a b : Int} (ha : 0 < a) (hb : 0 < b) (p : P) : Only a b (front r) p ↔ Only a b r p := by
  have hdom : ∀ {p q : P}, dom p q → p ≠ q → wt a b p < wt a b q := fun {p q} d hne => by
    unfold dom at d
    unfold wt
    have h1 := Int.mul_le_mul_of_nonneg_left d.1 (show 0 ≤ a by omega)
    have h2 := Int.mul_le_mul_of_nonneg_left d.2 (show 0 ≤ b by omega)
    by_cases e : p.1 = q.1
    · have : p.2 < q.2 := by
        rcases Int.lt_or_eq_of_le d.2 with z | z
        · exact z
        · exact absurd (Prod.ext e z) hne
      have := Int.mul_lt_mul_of_pos_left this hb
      omega
    · have := Int.mul_lt_mul_of_pos_left (show p.1 < q.1 by omega) ha
      omega
  constructor
  · rintro ⟨h1, h2⟩
    refine ⟨front_mem h1, fun q hq hne => ?_⟩
    obtain ⟨f, hf, d⟩ := front_dom hq
    by_cases e : f = p
    · subst e; exact hdom d (Ne.symm hne)
    · have := h2 f hf e
      by_cases e2 : f = q
      · rw [← e2]; exact this
      · have := hdom d e2; omega
  · rintro ⟨h1, h2⟩
    obtain ⟨f, hf, d⟩ := front_dom h1
    have : f = p := by
      apply Classical.byContradiction
      intro e
      have g1 := h2 f (front_mem hf) e
      have g2 := hdom d e
      omega
    subst this
    exact ⟨hf, fun q hq hne => h2 q (front_mem hq) hne⟩
theorem wt_add (a b : Int) (p q : P) : wt a b (add p q) = wt a b p + wt a b q := by unfold wt add; grind
theorem only_sums {F G : List P} {a b : Int} (p : P) : Only a b (sums F G) p ↔ ∃ f g, Only a b F f ∧ Only a b G g ∧ p = add f g := by
  constructor
  · rintro ⟨h1, h2⟩
    obtain ⟨f, hf, g, hg, rfl⟩ := mem_sums.mp h1
    refine ⟨f, g, ⟨hf, fun q hq hne => ?_⟩, ⟨hg, fun q hq hne => ?_⟩, rfl⟩
    · have := h2 (add q g) (mem_sums.mpr ⟨q, hq, g, hg, rfl⟩) (fun e => hne (by
        have e1 := congrArg Prod.fst e
        have e2 := congrArg Prod.snd e
        simp only [add] at e1 e2
        exact Prod.ext (by omega) (by omega)))
      rw [wt_add, wt_add] at this
      omega
    · have := h2 (add f q) (mem_sums.mpr ⟨f, hf, q, hq, rfl⟩) (fun e => hne (by
        have e1 := congrArg Prod.fst e
        have e2 := congrArg Prod.snd e
        simp only [add] at e1 e2
        exact Prod.ext (by omega) (by omega)))
      rw [wt_add, wt_add] at this
      omega
  · rintro ⟨f, g, ⟨hf, f2⟩, ⟨hg, g2⟩, rfl⟩
    refine ⟨mem_sums.mpr ⟨f, hf, g, hg, rfl⟩, fun q hq hne => ?_⟩
    obtain ⟨f', hf', g', hg', rfl⟩ := mem_sums.mp hq
    rw [wt_add, wt_add]
    by_cases e : f' = f
    · subst e
      have : g' ≠ g := fun z => hne (by rw [z])
      have := g2 g' hg' this
      omega
    · have k1 := f2 f' hf' e
      by_cases e2 : g' = g
      · subst e2; omega
      · have := g2 g' hg' e2; omega
/-- the steps of both, the steeper first -/
def insR (t : P) : List P → List P
  | [] => [t]
  | f :: r => if f.2 * t.1 < t.2 * f.1 then f :: insR t r else t :: f :: r
def inord (s : List P) : List P := (s.foldl (fun r t => insR t r) []).reverse
theorem insR_perm (t : P) : ∀ r : List P, (insR t r).Perm (t :: r)
  | [] => List.Perm.refl _
  | f :: r => by
    unfold insR
    split
    · exact ((insR_perm t r).cons f).trans (List.Perm.swap t f r)
    · exact List.Perm.refl _
theorem insR_sorted {t : P} (ht : 0 < t.1) : ∀ (r : List P), (∀ u ∈ r, 0 < u.1) → (r.Pairwise fun f g => Le g f) → (insR t r).Pairwise fun f g => Le g f
  | [], _, _ => List.pairwise_singleton _ _
  | f :: r, hp, h => by
    have h1 := List.pairwise_cons.mp h
    have hf := hp f (by simp)
    unfold insR
    split
    · rename_i hlt
      refine List.pairwise_cons.mpr ⟨fun u hu => ?_, insR_sorted ht r (fun u hu => hp u (List.mem_cons_of_mem _ hu)) h1.2⟩
      rcases List.mem_cons.mp ((insR_perm t r).mem_iff.mp hu) with e | hu
      · rw [e]; exact Int.le_of_lt hlt
      · exact h1.1 u hu
    · rename_i hlt
      have hle : Le f t := by unfold Le; omega
      refine List.pairwise_cons.mpr ⟨fun u hu => ?_, h⟩
      rcases List.mem_cons.mp hu with e | hu
      · rw [e]; exact hle
      · exact le_tr (hp u (List.mem_cons_of_mem _ hu)) hf ht (h1.1 u hu) hle
theorem ins_all : ∀ (s r : List P), (∀ u ∈ s, 0 < u.1) → (∀ u ∈ r, 0 < u.1) → (r.Pairwise fun f g => Le g f) → (s.foldl (fun r t => insR t r) r).Perm (s ++ r) ∧ (s.foldl (fun r t => insR t r) r).Pairwise fun f g => Le g f
  | [], r, _, _, h => ⟨List.Perm.refl _, h⟩
  | t :: s, r, hs, hr, h => by
    have ht := hs t (by simp)
    have hm : ∀ u ∈ insR t r, 0 < u.1 := fun u hu => by
      rcases List.mem_cons.mp ((insR_perm t r).mem_iff.mp hu) with e | hu
      · rw [e]; exact ht
      · exact hr u hu
    obtain ⟨h1, h2⟩ := ins_all s (insR t r) (fun u hu => hs u (List.mem_cons_of_mem _ hu)) hm (insR_sorted ht r hr h)
    refine ⟨h1.trans ?_, h2⟩
    refine ((insR_perm t r).append_left s).trans ?_
    exact List.perm_middle
theorem inord_perm {s : List P} (h : Pos s) : (inord s).Perm s := by
  have := (ins_all s [] (fun u hu => (h u hu).1) (by simp) List.Pairwise.nil).1
  rw [List.append_nil] at this
  exact (List.reverse_perm _).trans this
theorem inord_sorted {s : List P} (h : Pos s) : Sorted (inord s) := by
  unfold inord Sorted
  rw [List.pairwise_reverse]
  exact (ins_all s [] (fun u hu => (h u hu).1) (by simp) List.Pairwise.nil).2
theorem far_app (a b : Int) (p q : P) (s u : List P) : far a b (add p q) (s ++ u) = add (far a b p s) (far a b q u) := by
  unfold far
  rw [List.filter_append, sm_app, sm_app]
  exact Prod.ext (by simp only [add]; omega) (by simp only [add]; omega)
/-- the hull of two fronts put together -/
theorem hull_two {F G : List P} (hF : Fro F) (hG : Fro G) {f g : P} {rf rg : List P} (ef : hull F = f :: rf) (eg : hull G = g :: rg) :
    hull (chain (add f g) (inord (steps (hull F) ++ steps (hull G)))) = hull (put F G) := by
  have pF := steps_pos (hull_fro hF)
  have pG := steps_pos (hull_fro hG)
  have hpos : Pos (steps (hull F) ++ steps (hull G)) := fun t ht => by
    rcases List.mem_append.mp ht with h | h
    · exact pF t h
    · exact pG t h
  have hperm := inord_perm hpos
  have hposI : Pos (inord (steps (hull F) ++ steps (hull G))) := fun t ht => hpos t (hperm.mem_iff.mp ht)
  refine hull_eq (chain_fro _ _ hposI).1 (front_fro _) fun p => ?_
  have key : ∀ a b : Int, 0 < a → 0 < b → (Only a b (chain (add f g) (inord (steps (hull F) ++ steps (hull G)))) p ↔ Only a b (put F G) p) := by
    intro a b ha hb
    have e1 : chain f (steps (hull F)) = hull F := by rw [ef]; exact chain_steps f rf
    have e2 : chain g (steps (hull G)) = hull G := by rw [eg]; exact chain_steps g rg
    have o1 := chain_only ha hb (steps (hull F)) f pF (hull_sorted hF)
    have o2 := chain_only ha hb (steps (hull G)) g pG (hull_sorted hG)
    rw [e1] at o1
    rw [e2] at o2
    rw [chain_only ha hb _ _ hposI (inord_sorted hpos), far_perm hperm, far_app, put, only_front ha hb, only_sums]
    constructor
    · rintro ⟨h1, h2⟩
      refine ⟨_, _, (only_hull hF ha hb _).mp ((o1 _).mpr ⟨fun t ht => h1 t (hperm.mem_iff.mpr (List.mem_append_left _ ht)), rfl⟩), (only_hull hG ha hb _).mp ((o2 _).mpr ⟨fun t ht => h1 t (hperm.mem_iff.mpr (List.mem_append_right _ ht)), rfl⟩), h2⟩
    · rintro ⟨f', g', hf, hg, rfl⟩
      obtain ⟨k1, rfl⟩ := (o1 f').mp ((only_hull hF ha hb _).mpr hf)
      obtain ⟨k2, rfl⟩ := (o2 g').mp ((only_hull hG ha hb _).mpr hg)
      refine ⟨fun t ht => ?_, rfl⟩
      rcases List.mem_append.mp (hperm.mem_iff.mp ht) with h | h
      · exact k1 t h
      · exact k2 t h
  exact ⟨fun ⟨a, b, ha, hb, o⟩ => ⟨a, b, ha, hb, (key a b ha hb).mp o⟩, fun ⟨a, b, ha, hb, o⟩ => ⟨a, b, ha, hb, (key a b ha hb).mpr o⟩⟩
theorem hull_put {F G : List P} (hF : Fro F) (hG : Fro G) : hull (put (hull F) (hull G)) = hull (put F G) := by
  refine hull_eq (front_fro _) (front_fro _) fun p => ?_
  have key : ∀ a b : Int, 0 < a → 0 < b → (Only a b (put (hull F) (hull G)) p ↔ Only a b (put F G) p) := by
    intro a b ha hb
    rw [put, put, only_front ha hb, only_front ha hb, only_sums, only_sums]
    constructor
    · rintro ⟨f, g, h1, h2, e⟩
      exact ⟨f, g, (only_hull hF ha hb _).mp h1, (only_hull hG ha hb _).mp h2, e⟩
    · rintro ⟨f, g, h1, h2, e⟩
      exact ⟨f, g, (only_hull hF ha hb _).mpr h1, (only_hull hG ha hb _).mpr h2, e⟩
  exact ⟨fun ⟨a, b, ha, hb, o⟩ => ⟨a, b, ha, hb, (key a b ha hb).mp o⟩, fun ⟨a, b, ha, hb, o⟩ => ⟨a, b, ha, hb, (key a b ha hb).mpr o⟩⟩
/-! moved and stretched hulls -/
theorem pop_map {f : P → P} (hf : ∀ o m n, below (f o) (f m) (f n) ↔ below o m n) (n : P) : ∀ st : List P, popS (f n) (st.map f) = (popS n st).map f
  | [] => rfl
  | [_] => rfl
  | m :: o :: r => by
    have ih := pop_map hf n (o :: r)
    simp only [List.map_cons, popS] at ih ⊢
    by_cases h : below o m n
    · rw [if_pos h, if_pos ((hf o m n).mpr h)]; rfl
    · rw [if_neg h, if_neg (fun z => h ((hf o m n).mp z)), ih]
theorem hull_map {f : P → P} (hf : ∀ o m n, below (f o) (f m) (f n) ↔ below o m n) (l : List P) : hull (l.map f) = (hull l).map f := by
  have : ∀ (l st : List P), (l.map f).foldl push (st.map f) = (l.foldl push st).map f := by
    intro l
    induction l with
    | nil => intro st; rfl
    | cons n l ih =>
      intro st
      rw [List.map_cons, List.foldl_cons, List.foldl_cons, ← ih]
      congr 1
      unfold push
      rw [pop_map hf, List.map_cons]
  unfold hull stk
  have h := this l []
  rw [List.map_nil] at h
  rw [h, List.map_reverse]
theorem below_mv (t o m n : P) : below (mv t o) (mv t m) (mv t n) ↔ below o m n := by
  unfold below mv add
  have e1 : ∀ x y z : Int, x + z - (y + z) = x - y := by intros; omega
  simp only [e1]
theorem below_sc {s l : Int} (hs : 0 < s) (hl : 0 < l) (o m n : P) : below (sc s l o) (sc s l m) (sc s l n) ↔ below o m n := by
  unfold below sc
  dsimp only
  have e1 : (l * o.2 - l * n.2) * (s * m.1 - s * o.1) = (l * s) * ((o.2 - n.2) * (m.1 - o.1)) := by grind
  have e2 : (l * o.2 - l * m.2) * (s * n.1 - s * o.1) = (l * s) * ((o.2 - m.2) * (n.1 - o.1)) := by grind
  rw [e1, e2]
  have hp := Int.mul_pos hl hs
  exact ⟨fun h => Int.lt_of_mul_lt_mul_left h (by omega), fun h => Int.mul_lt_mul_of_pos_left h hp⟩
/-! ### the best one -/
def bst (a b : Int) (f : P) (l : List P) : P := l.foldl (fun f p => if wt a b p < wt a b f then p else f) f
theorem bst_spec {a b : Int} : ∀ (l : List P) (f : P), Fro (f :: l) → bst a b f l ∈ f :: l ∧ ∀ q ∈ f :: l, wt a b (bst a b f l) ≤ wt a b q ∧ (wt a b (bst a b f l) = wt a b q → (bst a b f l).1 ≤ q.1)
  | [], f, _ => ⟨by simp [bst], fun q hq => by
    have : q = f := by simpa using hq
    subst this
    exact ⟨Int.le_refl _, fun _ => Int.le_refl _⟩⟩
  | p :: l, f, h => by
    have h1 := List.pairwise_cons.mp h
    by_cases hlt : wt a b p < wt a b f
    · have e : bst a b f (p :: l) = bst a b p l := by simp only [bst, List.foldl_cons, if_pos hlt]
      obtain ⟨i1, i2⟩ := bst_spec l p h1.2
      rw [e]
      refine ⟨List.mem_cons_of_mem _ i1, fun q hq => ?_⟩
      rcases List.mem_cons.mp hq with e | hq
      · subst e
        have := (i2 p (by simp)).1
        exact ⟨by omega, fun z => by omega⟩
      · exact i2 q hq
    · have e : bst a b f (p :: l) = bst a b f l := by simp only [bst, List.foldl_cons, if_neg hlt]
      have hsub : Fro (f :: l) := List.pairwise_cons.mpr ⟨fun q hq => h1.1 q (List.mem_cons_of_mem _ hq), (List.pairwise_cons.mp h1.2).2⟩
      obtain ⟨i1, i2⟩ := bst_spec l f hsub
      rw [e]
      refine ⟨?_, fun q hq => ?_⟩
      · rcases List.mem_cons.mp i1 with z | z
        · rw [z]; simp
        · exact List.mem_cons_of_mem _ (List.mem_cons_of_mem _ z)
      · rcases List.mem_cons.mp hq with e | hq
        · exact i2 q (by rw [e]; simp)
        · rcases List.mem_cons.mp hq with e | hq
          · have hf := i2 f (by simp)
            have hp := h1.1 p (by simp)
            rw [e]
            refine ⟨by omega, fun z => ?_⟩
            have := hf.2 (by omega)
            omega
          · exact i2 q (List.mem_cons_of_mem _ hq)
theorem bst_hull {a b : Int} (ha : 0 < a) (hb : 0 < b) {f : P} {l : List P} (h : Fro (f :: l)) : bst a b f l ∈ hull (f :: l) := by
  obtain ⟨h1, h2⟩ := bst_spec (a := a) (b := b) l f h
  generalize bst a b f l = p at h1 h2
  rw [hull_iff h]
  have hlow : ∀ q ∈ f :: l, f.1 ≤ q.1 := fun q hq => by
    rcases List.mem_cons.mp hq with e | hq
    · rw [e]; exact Int.le_refl _
    · exact Int.le_of_lt ((List.pairwise_cons.mp h).1 q hq).1
  have hK : 0 < p.1 - f.1 + 1 := by have := hlow p h1; omega
  refine ⟨(p.1 - f.1 + 1) * a + 1, (p.1 - f.1 + 1) * b, by have := Int.mul_pos hK ha; omega, Int.mul_pos hK hb, h1, fun q hq hne => ?_⟩
  have e : ∀ q : P, wt ((p.1 - f.1 + 1) * a + 1) ((p.1 - f.1 + 1) * b) q = (p.1 - f.1 + 1) * wt a b q + q.1 := fun q => by unfold wt; grind
  rw [e, e]
  obtain ⟨k1, k2⟩ := h2 q hq
  rcases Int.lt_or_eq_of_le k1 with z | z
  · have h3 := Int.mul_le_mul_of_nonneg_left (show wt a b p + 1 ≤ wt a b q by omega) (show 0 ≤ p.1 - f.1 + 1 by omega)
    have := hlow q hq
    rw [Int.mul_add] at h3
    omega
  · rw [z]
    have := k2 z
    have : p.1 ≠ q.1 := fun e1 => hne (by
      have : p.2 = q.2 := by
        unfold wt at z
        rw [e1] at z
        have z : b * p.2 = b * q.2 := by omega
        exact Int.eq_of_mul_eq_mul_left (by omega) z
      exact (Prod.ext e1 this).symm)
    omega
theorem bst_map {a b a' b' : Int} {f : P → P} (hf : ∀ p q, wt a' b' (f p) < wt a' b' (f q) ↔ wt a b p < wt a b q) : ∀ (l : List P) (p : P), bst a' b' (f p) (l.map f) = f (bst a b p l)
  | [], p => rfl
  | q :: l, p => by
    simp only [bst, List.map_cons, List.foldl_cons]
    by_cases h : wt a b q < wt a b p
    · rw [if_pos h, if_pos ((hf q p).mpr h)]; exact bst_map hf l q
    · rw [if_neg h, if_neg (fun z => h ((hf q p).mp z))]; exact bst_map hf l p
theorem wt_mv (a b : Int) (t p q : P) : wt a b (mv t p) < wt a b (mv t q) ↔ wt a b p < wt a b q := by
  unfold mv
  rw [wt_add, wt_add]
  omega
theorem wt_sc {s l : Int} (hs : 0 < s) (hl : 0 < l) (a b : Int) (p q : P) : wt (a * l) (b * s) (sc s l p) < wt (a * l) (b * s) (sc s l q) ↔ wt a b p < wt a b q := by
  have e : ∀ p : P, wt (a * l) (b * s) (sc s l p) = (l * s) * wt a b p := fun p => by unfold wt sc; grind
  rw [e, e]
  have hp := Int.mul_pos hl hs
  exact ⟨fun h => Int.lt_of_mul_lt_mul_left h (by omega), fun h => Int.mul_lt_mul_of_pos_left h hp⟩
end M.Fo


set_option Elab.async false
set_option linter.all false
set_option maxRecDepth 100000
set_option maxHeartbeats 4000000
/-! Codes: how plain Lean data stand as values; equality, membership, likeness. -/
namespace M
open PySem PySem.Spec PyProof.Rows L2
section
variable [Tabs]
theorem cl_py : ∀ {n : Nat}, (∀ (d : D) (p : PyData), toPy0 d = some p → cl n d = true) ∧ ∀ (ds : List D) (ps : List PyData), toPys0 ds = some ps → cls n ds = true := by
  intro n
  refine ⟨?_, ?_⟩
  · intro d
    refine D.rec (motive_1 := fun d => ∀ p, toPy0 d = some p → cl n d = true) (motive_2 := fun ds => ∀ ps, toPys0 ds = some ps → cls n ds = true) ?_ ?_ ?_ ?_ ?_ ?_ ?_ ?_ ?_ ?_ ?_ ?_ d
    all_goals (intros; try rfl)
    · rename_i xs ih p h
      simp only [toPy0, Option.map_eq_some_iff] at h
      obtain ⟨ps, h, _⟩ := h
      simp only [cl]; exact ih ps h
    · rename_i xs ih p h
      simp only [toPy0, Option.map_eq_some_iff] at h
      obtain ⟨ps, h, _⟩ := h
      simp only [cl]; exact ih ps h
    · rename_i h; simp [toPy0] at h
    · rename_i h; simp [toPy0] at h
    · rename_i h1 h2 ps h
      simp only [toPys0] at h
      split at h
      · rename_i a b
        simp only [cls, h1 _ a, h2 _ b, Bool.and_self]
      · cases h
  · intro ds
    refine D.rec_1 (motive_1 := fun d => ∀ p, toPy0 d = some p → cl n d = true) (motive_2 := fun ds => ∀ ps, toPys0 ds = some ps → cls n ds = true) ?_ ?_ ?_ ?_ ?_ ?_ ?_ ?_ ?_ ?_ ?_ ?_ ds
    all_goals (intros; try rfl)
    · rename_i xs ih p h
      simp only [toPy0, Option.map_eq_some_iff] at h
      obtain ⟨ps, h, _⟩ := h
      simp only [cl]; exact ih ps h
    · rename_i xs ih p h
      simp only [toPy0, Option.map_eq_some_iff] at h
      obtain ⟨ps, h, _⟩ := h
      simp only [cl]; exact ih ps h
    · rename_i h; simp [toPy0] at h
    · rename_i h; simp [toPy0] at h
    · rename_i h1 h2 ps h
      simp only [toPys0] at h
      split at h
      · rename_i a b
        simp only [cls, h1 _ a, h2 _ b, Bool.and_self]
      · cases h
/-- how data of a type stand as values -/
structure Cd (α : Type) where
  d : α → D
  p : α → PyData
  k : Nat
  to : ∀ x, toPy0 (d x) = some (p x)
  can : ∀ x, (p x).canLay0 = true
  dep : ∀ x, (p x).depth ≤ k
  eqv : ∀ x y, PyData.eqv (p x) (p y) = true ↔ x = y
namespace Cd
variable {α β γ : Type}
theorem cl (c : Cd α) (n : Nat) (x : α) : M.cl n (c.d x) = true := cl_py.1 _ _ (c.to x)
theorem cls (c : Cd α) (n : Nat) (l : List α) : M.cls n (l.map c.d) = true := by
  induction l with
  | nil => rfl
  | cons x l ih => simp only [List.map_cons, M.cls, c.cl, ih, Bool.and_self]
theorem fz (c : Cd α) (n : Nat) (S : Store) (x : α) : M.fz n S (c.d x) = some (c.d x) := by
  have h1 := c.cl n x
  have h2 := c.to x
  cases hd : c.d x with
  | loc m => rw [hd] at h2; simp [toPy0] at h2
  | _ => rw [hd] at h1; simp only [M.fz, h1, if_true]
theorem shp (c : Cd α) (hk : c.k ≤ 64) (x : α) : SeqAt.shaped (c.p x) = true := by
  unfold SeqAt.shaped
  rw [Bool.and_eq_true]
  exact ⟨c.can x, decide_eq_true (Nat.le_trans (c.dep x) hk)⟩
theorem toPy (c : Cd α) (S : Store) (x : α) : M.toPy S (c.d x) = some (c.p x) := by
  have h2 := c.to x
  cases hd : c.d x with
  | loc m => rw [hd] at h2; simp [toPy0] at h2
  | _ => rw [hd] at h2; exact h2
theorem eqd (c : Cd α) [DecidableEq α] (x y : α) : PyData.eqv (c.p x) (c.p y) = decide (x = y) := by
  by_cases h : x = y
  · rw [decide_eq_true h, (c.eqv x y).mpr h]
  · rw [decide_eq_false h]
    cases q : PyData.eqv (c.p x) (c.p y) with
    | false => rfl
    | true => exact absurd ((c.eqv x y).mp q) h
theorem dEq (c : Cd α) [DecidableEq α] (hk : c.k ≤ 64) (x y : α) (S : Store) : M.dEq (c.d x) (c.d y) S = some (.bl (decide (x = y))) := by
  by_cases h : ∃ a b, c.d x = .str a ∧ c.d y = .str b
  · obtain ⟨a, b, ha, hb⟩ := h
    have h1 := c.to x
    have h2 := c.to y
    rw [ha] at h1
    rw [hb] at h2
    simp only [toPy0, Option.some.injEq] at h1 h2
    have h3 := c.eqd x y
    rw [← h1, ← h2] at h3
    simp only [PyData.eqv] at h3
    rw [ha, hb, ← h3]
    show some (D.bl (decide (a = b))) = _
    by_cases e : a = b <;> simp [e]
  · rw [dEq_gen h, c.toPy, c.toPy]
    dsimp only
    rw [if_pos ⟨c.shp hk x, c.shp hk y⟩, c.eqd]
theorem dNe (c : Cd α) [DecidableEq α] (hk : c.k ≤ 64) (x y : α) (S : Store) : M.dNe (c.d x) (c.d y) S = some (.bl (!decide (x = y))) := by
  unfold M.dNe
  rw [c.dEq hk]
  rfl
/-- one, told by another -/
def of (c : Cd α) (f : β → α) (hf : ∀ x y, f x = f y → x = y) : Cd β where
  d := fun x => c.d (f x)
  p := fun x => c.p (f x)
  k := c.k
  to := fun x => c.to _
  can := fun x => c.can _
  dep := fun x => c.dep _
  eqv := fun x y => ⟨fun h => hf _ _ ((c.eqv _ _).mp h), fun h => (c.eqv _ _).mpr (by rw [h])⟩
def int : Cd Int where
  d := .int
  p := .int
  k := 0
  to := fun _ => rfl
  can := fun _ => rfl
  dep := fun _ => Nat.le_refl _
  eqv := fun x y => by simp [PyData.eqv]
def bl : Cd Bool where
  d := .bl
  p := .bool
  k := 0
  to := fun _ => rfl
  can := fun _ => rfl
  dep := fun _ => Nat.le_refl _
  eqv := fun x y => by simp [PyData.eqv]
/-- texts of given signs -/
def txt (f : α → Nat) (hf : ∀ x y, f x = f y → x = y) (hb : ∀ x, f x < 0x110000) : Cd (List α) where
  d := fun l => .str (M.mk (l.map f))
  p := fun l => .str (M.mk (l.map f))
  k := 0
  to := fun _ => rfl
  can := fun l => by
    show (M.mk (l.map f)).cps.all (· < 0x110000) = true
    simp [M.mk, hb]
  dep := fun _ => Nat.le_refl _
  eqv := fun x y => by
    simp only [PyData.eqv, beq_iff_eq]
    constructor
    · intro h0
      have h : x.map f = y.map f := by have h := congrArg tl h0; simpa only [tl, M.mk] using h
      clear h0
      revert y
      induction x with
      | nil => intro y h; cases y with
        | nil => rfl
        | cons _ _ => simp at h
      | cons a l ih => intro y h; cases y with
        | nil => simp at h
        | cons b m =>
          simp only [List.map_cons, List.cons.injEq] at h
          rw [hf _ _ h.1, ih m h.2]
    · rintro rfl; rfl
theorem toS (c : Cd α) : ∀ l : List α, toPys0 (l.map c.d) = some (l.map c.p)
  | [] => by simp [toPys0]
  | x :: l => by simp [toPys0, c.to, toS c l]
theorem canS (c : Cd α) : ∀ l : List α, PyData.canLayAll0 (l.map c.p) = true
  | [] => by simp [PyData.canLayAll0]
  | x :: l => by simp [PyData.canLayAll0, c.can, canS c l]
theorem depS (c : Cd α) : ∀ l : List α, PyData.depthAll (l.map c.p) ≤ c.k
  | [] => by simp [PyData.depthAll]
  | x :: l => by
    have h1 := depS c l
    have h2 := c.dep x
    simp only [List.map_cons, PyData.depthAll]; omega
theorem eqS (c : Cd α) : ∀ l m : List α, PyData.eqvAll (l.map c.p) (m.map c.p) = true ↔ l = m
  | [], [] => by simp [PyData.eqvAll]
  | [], _ :: _ => by simp [PyData.eqvAll]
  | _ :: _, [] => by simp [PyData.eqvAll]
  | x :: l, y :: m => by simp only [List.map_cons, PyData.eqvAll, Bool.and_eq_true, c.eqv, eqS c l m, List.cons.injEq]
/-- tuples of such -/
def tup (c : Cd α) : Cd (List α) where
  d := fun l => .tup (l.map c.d)
  p := fun l => .tuple (l.map c.p)
  k := c.k + 1
  to := fun l => by simp only [toPy0, c.toS, Option.map_some]
  can := fun l => by simp only [PyData.canLay0, c.canS]
  dep := fun l => by have := c.depS l; simp only [PyData.depth]; omega
  eqv := fun x y => by simp only [PyData.eqv, c.eqS]
/-- lists of such -/
def lst (c : Cd α) : Cd (List α) where
  d := fun l => .lst (l.map c.d)
  p := fun l => .list (l.map c.p)
  k := c.k + 1
  to := fun l => by simp only [toPy0, c.toS, Option.map_some]
  can := fun l => by simp only [PyData.canLay0, c.canS]
  dep := fun l => by have := c.depS l; simp only [PyData.depth]; omega
  eqv := fun x y => by simp only [PyData.eqv, c.eqS]
/-- pairs -/
def pair (c : Cd α) (c' : Cd β) : Cd (α × β) where
  d := fun x => .tup [c.d x.1, c'.d x.2]
  p := fun x => .tuple [c.p x.1, c'.p x.2]
  k := max c.k c'.k + 1
  to := fun l => by simp only [toPy0, toPys0, c.to, c'.to, Option.map_some]
  can := fun l => by simp only [PyData.canLay0, PyData.canLayAll0, c.can, c'.can, Bool.and_self]
  dep := fun l => by have := c.dep l.1; have := c'.dep l.2; simp only [PyData.depth, PyData.depthAll]; omega
  eqv := fun x y => by simp only [PyData.eqv, PyData.eqvAll, c.eqv, c'.eqv, Bool.and_eq_true, Prod.ext_iff, and_true]
/-- three -/
def tri (c : Cd α) (c' : Cd β) (c'' : Cd γ) : Cd (α × β × γ) where
  d := fun x => .tup [c.d x.1, c'.d x.2.1, c''.d x.2.2]
  p := fun x => .tuple [c.p x.1, c'.p x.2.1, c''.p x.2.2]
  k := max c.k (max c'.k c''.k) + 1
  to := fun l => by simp only [toPy0, toPys0, c.to, c'.to, c''.to, Option.map_some]
  can := fun l => by simp only [PyData.canLay0, PyData.canLayAll0, c.can, c'.can, c''.can, Bool.and_self]
  dep := fun l => by have := c.dep l.1; have := c'.dep l.2.1; have := c''.dep l.2.2; simp only [PyData.depth, PyData.depthAll]; omega
  eqv := fun x y => by simp only [PyData.eqv, PyData.eqvAll, c.eqv, c'.eqv, c''.eqv, Bool.and_eq_true, Prod.ext_iff, and_true]
theorem any_mem (c : Cd α) [DecidableEq α] (x : α) : ∀ l : List α, (l.map c.p).any (fun z => PyData.eqv z (c.p x)) = decide (x ∈ l)
  | [] => by simp
  | y :: l => by
    simp only [List.map_cons, List.any_cons, any_mem c x l, c.eqd, List.mem_cons, Bool.decide_or]
    congr 1
    by_cases h : y = x
    · rw [decide_eq_true h, decide_eq_true h.symm]
    · rw [decide_eq_false h, decide_eq_false fun z => h z.symm]
theorem dIn_lst (c : Cd α) [DecidableEq α] (hk : c.k ≤ 63) (x : α) (l : List α) (S : Store) : M.dIn (c.d x) (.lst (l.map c.d)) S = some (.bl (decide (x ∈ l))) := by
  have h1 : M.toPy S (.lst (l.map c.d)) = some (.list (l.map c.p)) := (lst c).toPy S l
  have e := dIn_gen (x := c.d x) (y := .lst (l.map c.d)) (S := S) (by rintro ⟨a, b, _, h⟩; cases h)
  rw [e, c.toPy, h1]
  dsimp only
  rw [if_pos ⟨c.shp (by omega) x, (lst c).shp (show c.k + 1 ≤ 64 by omega) l⟩, c.any_mem]
theorem dIn_tup (c : Cd α) [DecidableEq α] (hk : c.k ≤ 63) (x : α) (l : List α) (S : Store) : M.dIn (c.d x) (.tup (l.map c.d)) S = some (.bl (decide (x ∈ l))) := by
  have h1 : M.toPy S (.tup (l.map c.d)) = some (.tuple (l.map c.p)) := (tup c).toPy S l
  have e := dIn_gen (x := c.d x) (y := .tup (l.map c.d)) (S := S) (by rintro ⟨a, b, _, h⟩; cases h)
  rw [e, c.toPy, h1]
  dsimp only
  have h2 := (lst c).shp (show c.k + 1 ≤ 64 by omega) l
  rw [if_pos ⟨c.shp (by omega) x, h2⟩, c.any_mem]
end Cd
/-! ### likeness of one with itself -/
mutual
/-- plain data, so deep at most -/
def pl : Nat → D → Bool
  | _, .non => true
  | _, .bl _ => true
  | _, .int _ => true
  | _, .str _ => true
  | n + 1, .tup xs => decide (xs.length ≤ 100000) && pls n xs
  | n + 1, .lst xs => decide (xs.length ≤ 100000) && pls n xs
  | _, _ => false
def pls : Nat → List D → Bool
  | _, [] => true
  | n, d :: ds => pl n d && pls n ds
end
theorem pls_at : ∀ {n : Nat} {ds : List D} {d : D}, pls n ds = true → d ∈ ds → pl n d = true
  | n, d' :: ds, d, h, m => by
    simp only [pls, Bool.and_eq_true] at h
    rcases List.mem_cons.mp m with rfl | m
    · exact h.1
    · exact pls_at h.2 m
theorem lcM_none {src : List D} {t : MG} {mt : MT} {me : ME} {e : Env} {S : Store} : ∀ (ds : List D), (∀ d ∈ ds, ∃ e1, t d e S = some e1 ∧ mt e1 S = .ok false S) → lcM ⟨src, []⟩ t mt me e ds S = .ok [] S
  | [], _ => by unfold lcM; rw [if_pos (Src.ok_nil _ _)]
  | d :: ds, h => by
    obtain ⟨e1, h1, h2⟩ := h d (by simp)
    unfold lcM
    rw [if_pos (Src.ok_nil _ _), h1]
    dsimp only
    rw [h2, noEx_ok, Res.bind_ok, if_neg (by decide)]
    exact lcM_none ds fun d hd => h d (List.mem_cons_of_mem _ hd)
theorem alike_refl {S : Store} (hS : clS S.length S = true) : ∀ (n : Nat) (d : D), pl n d = true → r__law_alike (n + 1) [d, d] S = .ok (.bl true) S := by
  intro n
  induction n with
  | zero =>
    intro d h
    show retV (runF 3 (b__law_alike (r__law_alike 0))) [d, d] S = _
    refine retV_id ?_ hS rfl
    cases d with
    | non => simp [runF, b__law_alike, b__law_alike_3, dIsInst, tyName, isT, dIs, isNon]
    | bl b => simp [runF, b__law_alike, b__law_alike_4, dIsInst, tyName, isT, dIs, isNon]
    | int i => simp [runF, b__law_alike, b__law_alike_5, dIsInst, tyName, isT, dIs, isNon]
    | str x => simp [runF, b__law_alike, dIsInst, tyName, isT, dIs, isNon]
    | _ => simp [pl] at h
  | succ n ih =>
    intro d h
    show retV (runF 3 (b__law_alike (r__law_alike (n + 1)))) [d, d] S = _
    refine retV_id ?_ hS rfl
    cases d with
    | non => simp [runF, b__law_alike, b__law_alike_3, dIsInst, tyName, isT, dIs, isNon]
    | bl b => simp [runF, b__law_alike, b__law_alike_4, dIsInst, tyName, isT, dIs, isNon]
    | int i => simp [runF, b__law_alike, b__law_alike_5, dIsInst, tyName, isT, dIs, isNon]
    | str x => simp [runF, b__law_alike, dIsInst, tyName, isT, dIs, isNon]
    | tup xs =>
      simp only [pl, Bool.and_eq_true, decide_eq_true_eq] at h
      have e1 : mLc (mSrcA srcR1 (mCons (mCall dLen (mCons (mVar 1) mNil)) mNil)) (gN 2) (t__law_alike_1 (r__law_alike (n + 1))) (mVar 2) [2] [some (.tup xs), some (.tup xs), none] S = .ok [] S := by
        have h1 : mSrcA srcR1 (mCons (mCall dLen (mCons (mVar 1) mNil)) mNil) [some (.tup xs), some (.tup xs), none] S = .ok ⟨rng 0 xs.length, []⟩ S := src_rng _ h.1 (call_ok (one_ok (var_ok rfl)) rfl)
        rw [x_mLc, h1, Res.bind_ok, if_pos (sz (by rw [rng_len]; exact h.1))]
        refine lcM_none _ fun d hd => ?_
        obtain ⟨i, hi, rfl⟩ := List.mem_map.mp hd
        have hi := List.mem_range.mp hi
        have hx : xs[i]? = some xs[i] := List.getElem?_eq_getElem hi
        have hz : ((0 : Int) + (i : Nat)) = (i : Int) := by omega
        rw [hz]
        refine ⟨_, rfl, ?_⟩
        have q := ih xs[i] (pls_at h.2 (List.getElem_mem hi))
        have v2 : ∀ S, (mVar 2) [some (.tup xs), some (.tup xs), some (.int (i : Int))] S = .ok (.int (i : Int)) S := fun S => rfl
        have q2 : mCallF 2 (r__law_alike (n + 1)) (mCons (mBin dIx (mVar 0) (mVar 2)) (mCons (mBin dIx (mVar 1) (mVar 2)) mNil)) [some (.tup xs), some (.tup xs), some (.int (i : Int))] S = .ok (.bl true) S :=
          callF_ok (cons_ok (bin_ok (var_ok rfl) (v2 _) (ix_tup xs i _ _ hx)) (one_ok (bin_ok (var_ok rfl) (v2 _) (ix_tup xs i _ _ hx)))) q
        show mNot (mTru _) _ _ = _
        rw [x_mNot, x_mTru]
        show ((mCallF 2 (r__law_alike (n + 1)) (mCons (mBin dIx (mVar 0) (mVar 2)) (mCons (mBin dIx (mVar 1) (mVar 2)) mNil)) [some (.tup xs), some (.tup xs), some (.int (i : Int))] S).bind _).bind _ = _
        rw [q2]; rfl
      have c1 : (mOr (mTru (mCall dIsInst (mCons (mVar 1) (mCons (mC (.ty "list")) mNil)))) (mTru (mCall dIsInst (mCons (mVar 1) (mCons (mC (.ty "tuple")) mNil))))) [some (.tup xs), some (.tup xs), none] S = .ok true S := by
        simp [dIsInst, tyName, isT]
      have c2 : (mOr (mB (mBin dNe (mCall dIsInst (mCons (mVar 0) (mCons (mC (.ty "list")) mNil))) (mCall dIsInst (mCons (mVar 1) (mCons (mC (.ty "list")) mNil))))) (mB (mBin dNe (mCall dIsInst (mCons (mVar 0) (mCons (mC (.ty "tuple")) mNil))) (mCall dIsInst (mCons (mVar 1) (mCons (mC (.ty "tuple")) mNil)))))) [some (.tup xs), some (.tup xs), none] S = .ok false S := by
        simp [dIsInst, tyName, isT]
      refine run_rt (e' := [some (.tup xs), some (.tup xs), none]) (seq_rt ((if_t c1).trans ((seq_nx (if_skip c2)).trans (ret_ok ?_))))
      rw [x_mAndV, bin_ok (call_ok (one_ok (var_ok rfl)) len_tup) (call_ok (one_ok (var_ok rfl)) len_tup) x_eqI, Res.bind_ok, decide_eq_true rfl]
      exact bin_ok (asV_ok e1) (asV_ok (lst_ok rfl (Nat.zero_le _))) (x_eqL [] [])
    | lst xs =>
      simp only [pl, Bool.and_eq_true, decide_eq_true_eq] at h
      have e1 : mLc (mSrcA srcR1 (mCons (mCall dLen (mCons (mVar 1) mNil)) mNil)) (gN 2) (t__law_alike_1 (r__law_alike (n + 1))) (mVar 2) [2] [some (.lst xs), some (.lst xs), none] S = .ok [] S := by
        have h1 : mSrcA srcR1 (mCons (mCall dLen (mCons (mVar 1) mNil)) mNil) [some (.lst xs), some (.lst xs), none] S = .ok ⟨rng 0 xs.length, []⟩ S := src_rng _ h.1 (call_ok (one_ok (var_ok rfl)) rfl)
        rw [x_mLc, h1, Res.bind_ok, if_pos (sz (by rw [rng_len]; exact h.1))]
        refine lcM_none _ fun d hd => ?_
        obtain ⟨i, hi, rfl⟩ := List.mem_map.mp hd
        have hi := List.mem_range.mp hi
        have hx : xs[i]? = some xs[i] := List.getElem?_eq_getElem hi
        have hz : ((0 : Int) + (i : Nat)) = (i : Int) := by omega
        rw [hz]
        refine ⟨_, rfl, ?_⟩
        have q := ih xs[i] (pls_at h.2 (List.getElem_mem hi))
        have v2 : ∀ S, (mVar 2) [some (.lst xs), some (.lst xs), some (.int (i : Int))] S = .ok (.int (i : Int)) S := fun S => rfl
        have q2 : mCallF 2 (r__law_alike (n + 1)) (mCons (mBin dIx (mVar 0) (mVar 2)) (mCons (mBin dIx (mVar 1) (mVar 2)) mNil)) [some (.lst xs), some (.lst xs), some (.int (i : Int))] S = .ok (.bl true) S :=
          callF_ok (cons_ok (bin_ok (var_ok rfl) (v2 _) (ix_lst xs i _ _ hx)) (one_ok (bin_ok (var_ok rfl) (v2 _) (ix_lst xs i _ _ hx)))) q
        show mNot (mTru _) _ _ = _
        rw [x_mNot, x_mTru]
        show ((mCallF 2 (r__law_alike (n + 1)) (mCons (mBin dIx (mVar 0) (mVar 2)) (mCons (mBin dIx (mVar 1) (mVar 2)) mNil)) [some (.lst xs), some (.lst xs), some (.int (i : Int))] S).bind _).bind _ = _
        rw [q2]; rfl
      have c1 : (mOr (mTru (mCall dIsInst (mCons (mVar 1) (mCons (mC (.ty "list")) mNil)))) (mTru (mCall dIsInst (mCons (mVar 1) (mCons (mC (.ty "tuple")) mNil))))) [some (.lst xs), some (.lst xs), none] S = .ok true S := by
        simp [dIsInst, tyName, isT]
      have c2 : (mOr (mB (mBin dNe (mCall dIsInst (mCons (mVar 0) (mCons (mC (.ty "list")) mNil))) (mCall dIsInst (mCons (mVar 1) (mCons (mC (.ty "list")) mNil))))) (mB (mBin dNe (mCall dIsInst (mCons (mVar 0) (mCons (mC (.ty "tuple")) mNil))) (mCall dIsInst (mCons (mVar 1) (mCons (mC (.ty "tuple")) mNil)))))) [some (.lst xs), some (.lst xs), none] S = .ok false S := by
        simp [dIsInst, tyName, isT]
      refine run_rt (e' := [some (.lst xs), some (.lst xs), none]) (seq_rt ((if_t c1).trans ((seq_nx (if_skip c2)).trans (ret_ok ?_))))
      rw [x_mAndV, bin_ok (call_ok (one_ok (var_ok rfl)) len_lst) (call_ok (one_ok (var_ok rfl)) len_lst) x_eqI, Res.bind_ok, decide_eq_true rfl]
      exact bin_ok (asV_ok e1) (asV_ok (lst_ok rfl (Nat.zero_le _))) (x_eqL [] [])
    | _ => simp [pl] at h
end
end M


set_option Elab.async false
set_option linter.all false
set_option maxRecDepth 100000
set_option maxHeartbeats 4000000
/-! Plain lemmas: loops, texts' methods, the store with one more. -/
namespace M
open PySem PySem.Spec PyProof.Rows L2
section
variable [Tabs]
mutual
theorem cl_mono {n m : Nat} (h : n ≤ m) : ∀ d : D, cl n d = true → cl m d = true
  | .tup xs, e => by simp only [cl] at e ⊢; exact cls_mono h xs e
  | .lst xs, e => by simp only [cl] at e ⊢; exact cls_mono h xs e
  | .fro xs, e => by simp only [cl] at e ⊢; exact cls_mono h xs e
  | .loc k, e => by simp only [cl, decide_eq_true_eq] at e ⊢; omega
  | .non, _ => rfl
  | .bl _, _ => rfl
  | .int _, _ => rfl
  | .str _, _ => rfl
  | .ty _, _ => rfl
  | .ref _, _ => rfl
theorem cls_mono {n m : Nat} (h : n ≤ m) : ∀ ds : List D, cls n ds = true → cls m ds = true
  | [], _ => rfl
  | d :: ds, e => by
    simp only [cls, Bool.and_eq_true] at e ⊢
    exact ⟨cl_mono h d e.1, cls_mono h ds e.2⟩
end
theorem clS_push {S : Store} {ds : List D} (hS : clS S.length S = true) (hd : cls (S.length + 1) ds = true) : clS (S ++ [OB.lst ds]).length (S ++ [OB.lst ds]) = true := by
  rw [List.length_append, List.length_singleton]
  unfold clS at hS ⊢
  rw [List.all_append, Bool.and_eq_true]
  refine ⟨?_, by simpa [clO] using hd⟩
  rw [List.all_eq_true] at hS ⊢
  intro o ho
  have := hS o ho
  cases o with
  | lst xs => exact cls_mono (Nat.le_succ _) xs this
theorem str_ok {S S1 : Store} {T : String} {e : M.Env} {x : PySem.Str} {m : MA} {ma : ME} {h : PySem.Str → List D → Store → Option D} {ds : List D} {r : D} (hT : (T == "str") = true) (ha : ma e S = .ok (.str x) S) (hm : m e S = .ok ds S1) (hh : h x ds S1 = some r) : mMeth T (gStr h) ma m e S = .ok r S1 := by
  refine meth_ok (S1 := S1) (S2 := S1) ha ?_ hm (r := r) ?_
  · exact hT
  · show (h x ds S1).map _ = _
    rw [hh]
    rfl
theorem srcA_ok {S : Store} {f : List D → Store → Option Src} {m : MA} {e : M.Env} {ds : List D} {src : Src} (h : m e S = .ok ds S) (hf : f ds S = some src) : mSrcA f m e S = .ok src S := by rw [x_mSrcA, h, Res.bind_ok, hf]; rfl
theorem par_ok {S : Store} {e : M.Env} {i j : Nat} {a b : ME} {u v : D} {S1 S2 : Store} (ha : a e S = .ok u S1) (hb : b e S1 = .ok v S2) : sPar i j (mCons a (mCons b mNil)) e S = some (.nx, (e.set i (some u)).set j (some v), S2) := by
  show (mCons a (mCons b mNil) e S).st e _ = _
  rw [cons_ok ha (one_ok hb)]
  rfl
theorem rngC_eq (lo c : Int) (n : Nat) : rngC lo c n = (List.range n).map fun (i : Nat) => D.int (lo + (i : Int) * c) := rfl
theorem rngC_len (lo c : Int) (n : Nat) : (rngC lo c n).length = n := by simp [rngC]
theorem whl_go {c : MT} {b : MS} {n : Nat} {e e2 : M.Env} {S S1 S2 : Store} (h : c e S = .ok true S1) (hb : b e S1 = some (.nx, e2, S2)) : whileM c b (n + 1) e S = whileM c b n e2 S2 := by
  conv => lhs; unfold whileM
  rw [h]
  show stepF (b e S1) (whileM c b n) = _
  rw [hb]
  rfl
theorem whl_no {c : MT} {b : MS} {n : Nat} {e : M.Env} {S S1 : Store} (h : c e S = .ok false S1) : whileM c b (n + 1) e S = some (.nx, e, S1) := by
  unfold whileM
  rw [h]
  rfl
theorem aug_ok {e : M.Env} {S S1 : Store} {i : Nat} {f : Int → Int → Int} {m : ME} {x y z : Int} (hx : e[i]? = some (some (.int x))) (hm : m e S = .ok (.int y) S1) (hz : f x y = z) : sAug i f m e S = some (.nx, e.set i (some (.int z)), S1) := by
  unfold sAug
  rw [hx]
  dsimp only
  rw [hm]
  show some _ = _
  rw [hz]
theorem put_ok {e : M.Env} {S S1 S2 S3 : Store} {mo mi me : ME} {d : D} {n : Nat} {k : Int} {xs : List D} {j : Nat} (hm : me e S = .ok d S1) (ho : mo e S1 = .ok (.loc n) S2) (hi : mi e S2 = .ok (.int k) S3) (hs : S3[n]? = some (.lst xs)) (hj : ixN xs.length k = some j) : sPut mo mi me e S = some (.nx, e, S3.set n (.lst (xs.set j d))) := by
  unfold sPut
  simp only [hm, Res.st_ok, ho, hi, hs, hj]
theorem src_rng' (n : Nat) (h : n ≤ 100000) {e : M.Env} {S S1 : Store} {m : ME} (hm : m e S = .ok (.int n) S1) : mSrcA srcR1 (mCons m mNil) e S = .ok ⟨rng 0 n, []⟩ S1 := by
  have hr : M.inR (n : Int) = true := by
    unfold M.inR
    rw [decide_eq_true_eq]
    constructor <;> omega
  rw [x_mSrcA, one_ok hm, Res.bind_ok, a3 hr]
  rfl
theorem rng_map (n : Nat) : rng 0 n = (List.range n).map fun (i : Nat) => D.int (i : Int) := by
  unfold rng
  apply List.map_congr_left
  intro i _
  congr 1; omega
/-- a draw, whatever else stands in the store -/
theorem take_exG (b : Int) (hb : 0 < b) (l : List Int) (R : Store) (hR : clS (R.length + 1) R = true) : ∃ k l', 0 ≤ k ∧ k < b ∧ m__law_take [.loc 0, .int b] (OB.lst (I l) :: R) = .ok (.int k) (OB.lst (I l') :: R) := by
  have hc : ∀ l : List Int, clS (R.length + 1) (OB.lst (I l) :: R) = true := fun l => by
    unfold clS at hR ⊢
    rw [List.all_cons, Bool.and_eq_true]
    exact ⟨by simp only [clO]; exact cls_I _ _, hR⟩
  have ht : ∀ l : List Int, (OB.lst (I l) :: R).take (R.length + 1) = OB.lst (I l) :: R := fun l => List.take_of_length_le (by simp)
  rcases List.eq_nil_or_concat l with rfl | ⟨l', x, rfl⟩
  · refine ⟨0, [], Int.le_refl _, hb, ?_⟩
    refine (retV_ok (d := .int 0) (S' := OB.lst (I []) :: R) ?_ (by rw [List.length_cons, ht]; exact hc _) rfl).trans (by rw [List.length_cons, ht])
    simp [runF, b__law_take, dLen, seqOf, lstOf]
  · refine ⟨x % b, l', Int.emod_nonneg _ (by omega), Int.emod_lt_of_pos _ hb, ?_⟩
    refine (retV_ok (d := .int (x % b)) (S' := OB.lst (I l') :: R) ?_ (by rw [List.length_cons, ht]; exact hc _) rfl).trans (by rw [List.length_cons, ht])
    have h0 : ¬ ((l'.length : Int) + 1 = 0) := by omega
    simp [runF, b__law_take, dLen, seqOf, lstOf, rcv, gPop, x_mod hb, h0]
theorem take_natG (n : Nat) (hn : 0 < n) (l : List Int) (R : Store) (hR : clS (R.length + 1) R = true) : ∃ (k : Nat) (l' : List Int), k < n ∧ m__law_take [.loc 0, .int (n : Int)] (OB.lst (I l) :: R) = .ok (.int (k : Int)) (OB.lst (I l') :: R) := by
  obtain ⟨k, l', k0, k1, q⟩ := take_exG (n : Int) (by omega) l R hR
  obtain ⟨m, rfl⟩ := Int.eq_ofNat_of_zero_le k0
  exact ⟨m, l', by omega, q⟩
theorem x_mLc' {mi : MI} {g : MG} {mt : MT} {me : ME} {vs : List Nat} {e : M.Env} {S S1 : Store} {xs : List D} (hi : mi e S = .ok ⟨xs, []⟩ S1) (hz : xs.length ≤ 100000) : mLc mi g mt me vs e S = lcM ⟨xs, []⟩ g mt me (wipeE e vs) xs S1 := by
  unfold mLc
  rw [hi, Res.bind_ok, if_pos (sz hz)]
/-- a comprehension with a test, pure -/
theorem lc_filter {α : Type} {src : List D} {t : MG} {mt : MT} {me : ME} {e : M.Env} {S : Store} (ι f : α → D) (p : α → Bool) : ∀ (as : List α), (∀ x ∈ as, ∃ e1, t (ι x) e S = some e1 ∧ mt e1 S = .ok (p x) S ∧ (p x = true → me e1 S = .ok (f x) S)) → lcM ⟨src, []⟩ t mt me e (as.map ι) S = .ok ((as.filter p).map f) S
  | [], _ => by rw [List.map_nil]; unfold lcM; rw [if_pos (Src.ok_nil _ _)]; rfl
  | x :: as, h => by
    obtain ⟨e1, h1, h2, h3⟩ := h x (by simp)
    have ih := lc_filter (src := src) ι f p as fun y hy => h y (List.mem_cons_of_mem _ hy)
    rw [List.map_cons]
    unfold lcM
    rw [if_pos (Src.ok_nil _ _), h1]
    dsimp only
    rw [h2, noEx_ok, Res.bind_ok]
    cases hp : p x with
    | false => rw [if_neg (by decide), ih, List.filter_cons_of_neg (by rw [hp]; decide)]
    | true => rw [if_pos rfl, h3 hp, noEx_ok, Res.bind_ok, ih, Res.bind_ok, List.filter_cons_of_pos hp]; rfl
/-- .. the store changes -/
theorem lc_runF {α : Type} {P : D → Prop} {src : List D} {t : MG} {mt : MT} {me : ME} {e : M.Env} (St : α → Store) : ∀ (ds : List D) (l : α), (∀ d ∈ ds, ∀ l, ∃ e1 b l', t d e (St l) = some e1 ∧ mt e1 (St l) = .ok b (St l') ∧ (b = true → ∃ y l'', P y ∧ me e1 (St l') = .ok y (St l''))) → ∃ ys l', ys.length ≤ ds.length ∧ (∀ y ∈ ys, P y) ∧ lcM ⟨src, []⟩ t mt me e ds (St l) = .ok ys (St l')
  | [], l, _ => ⟨[], l, Nat.le_refl _, by simp, by unfold lcM; rw [if_pos (Src.ok_nil _ _)]⟩
  | d :: ds, l, h => by
    obtain ⟨e1, b, l', h1, h2, h3⟩ := h d (by simp) l
    unfold lcM
    rw [if_pos (Src.ok_nil _ _), h1]
    dsimp only
    rw [h2, noEx_ok, Res.bind_ok]
    cases b with
    | false =>
      rw [if_neg (by decide)]
      obtain ⟨ys, l2, g1, g2, g3⟩ := lc_runF (src := src) St ds l' fun d hd => h d (List.mem_cons_of_mem _ hd)
      exact ⟨ys, l2, by simp; omega, g2, g3⟩
    | true =>
      obtain ⟨y, l1, py, h4⟩ := h3 rfl
      rw [if_pos rfl, h4, noEx_ok, Res.bind_ok]
      obtain ⟨ys, l2, g1, g2, g3⟩ := lc_runF (src := src) St ds l1 fun d hd => h d (List.mem_cons_of_mem _ hd)
      refine ⟨y :: ys, l2, by simp; omega, fun z hz => ?_, by rw [g3]; rfl⟩
      rcases List.mem_cons.mp hz with rfl | hz
      · exact py
      · exact g2 z hz
/-- numbers as values -/
abbrev nI (ps : List Nat) : List D := ps.map fun (p : Nat) => D.int (p : Int)
theorem nI_I (ps : List Nat) : nI ps = I (ps.map fun (p : Nat) => (p : Int)) := by rw [I, List.map_map]; rfl
theorem cls_nI (n : Nat) (ps : List Nat) : cls n (nI ps) = true := by rw [nI_I]; exact cls_I _ _
theorem nats_of {P : Nat → Prop} : ∀ {ys : List D}, (∀ y ∈ ys, ∃ x : Nat, y = .int (x : Int) ∧ P x) → ∃ r : List Nat, ys = nI r ∧ ∀ x ∈ r, P x
  | [], _ => ⟨[], rfl, by simp⟩
  | y :: ys, h => by
    obtain ⟨x, rfl, hx⟩ := h y (by simp)
    obtain ⟨r, rfl, hr⟩ := nats_of fun z hz => h z (List.mem_cons_of_mem _ hz)
    refine ⟨x :: r, rfl, fun z hz => ?_⟩
    rcases List.mem_cons.mp hz with rfl | hz
    · exact hx
    · exact hr z hz
theorem alike_ok {S : Store} (hS : clS S.length S = true) (d : D) (h : pl 7 d = true) : m__law_alike [d, d] S = .ok (.bl true) S := alike_refl hS 7 d h
end
end M


set_option Elab.async false
set_option linter.all false
set_option maxRecDepth 100000
set_option maxHeartbeats 4000000
/-! Fronts and hulls: what the functions come to. -/
namespace M.Fo
open PySem PySem.Spec PyProof.Rows L2 M
section
variable [Tabs]
variable {S : Store}
abbrev fD (l : List P) : D := .tup (l.map pD)
def cP : Cd P := Cd.pair Cd.int Cd.int
def cF : Cd (List P) := Cd.tup cP
theorem cF_d (l : List P) : cF.d l = fD l := rfl
theorem cls_pD (n : Nat) (l : List P) : cls n (l.map pD) = true := cP.cls n l
theorem ne_fD (x y : List P) : dNe (fD x) (fD y) S = some (.bl (!decide (x = y))) := cF.dNe (by show 2 ≤ 64; decide) x y S
theorem number_ok {x a b : Int} (h : clS S.length S = true) : m_is_number [.int x, .int a, .int b] S = .ok (.bl (decide (a ≤ x ∧ x ≤ b))) S := by
  refine retV_id ?_ h rfl
  by_cases h1 : a ≤ x
  · simp [runF, b_is_number, dIsInst, tyName, isT, h1]
  · simp [runF, b_is_number, dIsInst, tyName, isT, h1]
/-- the last one's loss -/
def lastL (l : List P) : Option Int := l.getLast?.map (·.2)
theorem lastL_snoc (l : List P) (p : P) : lastL (l ++ [p]) = some p.2 := by simp [lastL]
theorem ix_m1 {n : Nat} {xs : List D} {d : D} (h : S[n]? = some (.lst (xs ++ [d]))) : dIx (.loc n) (.int (-1)) S = some d := by
  show (seqOf S (.loc n)).bind (fun xs => atI xs (-1)) = _
  have : seqOf S (.loc n) = some (xs ++ [d]) := by simp [seqOf, lstOf, h]
  rw [this, Option.bind_some]
  unfold atI ixN
  rw [if_neg (by decide), if_pos (by simp; omega)]
  have : ((-1 : Int) + ((xs ++ [d]).length : Int)).toNat = xs.length := by simp; omega
  rw [this]
  simp
theorem ix_m2 {n : Nat} {xs : List D} {d d' : D} (h : S[n]? = some (.lst (xs ++ [d, d']))) : dIx (.loc n) (.int (-2)) S = some d := by
  show (seqOf S (.loc n)).bind (fun xs => atI xs (-2)) = _
  have : seqOf S (.loc n) = some (xs ++ [d, d']) := by simp [seqOf, lstOf, h]
  rw [this, Option.bind_some]
  unfold atI ixN
  rw [if_neg (by decide), if_pos (by simp; omega)]
  have : ((-2 : Int) + ((xs ++ [d, d']).length : Int)).toNat = xs.length := by simp; omega
  rw [this]
  simp
theorem ix_p0 (p : P) : dIx (pD p) (.int 0) S = some (.int p.1) := ix_tup _ 0 _ _ rfl
theorem ix_p1 (p : P) : dIx (pD p) (.int 1) S = some (.int p.2) := ix_tup _ 1 _ _ rfl
theorem len_loc {n : Nat} {xs : List D} (h : S[n]? = some (.lst xs)) : dLen [.loc n] S = some (.int xs.length) := by
  show (seqOf S (.loc n)).map _ = _
  have : seqOf S (.loc n) = some xs := by simp [seqOf, lstOf, h]
  rw [this]; rfl
theorem neg_ok (k : Int) (e : M.Env) : mUn dNeg (mC (.int k)) e S = .ok (.int (-k)) S := rfl
theorem front_turn {L o2 o3 : Option D} (acc : List P) (p : P) (hz : acc.length < 90000) :
    l_front_of_2 [L, some (.loc S.length), some (.int p.1), some (.int p.2)] (S ++ [OB.lst (acc.map pD)]) =
      some (.nx, [L, some (.loc S.length), some (.int p.1), some (.int p.2)], S ++ [OB.lst ((if lastL acc = none ∨ ∃ v, lastL acc = some v ∧ p.2 < v then acc ++ [p] else acc).map pD)]) := by
  have hl : mB (mBin dEq (mCall dLen (mCons (mVar 1) mNil)) (mC (.int 0))) [L, some (.loc S.length), some (.int p.1), some (.int p.2)] (S ++ [OB.lst (acc.map pD)]) = .ok (decide (acc = [])) (S ++ [OB.lst (acc.map pD)]) := by
    refine b_ok (bin_ok (call_ok (one_ok (var_ok rfl)) (len_loc (get_last _ _))) rfl (x_eqI.trans ?_))
    congr 2
    rw [decide_eq_decide, List.length_map]
    constructor
    · intro h; exact List.length_eq_zero_iff.mp (by omega)
    · rintro rfl; rfl
  have app : b_front_of_1 [L, some (.loc S.length), some (.int p.1), some (.int p.2)] (S ++ [OB.lst (acc.map pD)]) = some (.nx, [L, some (.loc S.length), some (.int p.1), some (.int p.2)], S ++ [OB.lst ((acc ++ [p]).map pD)]) := by
    unfold b_front_of_1
    refine expr_ok (d := .non) (meth_ok (var_ok rfl) rcv_last (one_ok (tup_ok (cons_ok (var_ok rfl) (one_ok (var_ok rfl))) (by show 2 ≤ sizeLine; decide))) ((app_last (by rw [List.length_map]; omega)).trans ?_))
    rw [List.map_append]; rfl
  unfold l_front_of_2
  rcases List.eq_nil_or_concat acc with rfl | ⟨acc', q, e⟩
  · have ht : (mOr (mB (mBin dEq (mCall dLen (mCons (mVar 1) mNil)) (mC (.int 0)))) (mB (mBin dLt (mVar 3) (mBin dIx (mBin dIx (mVar 1) (mUn dNeg (mC (.int 1)))) (mC (.int 1)))))) [L, some (.loc S.length), some (.int p.1), some (.int p.2)] (S ++ [OB.lst (([] : List P).map pD)]) = .ok true (S ++ [OB.lst (([] : List P).map pD)]) := by
      rw [x_mOr, hl]; rfl
    rw [if_pos (.inl rfl)]
    exact (if_t ht).trans app
  · rw [List.concat_eq_append] at e
    subst e
    have ht : (mOr (mB (mBin dEq (mCall dLen (mCons (mVar 1) mNil)) (mC (.int 0)))) (mB (mBin dLt (mVar 3) (mBin dIx (mBin dIx (mVar 1) (mUn dNeg (mC (.int 1)))) (mC (.int 1)))))) [L, some (.loc S.length), some (.int p.1), some (.int p.2)] (S ++ [OB.lst ((acc' ++ [q]).map pD)]) = .ok (decide (p.2 < q.2)) (S ++ [OB.lst ((acc' ++ [q]).map pD)]) := by
      rw [x_mOr, hl, Res.bind_ok, if_neg (by simp)]
      refine b_ok (bin_ok (var_ok rfl) (bin_ok (bin_ok (var_ok rfl) (neg_ok 1 _) (ix_m1 (xs := acc'.map pD) (d := pD q) ?_)) rfl (ix_p1 q)) x_lt)
      rw [get_last, List.map_append]; rfl
    rw [lastL_snoc]
    by_cases h : p.2 < q.2
    · rw [if_pos (.inr ⟨q.2, rfl, h⟩)]
      exact (if_t (ht.trans (by rw [decide_eq_true h]))).trans app
    · rw [if_neg (by rintro (z | ⟨v, z, k⟩); · cases z
                     · cases z; exact h k)]
      exact if_skip (ht.trans (by rw [decide_eq_false h]))
theorem front_loop {L : Option D} {xs : List D} : ∀ (l acc : List P) (o2 o3 : Option D), acc.length + l.length ≤ 90000 →
    ∃ o2' o3', M.forM ⟨xs, []⟩ (gTup 2 (gCons (gN 2) (gCons (gN 3) gNil))) l_front_of_2 (l.map pD) [L, some (.loc S.length), o2, o3] (S ++ [OB.lst (acc.map pD)]) =
      some (.nx, [L, some (.loc S.length), o2', o3'], S ++ [OB.lst ((acc ++ fro (lastL acc) l).map pD)])
  | [], acc, o2, o3, _ => ⟨o2, o3, by
    have : fro (lastL acc) [] = [] := by cases lastL acc <;> rfl
    rw [this, List.append_nil]; exact for_nil⟩
  | p :: l, acc, o2, o3, hz => by
    simp only [List.length_cons] at hz
    have h1 := front_turn (S := S) (L := L) (o2 := o2) (o3 := o3) acc p (by omega)
    have hstep : ∀ acc2 : List P, acc2.length ≤ acc.length + 1 → acc2 ++ fro (lastL acc2) l = acc ++ fro (lastL acc) (p :: l) → l_front_of_2 [L, some (.loc S.length), some (.int p.1), some (.int p.2)] (S ++ [OB.lst (acc.map pD)]) = some (.nx, [L, some (.loc S.length), some (.int p.1), some (.int p.2)], S ++ [OB.lst (acc2.map pD)]) →
        ∃ o2' o3', M.forM ⟨xs, []⟩ (gTup 2 (gCons (gN 2) (gCons (gN 3) gNil))) l_front_of_2 ((p :: l).map pD) [L, some (.loc S.length), o2, o3] (S ++ [OB.lst (acc.map pD)]) =
          some (.nx, [L, some (.loc S.length), o2', o3'], S ++ [OB.lst ((acc ++ fro (lastL acc) (p :: l)).map pD)]) := by
      intro acc2 hl he h
      obtain ⟨a, b, h2⟩ := front_loop (L := L) (xs := xs) l acc2 (some (.int p.1)) (some (.int p.2)) (by omega)
      rw [he] at h2
      exact ⟨a, b, (for_cons rfl h).trans h2⟩
    cases hL : lastL acc with
    | none =>
      rw [hL, if_pos (.inl rfl)] at h1
      rw [← hL]
      refine hstep (acc ++ [p]) (by simp) ?_ h1
      rw [lastL_snoc, hL, List.append_assoc]; rfl
    | some v =>
      rw [hL] at h1
      rw [← hL]
      by_cases h : p.2 < v
      · rw [if_pos (.inr ⟨v, rfl, h⟩)] at h1
        refine hstep (acc ++ [p]) (by simp) ?_ h1
        rw [lastL_snoc, hL, List.append_assoc]
        simp [fro, h]
      · rw [if_neg (by rintro (z | ⟨w, z, k⟩); · cases z
                       · cases z; exact h k)] at h1
        refine hstep acc (by omega) ?_ h1
        rw [hL]
        simp [fro, h]
theorem sorted_ok {d : D} {r : List P} (h : lstOf S d = some (r.map pD)) : nSorted [d] S = some ((isort lexB r).map pD) := by
  simp only [nSorted, h, Option.bind_some, pairsOf_pD]
theorem fro_len : ∀ (l : List P) (m : Option Int), (fro m l).length ≤ l.length
  | [], m => by cases m <;> simp [fro]
  | p :: l, none => by have := fro_len l (some p.2); simp only [fro, List.length_cons]; omega
  | p :: l, some v => by
    have h1 := fro_len l (some p.2)
    have h2 := fro_len l (some v)
    unfold fro
    split <;> simp only [List.length_cons] <;> omega
theorem front_len (r : List P) : (front r).length ≤ r.length := by
  have := fro_len (isort lexB r) none
  rw [(isort_perm r).length_eq] at this
  exact this
theorem front_ok (hS : clS S.length S = true) {d : D} {r : List P} (h : lstOf S d = some (r.map pD)) (hn : (match d with | .loc n => n < S.length | _ => True)) (hr : r.length ≤ 4000) : m_front_of [d] S = .ok (fD (front r)) S := by
  have hst : lstOf (S ++ [OB.lst []]) d = some (r.map pD) := by
    cases d with
    | loc n =>
      simp only [lstOf] at h ⊢
      rw [List.getElem?_append_left hn]
      exact h
    | lst xs => exact h
    | fro xs => exact h
    | _ => simp [lstOf] at h
  obtain ⟨o2, o3, hf⟩ := front_loop (S := S) (L := some d) (xs := (isort lexB r).map pD) (isort lexB r) [] none none (by rw [(isort_perm r).length_eq]; simp; omega)
  have hlen := front_len r
  have e : [] ++ fro (lastL []) (isort lexB r) = front r := rfl
  rw [e] at hf
  refine (retV_ok (d := fD (front r)) (d' := fD (front r)) (S' := S ++ [OB.lst ((front r).map pD)]) (run_rt (e' := [some d, some (.loc S.length), o2, o3]) ?_) (by simpa using hS) ?_).trans (by simp)
  · show b_front_of [some d, none, none, none] S = _
    unfold b_front_of
    refine (seq_nx (set_ok (asL_ok (lst_ok rfl (Nat.zero_le _))))).trans ?_
    refine (seq_nx (for_ok (S1 := S ++ [OB.lst []]) (src_lst (asV_ok (ds := (isort lexB r).map pD) ?_)) hf)).trans ?_
    · rw [x_mCallN, one_ok (var_ok (d := d) rfl), Res.bind_ok, sorted_ok hst]; rfl
    refine (seq_nx (if_skip (S1 := S ++ [OB.lst ((front r).map pD)]) ?_)).trans (ret_ok ?_)
    · refine b_ok (bin_ok (call_ok (one_ok (var_ok rfl)) (len_loc (get_last _ _))) rfl (x_gt.trans ?_))
      rw [decide_eq_false]
      rw [List.length_map]; omega
    · refine call_ok (one_ok (var_ok rfl)) ?_
      simp [dTuple, seqOf, lstOf]
  · simp only [fz, cl, cls_pD, if_true]
theorem put_ok (hS : clS S.length S = true) (a b : List P) (hz : a.length * b.length ≤ 4000) (hb : b.length ≤ 4000) : m_put_together [fD a, fD b] S = .ok (fD (put a b)) S := by
  have loop : ∀ (l : List P) (acc : List P) (xs : List D) (o3 o4 o5 o6 : Option D), acc.length + (sums l b).length ≤ 4000 → ∃ o3' o4' o5' o6', M.forM ⟨xs, []⟩ (gTup 2 (gCons (gN 3) (gCons (gN 4) gNil))) l_put_together_2 (l.map pD) [some (fD a), some (fD b), some (.loc S.length), o3, o4, o5, o6] (S ++ [OB.lst (acc.map pD)]) =
      some (.nx, [some (fD a), some (fD b), some (.loc S.length), o3', o4', o5', o6'], S ++ [OB.lst ((acc ++ sums l b).map pD)]) := by
    intro l
    induction l with
    | nil => intro acc xs o3 o4 o5 o6 _; exact ⟨o3, o4, o5, o6, by rw [show sums [] b = [] from rfl, List.append_nil]; exact for_nil⟩
    | cons p l ih =>
      intro acc xs o3 o4 o5 o6 h
      have hs : sums (p :: l) b = b.map (add p) ++ sums l b := by simp [sums]
      rw [hs, List.length_append, List.length_map] at h
      obtain ⟨a3, a4, a5, a6, hi⟩ := ih (acc ++ b.map (add p)) xs (some (.int p.1)) (some (.int p.2)) o5 o6 (by simp; omega)
      refine ⟨a3, a4, a5, a6, (for_cons rfl ?_).trans (by rw [hs, ← List.append_assoc]; exact hi)⟩
      unfold l_put_together_2
      have hc : mLc (mSrc (mVar 1)) (gTup 2 (gCons (gN 5) (gCons (gN 6) gNil))) mYes e_put_together_1 [5, 6] [some (fD a), some (fD b), some (.loc S.length), some (.int p.1), some (.int p.2), o5, o6] (S ++ [OB.lst (acc.map pD)]) = .ok ((b.map (add p)).map pD) (S ++ [OB.lst (acc.map pD)]) := by
        refine (x_mLc' (src_tup (xs := b.map pD) (var_ok rfl)) (by rw [List.length_map]; omega)).trans ?_
        rw [List.map_map]
        refine lc_map (f := pD ∘ add p) pD b fun q hq => ⟨[some (fD a), some (fD b), some (.loc S.length), some (.int p.1), some (.int p.2), some (.int q.1), some (.int q.2)], rfl, ?_⟩
        exact tup_ok (cons_ok (bin_ok (var_ok rfl) (var_ok rfl) x_add) (one_ok (bin_ok (var_ok rfl) (var_ok rfl) x_add))) (by show 2 ≤ sizeLine; decide)
      refine expr_ok (d := .non) (meth_ok (var_ok rfl) rcv_last (one_ok (asV_ok hc)) ((ext_last (by simp; omega)).trans ?_))
      rw [List.map_append]
  obtain ⟨o3, o4, o5, o6, hf⟩ := loop a [] (a.map pD) none none none none (by rw [sums_len]; simpa using hz)
  rw [List.nil_append] at hf
  have hS2 : clS (S ++ [OB.lst ((sums a b).map pD)]).length (S ++ [OB.lst ((sums a b).map pD)]) = true := clS_push hS (cls_pD _ _)
  refine (retV_ok (d := fD (put a b)) (d' := fD (put a b)) (S' := S ++ [OB.lst ((sums a b).map pD)]) (run_rt (e' := [some (fD a), some (fD b), some (.loc S.length), o3, o4, o5, o6]) ?_) (by simpa using hS) ?_).trans (by simp)
  · show b_put_together [some (fD a), some (fD b), none, none, none, none, none] S = _
    unfold b_put_together
    refine (seq_nx (set_ok (asL_ok (lst_ok rfl (Nat.zero_le _))))).trans ?_
    refine (seq_nx (for_ok (S1 := S ++ [OB.lst []]) (src_tup (var_ok rfl)) hf)).trans (ret_ok (callF_ok (one_ok (var_ok rfl)) (front_ok hS2 (d := .loc S.length) (r := sums a b) ?_ ?_ ?_)))
    · simp [lstOf]
    · simp
    · rw [sums_len]; exact hz
  · simp only [fz, cl, cls_pD, if_true]
theorem either_ok (hS : clS S.length S = true) (a b : List P) (hz : a.length + b.length ≤ 4000) : m_either [fD a, fD b] S = .ok (fD (front (a ++ b))) S := by
  refine ret_fn hS (callF_ok (one_ok (asV_ok (lst_ok (ds := (a ++ b).map pD) ?_ (sz (by simp; omega))))) (front_ok hS (r := a ++ b) rfl trivial (by simp; omega))) (by simp only [cl, cls_pD])
  show mStar (mVar 0) (mStar (mVar 1) mNil) [some (fD a), some (fD b)] S = _
  have h2 : mStar (mVar 1) mNil [some (fD a), some (fD b)] S = .ok (b.map pD) S := by
    unfold mStar
    rw [var_ok (d := fD b) rfl, Res.bind_ok]
    show (Res.ok ([] : List D) S).bind _ = _
    rw [Res.bind_ok, List.append_nil]
  conv => lhs; unfold mStar
  rw [var_ok (d := fD a) rfl, Res.bind_ok]
  show (mStar (mVar 1) mNil [some (fD a), some (fD b)] S).bind _ = _
  rw [h2, Res.bind_ok, List.map_append]
end
end M.Fo


set_option Elab.async false
set_option linter.all false
set_option maxRecDepth 100000
set_option maxHeartbeats 4000000
/-! Fronts and hulls: what the other functions come to. -/
namespace M.Fo
open PySem PySem.Spec PyProof.Rows L2 M
/-- small enough for a product -/
def Small (p : P) : Prop := p.1.natAbs < 576460752303423488 ∧ p.2.natAbs < 576460752303423488
section
variable [Tabs]
variable {S : Store}
theorem put_len (a b : List P) : (put a b).length ≤ a.length * b.length := by rw [← sums_len]; exact front_len _
theorem all3_ok (hS : clS S.length S = true) {a b c : List P} (ha : Fro a) (h1 : a.length ≤ 10) (h2 : b.length ≤ 10) (h3 : c.length ≤ 10) : m_all_together [.tup [fD a, fD b, fD c]] S = .ok (fD (put (put a b) c)) S := by
  have st : ∀ (x y : List P) (o o2 : Option D), x.length * y.length ≤ 4000 → y.length ≤ 4000 → l_all_together_1 [o, some (fD x), some (fD y)] S = some (.nx, [o, some (fD (put x y)), some (fD y)], S) := fun x y o o2 h1 h2 => set_ok (callF_ok (cons_ok (var_ok rfl) (one_ok (var_ok rfl))) (put_ok hS x y h1 h2))
  have e0 : put [(0, 0)] a = a := zero_put ha
  have s1 := st [(0, 0)] a (some (.tup [fD a, fD b, fD c])) none (by simp; omega) (by omega)
  rw [e0] at s1
  have l2 : a.length * b.length ≤ 100 := Nat.mul_le_mul h1 h2
  have s2 := st a b (some (.tup [fD a, fD b, fD c])) none (by omega) (by omega)
  have l3 : (put a b).length * c.length ≤ 100 * 10 := Nat.mul_le_mul (Nat.le_trans (put_len a b) l2) h3
  have s3 := st (put a b) c (some (.tup [fD a, fD b, fD c])) none (by omega) (by omega)
  refine retV_id (run_rt (e' := [some (.tup [fD a, fD b, fD c]), some (fD (put (put a b) c)), some (fD c)]) ?_) hS (by simp only [cl, cls_pD])
  show b_all_together [some (.tup [fD a, fD b, fD c]), none, none] S = _
  unfold b_all_together
  refine (seq_nx (set_ok (d := fD [(0, 0)]) (tup_ok (one_ok (tup_ok (cons_ok rfl (one_ok rfl)) (by show 2 ≤ sizeLine; decide))) (by show 1 ≤ sizeLine; decide)))).trans ?_
  exact (seq_nx (for_ok (src_tup (var_ok rfl)) ((for_cons rfl s1).trans ((for_cons rfl s2).trans ((for_cons rfl s3).trans for_nil))))).trans (ret_ok (var_ok rfl))
theorem least_bits_ok (hS : clS S.length S = true) {l : List P} {v : Int} {p : P} (h : l.find? (fun p => decide (p.2 ≤ v)) = some p) : m_least_bits [fD l, .int v] S = .ok (pD p) S := by
  have loop : ∀ (m : List P) (xs : List D) (o2 : Option D), m.find? (fun p => decide (p.2 ≤ v)) = some p → ∃ e', M.forM ⟨xs, []⟩ (gN 2) l_least_bits_1 (m.map pD) [some (fD l), some (.int v), o2] S = some (.rt (pD p), e', S) := by
    intro m
    induction m with
    | nil => intro xs o2 h; cases h
    | cons q m ih =>
      intro xs o2 h
      have ht : mB (mBin dLe (mBin dIx (mVar 2) (mC (.int 1))) (mVar 1)) [some (fD l), some (.int v), some (pD q)] S = .ok (decide (q.2 ≤ v)) S := b_ok (bin_ok (bin_ok (var_ok rfl) rfl (ix_p1 q)) (var_ok rfl) x_le)
      rw [List.find?_cons] at h
      by_cases hq : q.2 ≤ v
      · rw [decide_eq_true hq] at h ht
        cases h
        refine ⟨[some (fD l), some (.int v), some (pD p)], ?_⟩
        rw [List.map_cons]
        unfold M.forM
        rw [if_pos (Src.ok_nil _ _)]
        show stepF (l_least_bits_1 [some (fD l), some (.int v), some (pD p)] S) _ = _
        have : l_least_bits_1 [some (fD l), some (.int v), some (pD p)] S = some (.rt (pD p), [some (fD l), some (.int v), some (pD p)], S) := (if_t ht).trans (ret_ok (var_ok rfl))
        rw [this]
        rfl
      · rw [decide_eq_false hq] at h ht
        obtain ⟨e', h2⟩ := ih xs (some (pD q)) h
        exact ⟨e', (for_cons rfl (if_skip ht)).trans h2⟩
  obtain ⟨e', h2⟩ := loop l (l.map pD) none h
  refine retV_id (run_rt (e' := e') ?_) hS (by simp only [cl, cls, pD, Bool.and_true])
  show b_least_bits [some (fD l), some (.int v), none] S = _
  exact seq_rt (for_ok (src_tup (var_ok rfl)) h2)
/-- the last with so few bits -/
def lastB (v : Int) : Option P → List P → Option P
  | acc, [] => acc
  | acc, q :: l => lastB v (if q.1 ≤ v then some q else acc) l
theorem lastB_none (v : Int) : ∀ (l : List P) (acc : Option P), (∀ q ∈ l, v < q.1) → lastB v acc l = acc
  | [], _, _ => rfl
  | q :: l, acc, h => by
    unfold lastB
    have := h q (by simp)
    rw [if_neg (by omega), lastB_none v l acc fun x hx => h x (by simp [hx])]
theorem lastB_at : ∀ (l : List P) (acc : Option P) (p : P), Fro l → p ∈ l → lastB p.1 acc l = some p
  | [], _, _, _, h => by simp at h
  | q :: l, acc, p, hf, h => by
    have h1 := List.pairwise_cons.mp hf
    unfold lastB
    rcases List.mem_cons.mp h with rfl | h
    · rw [if_pos (Int.le_refl _), lastB_none _ l _ fun x hx => (h1.1 x hx).1]
    · exact lastB_at l _ p h1.2 h
def oD : Option P → D
  | none => .non
  | some p => pD p
theorem least_loss_ok (hS : clS S.length S = true) {l : List P} {p : P} (hf : Fro l) (hp : p ∈ l) : m_least_loss [fD l, .int p.1] S = .ok (pD p) S := by
  have loop : ∀ (m : List P) (xs : List D) (acc : Option P) (o3 : Option D), ∃ o3', M.forM ⟨xs, []⟩ (gN 3) l_least_loss_1 (m.map pD) [some (fD l), some (.int p.1), some (oD acc), o3] S = some (.nx, [some (fD l), some (.int p.1), some (oD (lastB p.1 acc m)), o3'], S) := by
    intro m
    induction m with
    | nil => intro xs acc o3; exact ⟨o3, for_nil⟩
    | cons q m ih =>
      intro xs acc o3
      have ht : mB (mBin dLe (mBin dIx (mVar 3) (mC (.int 0))) (mVar 1)) [some (fD l), some (.int p.1), some (oD acc), some (pD q)] S = .ok (decide (q.1 ≤ p.1)) S := b_ok (bin_ok (bin_ok (var_ok rfl) rfl (ix_p0 q)) (var_ok rfl) x_le)
      obtain ⟨o3', h2⟩ := ih xs (if q.1 ≤ p.1 then some q else acc) (some (pD q))
      refine ⟨o3', (for_cons rfl ?_).trans h2⟩
      by_cases h : q.1 ≤ p.1
      · rw [if_pos h]; rw [decide_eq_true h] at ht
        exact (if_t ht).trans (set_ok (var_ok rfl))
      · rw [if_neg h]; rw [decide_eq_false h] at ht
        exact if_skip ht
  obtain ⟨o3, h2⟩ := loop l (l.map pD) none none
  rw [lastB_at l none p hf hp] at h2
  refine retV_id (run_rt (e' := [some (fD l), some (.int p.1), some (pD p), o3]) ?_) hS (by simp only [cl, cls, pD, Bool.and_true])
  show b_least_loss [some (fD l), some (.int p.1), none, none] S = _
  refine (seq_nx (set_ok (d := .non) rfl)).trans ((seq_nx (for_ok (src_tup (var_ok rfl)) h2)).trans ((seq_nx (if_skip ?_)).trans (ret_ok (var_ok rfl))))
  exact b_ok (bin_ok (u := pD p) (v := .non) rfl rfl rfl)
/-! prices -/
def Fair (a b : Int) : Prop := (1 ≤ a ∧ a ≤ 1000000) ∧ 1 ≤ b ∧ b ≤ 1000000
theorem andV_t {x y : ME} {e : M.Env} {d : D} {S1 S2 : Store} (hx : x e S = .ok (.bl true) S1) (hy : y e S1 = .ok d S2) : mAndV x y e S = .ok d S2 := by rw [x_mAndV, hx, Res.bind_ok]; exact hy
theorem price_ok (hS : clS S.length S = true) {a b : Int} (h : Fair a b) : m_is_price [pD (a, b)] S = .ok (.bl true) S := by
  refine retV_id (run_rt (e' := [some (pD (a, b))]) ?_) hS rfl
  show b_is_price [some (pD (a, b))] S = _
  refine (seq_nx (if_skip (or_ff ?_ ?_))).trans (ret_ok (andV_t (callF_ok (cons_ok (bin_ok (var_ok rfl) rfl (ix_p0 (a, b))) (cons_ok rfl (one_ok rfl))) ((number_ok hS).trans ?_)) ((callF_ok (cons_ok (bin_ok (var_ok rfl) rfl (ix_p1 (a, b))) (cons_ok rfl (one_ok rfl))) (number_ok hS)).trans ?_)))
  · rfl
  · exact ne_ff (call_ok (one_ok (var_ok rfl)) len_tup) rfl (neI rfl)
  · rw [decide_eq_true h.1]
  · rw [decide_eq_true h.2]
theorem weighed_ok (hS : clS S.length S = true) {a b : Int} (h : Fair a b) (p : P) : m_weighed [pD (a, b), pD p] S = .ok (.int (wt a b p)) S := by
  obtain ⟨⟨h1, h2⟩, h3, h4⟩ := h
  exact ret_fn hS (bin_ok (bin_ok (bin_ok (var_ok rfl) rfl (ix_p0 (a, b))) (bin_ok (var_ok rfl) rfl (ix_p0 p)) (x_mul (.inl (by show a.natAbs < 2 ^ 64; omega)))) (bin_ok (bin_ok (var_ok rfl) rfl (ix_p1 (a, b))) (bin_ok (var_ok rfl) rfl (ix_p1 p)) (x_mul (.inl (by show b.natAbs < 2 ^ 64; omega)))) x_add) rfl
theorem cut1 (x : D) (xs : List D) : dSlice (.tup (x :: xs)) (some 1) none S = some (.tup xs) := by
  show some (D.tup (cutD (x :: xs) (some 1) none)) = _
  have := cutD_map id (x :: xs) (some 1) none
  simp only [List.map_id] at this
  rw [this]
  unfold cutG
  have e1 : HT.sIx (x :: xs).length 0 (some 1) = 1 := by simp [HT.sIx]
  have e2 : HT.sIx (x :: xs).length (x :: xs).length none = (x :: xs).length := rfl
  rw [e1, e2]
  simp
theorem best_ok (hS : clS S.length S = true) {a b : Int} (h : Fair a b) (f : P) (r : List P) : m_best_at [fD (f :: r), pD (a, b)] S = .ok (pD (bst a b f r)) S := by
  have loop : ∀ (m : List P) (xs : List D) (acc : P) (o3 : Option D), ∃ o3', M.forM ⟨xs, []⟩ (gN 3) l_best_at_1 (m.map pD) [some (fD (f :: r)), some (pD (a, b)), some (pD acc), o3] S = some (.nx, [some (fD (f :: r)), some (pD (a, b)), some (pD (bst a b acc m)), o3'], S) := by
    intro m
    induction m with
    | nil => intro xs acc o3; exact ⟨o3, for_nil⟩
    | cons q m ih =>
      intro xs acc o3
      have ht : mB (mBin dLt (mCallF 2 m_weighed (mCons (mVar 1) (mCons (mVar 3) mNil))) (mCallF 2 m_weighed (mCons (mVar 1) (mCons (mVar 2) mNil)))) [some (fD (f :: r)), some (pD (a, b)), some (pD acc), some (pD q)] S = .ok (decide (wt a b q < wt a b acc)) S :=
        b_ok (bin_ok (callF_ok (cons_ok (var_ok rfl) (one_ok (var_ok rfl))) (weighed_ok hS h q)) (callF_ok (cons_ok (var_ok rfl) (one_ok (var_ok rfl))) (weighed_ok hS h acc)) x_lt)
      obtain ⟨o3', h2⟩ := ih xs (if wt a b q < wt a b acc then q else acc) (some (pD q))
      refine ⟨o3', (for_cons rfl ?_).trans h2⟩
      by_cases hq : wt a b q < wt a b acc
      · rw [if_pos hq]; rw [decide_eq_true hq] at ht
        exact (if_t ht).trans (set_ok (var_ok rfl))
      · rw [if_neg hq]; rw [decide_eq_false hq] at ht
        exact if_skip ht
  obtain ⟨o3, h2⟩ := loop r (r.map pD) f none
  refine retV_id (run_rt (e' := [some (fD (f :: r)), some (pD (a, b)), some (pD (bst a b f r)), o3]) ?_) hS (by simp only [cl, cls, pD, Bool.and_true])
  show b_best_at [some (fD (f :: r)), some (pD (a, b)), none, none] S = _
  have hp : mNot (mTru (mCallF 1 m_is_price (mCons (mVar 1) mNil))) [some (fD (f :: r)), some (pD (a, b)), none, none] S = .ok false S := by
    rw [x_mNot, x_mTru, callF_ok (one_ok (var_ok rfl)) (price_ok hS h)]; rfl
  exact (seq_nx (if_skip hp)).trans ((seq_nx (set_ok (bin_ok (var_ok rfl) rfl (ix0 _ _ _)))).trans ((seq_nx (for_ok (src_tup (slice_ok (var_ok rfl) (part_ok rfl) rfl (cut1 _ _))) h2)).trans (ret_ok (var_ok rfl))))
/-! hulls -/
theorem below_ok (hS : clS S.length S = true) {o m n : P} (ho : Small o) (hm : Small m) (hn : Small n) : m_is_below [pD o, pD m, pD n] S = .ok (.bl (decide (below o m n))) S := by
  obtain ⟨o1, o2⟩ := ho
  obtain ⟨m1, m2⟩ := hm
  obtain ⟨n1, n2⟩ := hn
  refine ret_fn hS (bin_ok (bin_ok (bin_ok (bin_ok (var_ok rfl) rfl (ix_p1 o)) (bin_ok (var_ok rfl) rfl (ix_p1 m)) x_sub) (bin_ok (bin_ok (var_ok rfl) rfl (ix_p0 n)) (bin_ok (var_ok rfl) rfl (ix_p0 o)) x_sub) (x_mul (.inl ?_))) (bin_ok (bin_ok (bin_ok (var_ok rfl) rfl (ix_p1 o)) (bin_ok (var_ok rfl) rfl (ix_p1 n)) x_sub) (bin_ok (bin_ok (var_ok rfl) rfl (ix_p0 m)) (bin_ok (var_ok rfl) rfl (ix_p0 o)) x_sub) (x_mul (.inl ?_))) x_gt) rfl
  · omega
  · omega
theorem and_f {s t : MT} {e : M.Env} {S1 : Store} (h : s e S = .ok false S1) : mAnd s t e S = .ok false S1 := by rw [x_mAnd, h]; rfl
theorem and_t {s t : MT} {e : M.Env} {S1 S2 : Store} {c : Bool} (h : s e S = .ok true S1) (g : t e S1 = .ok c S2) : mAnd s t e S = .ok c S2 := by rw [x_mAnd, h, Res.bind_ok]; exact g
theorem pop_last {xs : List D} {x : D} : gPop (.loc S.length) [] (S ++ [.lst (xs ++ [x])]) = some (x, S ++ [.lst xs]) := by
  unfold gPop
  simp only [get_last]
  rw [set_last]
  simp
theorem pop_loop (hS : clS S.length S = true) (n : P) (hn : Small n) {L : Option D} : ∀ (st : List P), (∀ p ∈ st, Small p) → ∀ k, st.length < k → whileM t_hull_2 l_hull_1 k [L, some (.loc S.length), some (pD n)] (S ++ [OB.lst (st.reverse.map pD)]) = some (.nx, [L, some (.loc S.length), some (pD n)], S ++ [OB.lst ((popS n st).reverse.map pD)])
  | [], _, k, hk => by
    obtain ⟨k, rfl⟩ : ∃ j, k = j + 1 := ⟨k - 1, by omega⟩
    exact whl_no (and_f (b_ok (bin_ok (call_ok (one_ok (var_ok rfl)) (len_loc (get_last _ _))) rfl (x_gt.trans (by simp)))))
  | [m], _, k, hk => by
    obtain ⟨k, rfl⟩ : ∃ j, k = j + 1 := ⟨k - 1, by omega⟩
    exact whl_no (and_f (b_ok (bin_ok (call_ok (one_ok (var_ok rfl)) (len_loc (get_last _ _))) rfl (x_gt.trans (by simp)))))
  | m :: o :: r, h, k, hk => by
    obtain ⟨k, rfl⟩ : ∃ j, k = j + 1 := ⟨k - 1, by omega⟩
    have hS2 : clS (S ++ [OB.lst ((m :: o :: r).reverse.map pD)]).length (S ++ [OB.lst ((m :: o :: r).reverse.map pD)]) = true := clS_push hS (cls_pD _ _)
    have e2 : (m :: o :: r).reverse.map pD = r.reverse.map pD ++ [pD o, pD m] := by simp
    have e1 : (m :: o :: r).reverse.map pD = (o :: r).reverse.map pD ++ [pD m] := by simp
    have ht : t_hull_2 [L, some (.loc S.length), some (pD n)] (S ++ [OB.lst ((m :: o :: r).reverse.map pD)]) = .ok (!decide (below o m n)) (S ++ [OB.lst ((m :: o :: r).reverse.map pD)]) := by
      refine and_t (b_ok (bin_ok (call_ok (one_ok (var_ok rfl)) (len_loc (get_last _ _))) rfl (x_gt.trans ?_))) ?_
      · rw [decide_eq_true (by simp; omega)]
      · rw [x_mNot, x_mTru, callF_ok (cons_ok (bin_ok (var_ok rfl) (neg_ok 2 _) (ix_m2 (by rw [get_last, e2]))) (cons_ok (bin_ok (var_ok rfl) (neg_ok 1 _) (ix_m1 (by rw [get_last, e1]))) (one_ok (var_ok rfl)))) (below_ok hS2 (h o (by simp)) (h m (by simp)) hn)]
        rfl
    by_cases hb : below o m n
    · rw [decide_eq_true hb] at ht
      have : popS n (m :: o :: r) = m :: o :: r := by rw [popS, if_pos hb]
      rw [this]
      exact whl_no ht
    · rw [decide_eq_false hb] at ht
      have : popS n (m :: o :: r) = popS n (o :: r) := by rw [popS, if_neg hb]
      rw [this]
      refine (whl_go ht (expr_ok (d := pD m) (meth_ok (var_ok rfl) rcv_last rfl ?_))).trans (pop_loop hS n hn (o :: r) (fun p hp => h p (List.mem_cons_of_mem _ hp)) k (by simp only [List.length_cons] at hk ⊢; omega))
      rw [e1]
      exact pop_last
theorem pop_len (n : P) (st : List P) : (popS n st).length ≤ st.length := by
  obtain ⟨k, e⟩ := pop_sub n st
  rw [e, List.length_drop]; omega
theorem stk_len : ∀ (l st : List P), (l.foldl push st).length ≤ st.length + l.length
  | [], st => Nat.le_refl _
  | p :: l, st => by
    have := stk_len l (push st p)
    have h2 := pop_len p st
    simp only [List.foldl_cons, List.length_cons] at this ⊢
    simp only [push, List.length_cons] at this
    unfold push at this ⊢
    omega
theorem hull_len (l : List P) : (hull l).length ≤ l.length := by
  have := stk_len l []
  simpa [hull, stk] using this
theorem hull_ok (hS : clS S.length S = true) {l : List P} (h : ∀ p ∈ l, Small p) (hz : l.length ≤ 4000) : m_hull [fD l] S = .ok (fD (hull l)) S := by
  have loop : ∀ (m : List P) (xs : List D) (st : List P) (o2 : Option D), st.length + m.length ≤ 4000 → (∀ p ∈ st, Small p) → (∀ p ∈ m, Small p) → ∃ o2', M.forM ⟨xs, []⟩ (gN 2) l_hull_3 (m.map pD) [some (fD l), some (.loc S.length), o2] (S ++ [OB.lst (st.reverse.map pD)]) =
      some (.nx, [some (fD l), some (.loc S.length), o2'], S ++ [OB.lst ((m.foldl push st).reverse.map pD)]) := by
    intro m
    induction m with
    | nil => intro xs st o2 _ _ _; exact ⟨o2, for_nil⟩
    | cons n m ih =>
      intro xs st o2 hz hs hm
      simp only [List.length_cons] at hz
      have hl := pop_len n st
      obtain ⟨o2', h2⟩ := ih xs (push st n) (some (pD n)) (by simp only [push, List.length_cons]; omega) (fun p hp => by
        rcases List.mem_cons.mp hp with rfl | hp
        · exact hm _ (by simp)
        · exact hs p (pop_mem hp)) fun p hp => hm p (List.mem_cons_of_mem _ hp)
      refine ⟨o2', (for_cons rfl ?_).trans h2⟩
      refine (seq_nx (pop_loop hS n (hm n (by simp)) st hs (2 ^ 40) (by omega))).trans (expr_ok (d := .non) (meth_ok (var_ok rfl) rcv_last (one_ok (var_ok rfl)) ((app_last (by rw [List.length_map, List.length_reverse]; omega)).trans ?_)))
      simp [push]
  obtain ⟨o2, h2⟩ := loop l (l.map pD) [] none (by simpa using hz) (by simp) h
  refine (retV_ok (d := fD (hull l)) (d' := fD (hull l)) (S' := S ++ [OB.lst ((hull l).map pD)]) (run_rt (e' := [some (fD l), some (.loc S.length), o2]) ?_) (by simpa using hS) ?_).trans (by simp)
  · show b_hull [some (fD l), none, none] S = _
    refine (seq_nx (set_ok (asL_ok (lst_ok rfl (Nat.zero_le _))))).trans ((seq_nx (for_ok (S1 := S ++ [OB.lst []]) (src_tup (var_ok rfl)) h2)).trans (ret_ok (call_ok (one_ok (var_ok rfl)) ?_)))
    simp [dTuple, seqOf, lstOf, hull, stk]
  · simp only [fz, cl, cls_pD, if_true]
end
end M.Fo


set_option Elab.async false
set_option linter.all false
set_option maxRecDepth 100000
set_option maxHeartbeats 4000000
/-! Hulls put together, bounds, fronts told: what the functions come to. -/
namespace M.Fo
open PySem PySem.Spec PyProof.Rows L2 M
theorem mem_steps : ∀ {l : List P} {t : P}, t ∈ steps l → ∃ p ∈ l, ∃ q ∈ l, t = (q.1 - p.1, p.2 - q.2)
  | [], t, h => by simp [steps] at h
  | [_], t, h => by simp [steps] at h
  | p :: q :: r, t, h => by
    rcases List.mem_cons.mp h with rfl | h
    · exact ⟨p, by simp, q, by simp, rfl⟩
    · obtain ⟨a, ha, b, hb, e⟩ := mem_steps h
      exact ⟨a, List.mem_cons_of_mem _ ha, b, List.mem_cons_of_mem _ hb, e⟩
theorem steps_len : ∀ (p : P) (r : List P), (steps (p :: r)).length = r.length
  | p, [] => rfl
  | p, q :: r => by rw [steps, List.length_cons, steps_len q r]; rfl
theorem chain_len : ∀ (s : List P) (p : P), (chain p s).length = s.length + 1
  | [], p => rfl
  | t :: s, p => by rw [chain, List.length_cons, chain_len s]; rfl
theorem chain_small : ∀ (s : List P) (p : P), (∀ t ∈ s, t.1.natAbs ≤ 2000000 ∧ t.2.natAbs ≤ 2000000) → ∀ q ∈ chain p s, q.1.natAbs ≤ p.1.natAbs + s.length * 2000000 ∧ q.2.natAbs ≤ p.2.natAbs + s.length * 2000000
  | [], p, _, q, hq => by
    simp only [chain, List.mem_singleton] at hq
    subst hq
    exact ⟨Nat.le_add_right _ _, Nat.le_add_right _ _⟩
  | t :: s, p, h, q, hq => by
    rcases List.mem_cons.mp hq with rfl | hq
    · exact ⟨Nat.le_add_right _ _, Nat.le_add_right _ _⟩
    · have h1 := h t (by simp)
      have h2 := chain_small s (shift p t) (fun t ht => h t (List.mem_cons_of_mem _ ht)) q hq
      simp only [shift, List.length_cons] at h2 ⊢
      omega
theorem insR_len (t : P) (r : List P) : (insR t r).length = r.length + 1 := (insR_perm t r).length_eq
section
variable [Tabs]
variable {S : Store}
/-! a loop over a list that stays -/
theorem forw_nil {xs : List D} {w : List (Nat × List D)} {g : MG} {b : MS} {e : M.Env} (h : (Src.mk xs w).ok S) : M.forM ⟨xs, w⟩ g b [] e S = some (.nx, e, S) := by
  unfold M.forM
  rw [if_pos h]
theorem forw_cons {xs : List D} {w : List (Nat × List D)} {g : MG} {b : MS} {e e1 e2 : M.Env} {d : D} {ds : List D} {S2 : Store} (h : (Src.mk xs w).ok S) (hg : g d e S = some e1) (hb : b e1 S = some (.nx, e2, S2)) : M.forM ⟨xs, w⟩ g b (d :: ds) e S = M.forM ⟨xs, w⟩ g b ds e2 S2 := by
  conv => lhs; unfold M.forM
  rw [if_pos h, hg, Option.bind_some, hb]
  rfl
theorem forw_ok {mi : MI} {src : Src} {g : MG} {b : MS} {e : M.Env} {S1 : Store} {r : Option (Fl × M.Env × Store)} (hi : mi e S = .ok src S1) (h : M.forM src g b src.xs e S1 = r) : sFor mi g b e S = r := by
  unfold sFor
  rw [hi]
  exact h
theorem src_loc {a : ME} {n : Nat} {xs : List D} {e : M.Env} {S1 : Store} (h : a e S = .ok (.loc n) S1) (hn : S1[n]? = some (.lst xs)) : mSrc a e S = .ok ⟨xs, [(n, xs)]⟩ S1 := by
  rw [x_mSrc, h, Res.bind_ok]
  simp [srcOf, hn]
theorem ix_loc {n : Nat} {xs : List D} {d : D} {i : Nat} (h : S[n]? = some (.lst xs)) (hi : xs[i]? = some d) : dIx (.loc n) (.int (i : Int)) S = some d := by
  show (seqOf S (.loc n)).bind (fun xs => atI xs (i : Int)) = _
  have : seqOf S (.loc n) = some xs := by simp [seqOf, lstOf, h]
  rw [this, Option.bind_some]
  exact at_nat xs i d hi
theorem place_loop {L : Option D} (t : P) : ∀ (b a : List P) (k : Nat), b.length < k → (∀ u ∈ b, Small u) → Small t → ∃ a' b', insR t b = a' ++ t :: b' ∧ b = a' ++ b' ∧
    whileM t_in_order_2 l_in_order_1 k [L, some (.loc S.length), some (pD t), some (.int (b.length : Int))] (S ++ [OB.lst ((a ++ b).reverse.map pD)]) = some (.nx, [L, some (.loc S.length), some (pD t), some (.int (b'.length : Int))], S ++ [OB.lst ((a ++ b).reverse.map pD)])
  | [], a, k, hk, _, _ => by
    obtain ⟨k, rfl⟩ : ∃ j, k = j + 1 := ⟨k - 1, by omega⟩
    exact ⟨[], [], rfl, rfl, whl_no (and_f (b_ok (bin_ok (var_ok rfl) rfl (x_gt.trans (by simp)))))⟩
  | f :: b, a, k, hk, hs, ht => by
    obtain ⟨k, rfl⟩ : ∃ j, k = j + 1 := ⟨k - 1, by omega⟩
    have hf := hs f (by simp)
    have hg : (S ++ [OB.lst ((a ++ f :: b).reverse.map pD)])[S.length]? = some (OB.lst ((a ++ f :: b).reverse.map pD)) := get_last _ _
    have hix : ((a ++ f :: b).reverse.map pD)[b.length]? = some (pD f) := by
      have : (a ++ f :: b).reverse.map pD = b.reverse.map pD ++ (pD f :: a.reverse.map pD) := by simp
      rw [this, List.getElem?_append_right (by simp)]
      simp
    have hx : mBin dIx (mVar 1) (mBin dSub (mVar 3) (mC (.int 1))) [L, some (.loc S.length), some (pD t), some (.int ((f :: b).length : Int))] (S ++ [OB.lst ((a ++ f :: b).reverse.map pD)]) = .ok (pD f) (S ++ [OB.lst ((a ++ f :: b).reverse.map pD)]) := by
      refine bin_ok (v := .int (b.length : Int)) (var_ok rfl) (bin_ok (var_ok rfl) rfl (x_sub.trans ?_)) (ix_loc hg hix)
      congr 2
      simp only [List.length_cons]; omega
    have hc : t_in_order_2 [L, some (.loc S.length), some (pD t), some (.int ((f :: b).length : Int))] (S ++ [OB.lst ((a ++ f :: b).reverse.map pD)]) = .ok (decide (f.2 * t.1 < t.2 * f.1)) (S ++ [OB.lst ((a ++ f :: b).reverse.map pD)]) := by
      obtain ⟨f1, f2⟩ := hf
      obtain ⟨t1, t2⟩ := ht
      refine and_t (b_ok (bin_ok (var_ok rfl) rfl (x_gt.trans ?_))) (b_ok (bin_ok (bin_ok (bin_ok hx rfl (ix_p1 f)) (bin_ok (var_ok rfl) rfl (ix_p0 t)) (x_mul (.inl (by omega)))) (bin_ok (bin_ok (var_ok rfl) rfl (ix_p1 t)) (bin_ok hx rfl (ix_p0 f)) (x_mul (.inl (by omega)))) x_lt))
      rw [decide_eq_true (by simp only [List.length_cons]; omega)]
    by_cases h : f.2 * t.1 < t.2 * f.1
    · rw [decide_eq_true h] at hc
      obtain ⟨a', b', h1, h2, h3⟩ := place_loop (L := L) t b (a ++ [f]) k (by simp only [List.length_cons] at hk; omega) (fun u hu => hs u (List.mem_cons_of_mem _ hu)) ht
      have e : (a ++ [f]) ++ b = a ++ f :: b := by simp
      rw [e] at h3
      refine ⟨f :: a', b', by rw [insR, if_pos h, h1]; rfl, by rw [h2]; rfl, (whl_go hc (set_ok (d := .int (b.length : Int)) (bin_ok (var_ok rfl) rfl (x_sub.trans ?_)))).trans h3⟩
      congr 2
      simp only [List.length_cons]; omega
    · rw [decide_eq_false h] at hc
      exact ⟨[], f :: b, by rw [insR, if_neg h]; rfl, rfl, whl_no hc⟩
theorem inord_ok (hS : clS S.length S = true) {n : Nat} {s : List P} (hn : S[n]? = some (.lst (s.map pD))) (hs : ∀ u ∈ s, Small u) (hz : s.length ≤ 4000) : m_in_order [.loc n] S = .ok (.lst ((inord s).map pD)) S := by
  have hlt : n < S.length := (List.getElem?_eq_some_iff.mp hn).1
  have hok : ∀ r : List P, (Src.mk (s.map pD) [(n, s.map pD)]).ok (S ++ [OB.lst (r.map pD)]) := fun r p hp => by
    simp only [List.mem_singleton] at hp
    subst hp
    show (S ++ [OB.lst (r.map pD)])[n]? = _
    rw [List.getElem?_append_left hlt]
    exact hn
  have loop : ∀ (m r : List P) (o2 o3 : Option D), r.length + m.length ≤ 4000 → (∀ u ∈ r, Small u) → (∀ u ∈ m, Small u) → ∃ o2' o3', M.forM ⟨s.map pD, [(n, s.map pD)]⟩ (gN 2) l_in_order_3 (m.map pD) [some (.loc n), some (.loc S.length), o2, o3] (S ++ [OB.lst (r.reverse.map pD)]) =
      some (.nx, [some (.loc n), some (.loc S.length), o2', o3'], S ++ [OB.lst ((m.foldl (fun r t => insR t r) r).reverse.map pD)]) := by
    intro m
    induction m with
    | nil => intro r o2 o3 _ _ _; exact ⟨o2, o3, forw_nil (hok _)⟩
    | cons t m ih =>
      intro r o2 o3 hz hr hm
      simp only [List.length_cons] at hz
      have hl := insR_len t r
      obtain ⟨a', b', h1, h2, h3⟩ := place_loop (S := S) (L := some (.loc n)) t r [] (2 ^ 40) (by omega) hr (hm t (by simp))
      rw [List.nil_append] at h3
      obtain ⟨o2', o3', hi⟩ := ih (insR t r) (some (pD t)) (some (.int (b'.length : Int))) (by omega) (fun u hu => by
        rcases List.mem_cons.mp ((insR_perm t r).mem_iff.mp hu) with rfl | hu
        · exact hm _ (by simp)
        · exact hr u hu) fun u hu => hm u (List.mem_cons_of_mem _ hu)
      refine ⟨o2', o3', (forw_cons (hok _) rfl ?_).trans hi⟩
      refine (seq_nx (set_ok (d := .int (r.length : Int)) (call_ok (one_ok (var_ok rfl)) ((len_loc (get_last _ _)).trans (by simp))))).trans ((seq_nx h3).trans (expr_ok (d := .non) (meth_ok (var_ok rfl) rcv_last (cons_ok (var_ok rfl) (one_ok (var_ok rfl))) ?_)))
      have hlen : a'.length + b'.length = r.length := by rw [h2, List.length_append]
      show gInsert (.loc S.length) [.int (b'.length : Int), pD t] (S ++ [OB.lst (r.reverse.map pD)]) = _
      unfold gInsert
      simp only [get_last]
      rw [if_pos ⟨by rw [List.length_map, List.length_reverse]; exact Nat.lt_of_lt_of_le (show r.length < 100000 by omega) (by decide), by omega, by omega⟩, set_last]
      congr 4
      rw [h1, Int.toNat_natCast]
      have e : r.reverse.map pD = b'.reverse.map pD ++ a'.reverse.map pD := by rw [h2]; simp
      have el : b'.length = (b'.reverse.map pD).length := by simp
      rw [e, el, List.take_left, List.drop_left]
      simp
  obtain ⟨o2, o3, h2⟩ := loop s [] none none (by simpa using hz) (by simp) hs
  refine (retV_ok (d := .loc S.length) (d' := .lst ((inord s).map pD)) (S' := S ++ [OB.lst ((inord s).map pD)]) (run_rt (e' := [some (.loc n), some (.loc S.length), o2, o3]) ?_) (by simpa using hS) ?_).trans (by simp)
  · show b_in_order [some (.loc n), none, none, none] S = _
    exact (seq_nx (set_ok (asL_ok (lst_ok rfl (Nat.zero_le _))))).trans ((seq_nx (forw_ok (S1 := S ++ [OB.lst []]) (src_loc (var_ok rfl) (by rw [List.getElem?_append_left hlt]; exact hn)) h2)).trans (ret_ok (var_ok rfl)))
  · simp [fz, cls_pD]
/-! two fronts -/
abbrev HT (a1 a2 a3 a4 a5 a6 a7 a8 a9 a10 a11 : Option D) : M.Env := [a1, a2, a3, a4, a5, a6, a7, a8, a9, a10, a11]
theorem zip_loop {T X Y F C l8 l9 l10 : Option D} {xs : List D} : ∀ (r : List P) (p : P) (acc : List P) (l6 l7 : Option D), acc.length + r.length ≤ 90000 → ∃ l6' l7',
    M.forM ⟨xs, []⟩ (gTup 2 (gCons (gN 6) (gCons (gN 7) gNil))) l_hull_together_1 (zipD ((p :: r).map pD) (r.map pD)) (HT T (some (.loc S.length)) X Y F C l6 l7 l8 l9 l10) (S ++ [OB.lst (acc.map pD)]) =
      some (.nx, HT T (some (.loc S.length)) X Y F C l6' l7' l8 l9 l10, S ++ [OB.lst ((acc ++ steps (p :: r)).map pD)])
  | [], p, acc, l6, l7, _ => ⟨l6, l7, by rw [show steps [p] = [] from rfl, List.append_nil]; exact for_nil⟩
  | q :: r, p, acc, l6, l7, hz => by
    simp only [List.length_cons] at hz
    obtain ⟨a, b, h⟩ := zip_loop (T := T) (X := X) (Y := Y) (F := F) (C := C) (l8 := l8) (l9 := l9) (l10 := l10) (xs := xs) r q (acc ++ [(q.1 - p.1, p.2 - q.2)]) (some (pD p)) (some (pD q)) (by simp; omega)
    refine ⟨a, b, (for_cons rfl ?_).trans (h.trans ?_)⟩
    · refine expr_ok (d := .non) (meth_ok (var_ok rfl) rcv_last (one_ok (tup_ok (cons_ok (bin_ok (bin_ok (var_ok rfl) rfl (ix_p0 q)) (bin_ok (var_ok rfl) rfl (ix_p0 p)) x_sub) (one_ok (bin_ok (bin_ok (var_ok rfl) rfl (ix_p1 p)) (bin_ok (var_ok rfl) rfl (ix_p1 q)) x_sub))) (by show 2 ≤ sizeLine; decide))) ((app_last (by rw [List.length_map]; omega)).trans ?_))
      rw [List.map_append]; rfl
    · rw [show steps (p :: q :: r) = (q.1 - p.1, p.2 - q.2) :: steps (q :: r) from rfl, List.append_assoc]; rfl
theorem chain_loop {T s X Y F C l6 l7 : Option D} {xs : List D} : ∀ (m : List P) (p : P) (acc : List P) (l9 l10 : Option D), acc.length + m.length ≤ 90000 → ∃ l9' l10',
    M.forM ⟨xs, []⟩ (gTup 2 (gCons (gN 9) (gCons (gN 10) gNil))) l_hull_together_3 (m.map pD) (HT T s X Y F C l6 l7 (some (.loc S.length)) l9 l10) (S ++ [OB.lst ((acc ++ [p]).map pD)]) =
      some (.nx, HT T s X Y F C l6 l7 (some (.loc S.length)) l9' l10', S ++ [OB.lst ((acc ++ chain p m).map pD)])
  | [], p, acc, l9, l10, _ => ⟨l9, l10, for_nil⟩
  | t :: m, p, acc, l9, l10, hz => by
    simp only [List.length_cons] at hz
    obtain ⟨a, b, h⟩ := chain_loop (T := T) (s := s) (X := X) (Y := Y) (F := F) (C := C) (l6 := l6) (l7 := l7) (xs := xs) m (shift p t) (acc ++ [p]) (some (.int t.1)) (some (.int t.2)) (by simp; omega)
    have hm : ((acc ++ [p]).map pD) = acc.map pD ++ [pD p] := by simp
    have hx : mBin dIx (mVar 8) (mUn dNeg (mC (.int 1))) (HT T s X Y F C l6 l7 (some (.loc S.length)) (some (.int t.1)) (some (.int t.2))) (S ++ [OB.lst ((acc ++ [p]).map pD)]) = .ok (pD p) (S ++ [OB.lst ((acc ++ [p]).map pD)]) :=
      bin_ok (var_ok rfl) (neg_ok 1 _) (ix_m1 (by rw [get_last, hm]))
    refine ⟨a, b, (for_cons rfl ?_).trans (h.trans ?_)⟩
    · refine expr_ok (d := .non) (meth_ok (var_ok rfl) rcv_last (one_ok (tup_ok (cons_ok (bin_ok (bin_ok hx rfl (ix_p0 p)) (var_ok rfl) x_add) (one_ok (bin_ok (bin_ok hx rfl (ix_p1 p)) (var_ok rfl) x_sub))) (by show 2 ≤ sizeLine; decide))) ((app_last (by rw [List.length_map, List.length_append]; simp; omega)).trans ?_))
      simp [shift, pD]
    · rw [show chain p (t :: m) = p :: chain (shift p t) m from rfl, List.append_assoc]; rfl
def Tame (l : List P) : Prop := ∀ p ∈ l, p.1.natAbs ≤ 1000000 ∧ p.2.natAbs ≤ 1000000
theorem Tame.small {l : List P} (h : Tame l) : ∀ p ∈ l, Small p := fun p hp => by have := h p hp; unfold Small; omega
theorem front_part (hS : clS S.length S = true) {T : Option D} {F : List P} {f : P} {rf : List P} (hF : Fro F) (tF : Tame F) (lF : F.length ≤ 100) (ef : hull F = f :: rf) (acc : List P) (x y : Int) (l5 l6 l7 l8 l9 l10 : Option D) (hz : acc.length ≤ 1000) : ∃ l6' l7',
    l_hull_together_2 (HT T (some (.loc S.length)) (some (.int x)) (some (.int y)) (some (fD F)) l5 l6 l7 l8 l9 l10) (S ++ [OB.lst (acc.map pD)]) =
      some (.nx, HT T (some (.loc S.length)) (some (.int (x + f.1))) (some (.int (y + f.2))) (some (fD F)) (some (fD (hull F))) l6' l7' l8 l9 l10, S ++ [OB.lst ((acc ++ steps (hull F)).map pD)]) := by
  have hl : (hull F).length ≤ 100 := Nat.le_trans (hull_len F) lF
  rw [ef] at hl
  simp only [List.length_cons] at hl
  have hS2 : clS (S ++ [OB.lst (acc.map pD)]).length (S ++ [OB.lst (acc.map pD)]) = true := clS_push hS (cls_pD _ _)
  obtain ⟨a, b, h⟩ := zip_loop (S := S) (T := T) (X := some (.int (x + f.1))) (Y := some (.int (y + f.2))) (F := some (fD F)) (C := some (fD (f :: rf))) (l8 := l8) (l9 := l9) (l10 := l10) (xs := zipD ((f :: rf).map pD) (rf.map pD)) rf f acc l6 l7 (by omega)
  refine ⟨a, b, ?_⟩
  rw [ef]
  have ho := hull_ok hS2 tF.small (by omega)
  rw [ef] at ho
  unfold l_hull_together_2
  refine (seq_nx (set_ok (callF_ok (one_ok (var_ok rfl)) ho))).trans ?_
  refine (seq_nx (par_ok (bin_ok (var_ok rfl) (bin_ok (bin_ok (var_ok rfl) rfl (ix0 _ _ _)) rfl (ix_p0 f)) x_add) (bin_ok (var_ok rfl) (bin_ok (bin_ok (var_ok rfl) rfl (ix0 _ _ _)) rfl (ix_p1 f)) x_add))).trans ?_
  exact for_ok (src_zipT (cons_ok (var_ok rfl) (one_ok (slice_ok (var_ok rfl) (part_ok rfl) rfl (cut1 _ _))))) h
theorem par3_ok {e : M.Env} {i j l : Nat} {m : MA} {a b c : D} {S1 : Store} (h : m e S = .ok [a, b, c] S1) : sPar3 i j l m e S = some (.nx, ((e.set i (some a)).set j (some b)).set l (some c), S1) := by
  unfold sPar3
  rw [h]
  rfl
theorem two_ok (hS : clS S.length S = true) {F G : List P} (hF : Fro F) (hG : Fro G) (tF : Tame F) (tG : Tame G) (lF : F.length ≤ 100) (lG : G.length ≤ 100) (nF : F ≠ []) (nG : G ≠ []) : m_hull_together [.tup [fD F, fD G]] S = .ok (fD (hull (put F G))) S := by
  obtain ⟨f, rf, ef⟩ := List.exists_cons_of_ne_nil (hull_ne nF)
  obtain ⟨g, rg, eg⟩ := List.exists_cons_of_ne_nil (hull_ne nG)
  have hlF : (hull F).length ≤ 100 := Nat.le_trans (hull_len F) lF
  have hlG : (hull G).length ≤ 100 := Nat.le_trans (hull_len G) lG
  have hsF : (steps (hull F)).length ≤ 100 := by rw [ef] at hlF ⊢; rw [steps_len]; simp only [List.length_cons] at hlF; omega
  have hsG : (steps (hull G)).length ≤ 100 := by rw [eg] at hlG ⊢; rw [steps_len]; simp only [List.length_cons] at hlG; omega
  have hst : ∀ t ∈ steps (hull F) ++ steps (hull G), t.1.natAbs ≤ 2000000 ∧ t.2.natAbs ≤ 2000000 := by
    intro t ht
    have k : ∀ {A : List P}, Fro A → Tame A → t ∈ steps (hull A) → t.1.natAbs ≤ 2000000 ∧ t.2.natAbs ≤ 2000000 := by
      intro A hA tA h
      obtain ⟨p, hp, q, hq, rfl⟩ := mem_steps h
      have h1 := tA p (hull_mem hA hp)
      have h2 := tA q (hull_mem hA hq)
      simp only
      omega
    rcases List.mem_append.mp ht with h | h
    · exact k hF tF h
    · exact k hG tG h
  have hpos : Pos (steps (hull F) ++ steps (hull G)) := fun t ht => by
    rcases List.mem_append.mp ht with h | h
    · exact steps_pos (hull_fro hF) t h
    · exact steps_pos (hull_fro hG) t h
  have hperm := inord_perm hpos
  obtain ⟨a6, a7, h1⟩ := front_part hS (T := some (.tup [fD F, fD G])) hF tF lF ef [] 0 0 none none none none none none (by simp)
  rw [List.nil_append] at h1
  obtain ⟨b6, b7, h2⟩ := front_part hS (T := some (.tup [fD F, fD G])) hG tG lG eg (steps (hull F)) (0 + f.1) (0 + f.2) (some (fD (hull F))) a6 a7 none none none (by omega)
  have e1 : (0 + f.1 + g.1, 0 + f.2 + g.2) = add f g := Prod.ext (by simp [add]) (by simp [add])
  generalize hS1 : S ++ [OB.lst ((steps (hull F) ++ steps (hull G)).map pD)] = S1 at h2
  have cS1 : clS S1.length S1 = true := by rw [← hS1]; exact clS_push hS (cls_pD _ _)
  have cS2 : ∀ l : List P, clS (S1 ++ [OB.lst (l.map pD)]).length (S1 ++ [OB.lst (l.map pD)]) = true := fun l => clS_push cS1 (cls_pD _ _)
  have gs : S1[S.length]? = some (OB.lst ((steps (hull F) ++ steps (hull G)).map pD)) := by rw [← hS1]; exact get_last _ _
  have gl : S.length < S1.length := (List.getElem?_eq_some_iff.mp gs).1
  have hio := inord_ok (cS2 [add f g]) (n := S.length) (s := steps (hull F) ++ steps (hull G)) (by rw [List.getElem?_append_left gl]; exact gs) (fun u hu => by have := hst u hu; unfold Small; omega) (by rw [List.length_append]; omega)
  have il : (inord (steps (hull F) ++ steps (hull G))).length ≤ 200 := by rw [hperm.length_eq, List.length_append]; omega
  obtain ⟨c9, c10, h3⟩ := chain_loop (S := S1) (T := some (.tup [fD F, fD G])) (s := some (.loc S.length)) (X := some (.int (0 + f.1 + g.1))) (Y := some (.int (0 + f.2 + g.2))) (F := some (fD G)) (C := some (fD (hull G))) (l6 := b6) (l7 := b7) (xs := (inord (steps (hull F) ++ steps (hull G))).map pD) (inord (steps (hull F) ++ steps (hull G))) (add f g) [] none none (by simp; omega)
  rw [List.nil_append, List.nil_append] at h3
  have fF := tF f (hull_mem hF (by rw [ef]; simp))
  have gG := tG g (hull_mem hG (by rw [eg]; simp))
  have hho := hull_ok (cS2 (chain (add f g) (inord (steps (hull F) ++ steps (hull G))))) (l := chain (add f g) (inord (steps (hull F) ++ steps (hull G)))) (fun q hq => by
    have := chain_small _ _ (fun t ht => hst t (hperm.mem_iff.mp ht)) q hq
    simp only [add] at this
    unfold Small
    omega) (by rw [chain_len]; omega)
  rw [hull_two hF hG ef eg] at hho
  have hpath : sSet (gN 8) (asL (mLst (mCons (mTup (mCons (mVar 2) (mCons (mVar 3) mNil))) mNil))) (HT (some (.tup [fD F, fD G])) (some (.loc S.length)) (some (.int (0 + f.1 + g.1))) (some (.int (0 + f.2 + g.2))) (some (fD G)) (some (fD (hull G))) b6 b7 none none none) S1 =
      some (.nx, HT (some (.tup [fD F, fD G])) (some (.loc S.length)) (some (.int (0 + f.1 + g.1))) (some (.int (0 + f.2 + g.2))) (some (fD G)) (some (fD (hull G))) b6 b7 (some (.loc S1.length)) none none, S1 ++ [OB.lst [pD (add f g)]]) := by
    rw [← e1]
    exact set_ok (asL_ok (lst_ok (one_ok (tup_ok (cons_ok (var_ok rfl) (one_ok (var_ok rfl))) (by show 2 ≤ sizeLine; decide))) (by show 1 ≤ sizeLine; decide)))
  refine (retV_ok (d := fD (hull (put F G))) (d' := fD (hull (put F G))) (S' := S1 ++ [OB.lst ((chain (add f g) (inord (steps (hull F) ++ steps (hull G)))).map pD)]) (run_rt (e' := HT (some (.tup [fD F, fD G])) (some (.loc S.length)) (some (.int (0 + f.1 + g.1))) (some (.int (0 + f.2 + g.2))) (some (fD G)) (some (fD (hull G))) b6 b7 (some (.loc S1.length)) c9 c10) ?_) ?_ ?_).trans ?_
  · show b_hull_together (HT (some (.tup [fD F, fD G])) none none none none none none none none none none) S = _
    unfold b_hull_together
    refine (seq_nx (par3_ok (cons_ok (asL_ok (lst_ok rfl (Nat.zero_le _))) (cons_ok rfl (one_ok rfl))))).trans ?_
    refine (seq_nx (for_ok (S1 := S ++ [OB.lst []]) (src_tup (var_ok rfl)) ((for_cons rfl h1).trans ((for_cons rfl h2).trans for_nil)))).trans ?_
    refine (seq_nx hpath).trans ?_
    refine (seq_nx (for_ok (src_lst (callF_ok (one_ok (var_ok rfl)) hio)) h3)).trans (ret_ok (callF_ok (one_ok (call_ok (r := fD (chain (add f g) (inord (steps (hull F) ++ steps (hull G))))) (one_ok (var_ok rfl)) ?_)) hho))
    simp [dTuple, seqOf, lstOf]
  · rw [← hS1]; simpa using hS
  · simp only [fz, cl, cls_pD, if_true]
  · rw [← hS1]; simp
/-! bounds -/
def bstL (a b : Int) : List P → P
  | f :: r => bst a b f r
  | [] => (0, 0)
theorem best_okL (hS : clS S.length S = true) {a b : Int} (h : Fair a b) {l : List P} (hl : l ≠ []) : m_best_at [fD l, pD (a, b)] S = .ok (pD (bstL a b l)) S := by
  obtain ⟨f, r, rfl⟩ := List.exists_cons_of_ne_nil hl
  exact best_ok hS h f r
def bound (T a b v : Int) : Int := if (T - b * v + a - 1) / a > 0 then (T - b * v + a - 1) / a else 0
theorem bound_ok (hS : clS S.length S = true) {a b v : Int} (h : Fair a b) {F G : List P} (nF : F ≠ []) (nG : G ≠ []) : m_bound_by [.tup [fD F, fD G], pD (a, b), .int v] S = .ok (.int (bound (wt a b (bstL a b F) + wt a b (bstL a b G)) a b v)) S := by
  have hc : mLc (mSrc (mVar 0)) (gN 4) mYes e_bound_by_1 [4] [some (.tup [fD F, fD G]), some (pD (a, b)), some (.int v), none, none] S = .ok ([F, G].map fun l => D.int (wt a b (bstL a b l))) S := by
    refine (x_mLc' (src_tup (xs := [F, G].map fD) (var_ok rfl)) (by simp)).trans ?_
    refine lc_map (f := fun l => D.int (wt a b (bstL a b l))) fD [F, G] fun l hl => ⟨[some (.tup [fD F, fD G]), some (pD (a, b)), some (.int v), none, some (fD l)], rfl, ?_⟩
    have nl : l ≠ [] := by
      simp only [List.mem_cons, List.not_mem_nil, or_false] at hl
      rcases hl with rfl | rfl <;> assumption
    exact callF_ok (cons_ok (var_ok rfl) (one_ok (callF_ok (cons_ok (var_ok rfl) (one_ok (var_ok rfl))) (best_okL hS h nl)))) (weighed_ok hS h _)
  obtain ⟨⟨h1, h2⟩, h3, h4⟩ := h
  refine retV_id (run_rt (e' := [some (.tup [fD F, fD G]), some (pD (a, b)), some (.int v), some (.int (wt a b (bstL a b F) + (wt a b (bstL a b G) + 0))), none]) ?_) hS rfl
  show b_bound_by [some (.tup [fD F, fD G]), some (pD (a, b)), some (.int v), none, none] S = _
  refine (seq_nx (set_ok (d := .int (wt a b (bstL a b F) + (wt a b (bstL a b G) + 0))) (call_ok (one_ok (asV_ok hc)) rfl))).trans (ret_ok ?_)
  refine call_ok (cons_ok rfl (one_ok (bin_ok (bin_ok (bin_ok (bin_ok (var_ok rfl) (bin_ok (bin_ok (var_ok rfl) rfl (ix_p1 (a, b))) (var_ok rfl) (x_mul (.inl (by show b.natAbs < 2 ^ 64; omega)))) x_sub) (bin_ok (var_ok rfl) rfl (ix_p0 (a, b))) x_add) rfl x_sub) (bin_ok (var_ok rfl) rfl (ix_p0 (a, b))) (x_fdiv ⟨by show 0 < a; omega, by show a < 1073741824; omega⟩)))) ?_
  rw [Int.add_zero]
  rfl
/-! fronts told -/
theorem pair_ok (hS : clS S.length S = true) {p : P} (h : (0 ≤ p.1 ∧ p.1 ≤ 1000000000) ∧ 0 ≤ p.2 ∧ p.2 ≤ 1000000000) : m_is_pair [pD p] S = .ok (.bl true) S := by
  refine ret_fn hS (andV_t rfl (andV_t ((bin_ok (call_ok (one_ok (var_ok rfl)) len_tup) rfl x_eqI).trans rfl) (all_ok (xs := [p.1, p.2].map D.int) (src_tup (var_ok rfl)) (all_map D.int [p.1, p.2] fun x hx => ⟨[some (pD p), some (.int x)], rfl, ?_⟩)))) rfl
  have hx2 : 0 ≤ x ∧ x ≤ 1000000000 := by
    simp only [List.mem_cons, List.not_mem_nil, or_false] at hx
    rcases hx with rfl | rfl
    · exact h.1
    · exact h.2
  refine (callF_ok (cons_ok (var_ok rfl) (cons_ok rfl (one_ok rfl))) (number_ok hS)).trans ?_
  rw [decide_eq_true hx2]
theorem next_fro : ∀ {r : List P} {p : P}, Fro (p :: r) → ∀ x ∈ (p :: r).zip r, x.1.1 < x.2.1 ∧ x.2.2 < x.1.2
  | [], p, _, x, h => by simp at h
  | q :: r, p, hf, x, h => by
    have h1 := List.pairwise_cons.mp hf
    rcases List.mem_cons.mp h with rfl | h
    · exact h1.1 q (by simp)
    · exact next_fro h1.2 x h
theorem is_front_ok (hS : clS S.length S = true) {l : List P} (hf : Fro l) (nl : l ≠ []) (hl : l.length ≤ 4000) (hb : ∀ p ∈ l, (0 ≤ p.1 ∧ p.1 ≤ 1000000000) ∧ 0 ≤ p.2 ∧ p.2 ≤ 1000000000) : m_is_front [fD l] S = .ok (.bl true) S := by
  obtain ⟨f, r, rfl⟩ := List.exists_cons_of_ne_nil nl
  refine retV_id (run_rt (e' := [some (fD (f :: r)), none, none]) ?_) hS rfl
  show b_is_front [some (fD (f :: r)), none, none] S = _
  have h1 : mAll false (mSrc (mVar 0)) (gN 1) e_is_front_1 [1] [some (fD (f :: r)), none, none] S = .ok (.bl true) S :=
    all_ok (xs := (f :: r).map pD) (src_tup (var_ok rfl)) (all_map pD (f :: r) fun p hp => ⟨[some (fD (f :: r)), some (pD p), none], rfl, callF_ok (one_ok (var_ok rfl)) (pair_ok hS (hb p hp))⟩)
  have hlen : (1 : Int) ≤ (((f :: r).map pD).length : Int) ∧ (((f :: r).map pD).length : Int) ≤ 4000 := by
    rw [List.length_map]; simp only [List.length_cons] at hl ⊢; omega
  have h2 : mChain dLe dLe (mC (.int 1)) (mCall dLen (mCons (mVar 0) mNil)) (mC (.int 4000)) [some (fD (f :: r)), none, none] S = .ok (.bl true) S := by
    have ha : mC (.int 1) [some (fD (f :: r)), none, none] S = .ok (.int 1) S := rfl
    have hb : mCall dLen (mCons (mVar 0) mNil) [some (fD (f :: r)), none, none] S = .ok (.int (((f :: r).map pD).length : Int)) S := call_ok (one_ok (var_ok rfl)) len_tup
    have hc : mC (.int 4000) [some (fD (f :: r)), none, none] S = .ok (.int 4000) S := rfl
    rw [x_mChain, ha, Res.bind_ok, hb, Res.bind_ok, x_le, decide_eq_true hlen.1]
    show (Res.ok (D.bl true) S).bind _ = _
    rw [Res.bind_ok]
    dsimp only
    rw [if_pos rfl, hc, Res.bind_ok, x_le, decide_eq_true hlen.2]
    rfl
  have h3 : mOr (mNot (mTru (mCall dIsInst (mCons (mVar 0) (mCons (mC (.ty "tuple")) mNil))))) (mOr (mNot (mB (mChain dLe dLe (mC (.int 1)) (mCall dLen (mCons (mVar 0) mNil)) (mC (.int 4000))))) (mNot (mTru (mAll false (mSrc (mVar 0)) (gN 1) e_is_front_1 [1])))) [some (fD (f :: r)), none, none] S = .ok false S := by
    refine or_ff rfl (or_ff ?_ ?_)
    · rw [x_mNot, b_ok h2]; rfl
    · rw [x_mNot, x_mTru, h1]; rfl
  refine (seq_nx (if_skip h3)).trans (ret_ok ?_)
  refine all_ok (src_zipT (cons_ok (var_ok rfl) (one_ok (slice_ok (var_ok rfl) (part_ok rfl) rfl (cut1 _ _))))) ?_
  have e : zipD ((f :: r).map pD) (r.map pD) = ((f :: r).zip r).map fun x => D.tup [pD x.1, pD x.2] := zip_map pD pD (f :: r) r
  show allM ⟨zipD ((f :: r).map pD) (r.map pD), []⟩ _ _ _ _ (zipD ((f :: r).map pD) (r.map pD)) S = _
  rw [e]
  refine all_map (fun (x : P × P) => D.tup [pD x.1, pD x.2]) _ fun x hx => ⟨[some (fD (f :: r)), some (pD x.1), some (pD x.2)], rfl, ?_⟩
  have hn := next_fro hf x hx
  refine andV_t ((bin_ok (bin_ok (var_ok rfl) rfl (ix_p0 x.1)) (bin_ok (var_ok rfl) rfl (ix_p0 x.2)) x_lt).trans (by rw [decide_eq_true hn.1])) ((bin_ok (bin_ok (var_ok rfl) rfl (ix_p1 x.1)) (bin_ok (var_ok rfl) rfl (ix_p1 x.2)) x_gt).trans (by rw [decide_eq_true hn.2]))
end
end M.Fo


set_option Elab.async false
set_option linter.all false
set_option maxRecDepth 100000
set_option maxHeartbeats 4000000
namespace K68
open PySem PySem.Spec PyProof.Rows L2 M M.Fo
section
variable [Tabs]
variable {S : Store}
def cL : Cd (List P) := Cd.lst cP
theorem eq_nil {n : Nat} {acc : List P} (h : S[n]? = some (.lst (acc.map pD))) : dEq (.loc n) (.lst []) S = some (.bl (decide (acc = []))) := by
  have e := cL.dEq (by show 2 ≤ 64; decide) acc [] S
  have hp : toPy S (.loc n) = toPy S (.lst (acc.map pD)) := by
    show (match S[n]? with | some (.lst xs) => (toPys0 xs).map PyData.list | _ => none) = _
    rw [h]
    simp [toPy, toPy0]
  have e2 : dEq (.loc n) (.lst []) S = dEq (.lst (acc.map pD)) (.lst []) S := by
    simp only [dEq, hp]
  exact e2.trans e
theorem lfront_turn {L : Option D} (acc : List P) (p : P) (hz : acc.length < 90000) :
    l__law_front_2 [L, some (.loc S.length), some (.int p.1), some (.int p.2)] (S ++ [OB.lst (acc.map pD)]) =
      some (.nx, [L, some (.loc S.length), some (.int p.1), some (.int p.2)], S ++ [OB.lst ((if lastL acc = none ∨ ∃ v, lastL acc = some v ∧ p.2 < v then acc ++ [p] else acc).map pD)]) := by
  have hl : mB (mBin dEq (mVar 1) (asV (mLst mNil))) [L, some (.loc S.length), some (.int p.1), some (.int p.2)] (S ++ [OB.lst (acc.map pD)]) = .ok (decide (acc = [])) (S ++ [OB.lst (acc.map pD)]) :=
    b_ok (bin_ok (var_ok rfl) (asV_ok (lst_ok rfl (Nat.zero_le _))) (eq_nil (get_last _ _)))
  have app : b__law_front_1 [L, some (.loc S.length), some (.int p.1), some (.int p.2)] (S ++ [OB.lst (acc.map pD)]) = some (.nx, [L, some (.loc S.length), some (.int p.1), some (.int p.2)], S ++ [OB.lst ((acc ++ [p]).map pD)]) := by
    unfold b__law_front_1
    refine expr_ok (d := .non) (meth_ok (var_ok rfl) rcv_last (one_ok (tup_ok (cons_ok (var_ok rfl) (one_ok (var_ok rfl))) (by show 2 ≤ sizeLine; decide))) ((app_last (by rw [List.length_map]; omega)).trans ?_))
    rw [List.map_append]; rfl
  unfold l__law_front_2
  rcases List.eq_nil_or_concat acc with rfl | ⟨acc', q, e⟩
  · have ht : (mOr (mB (mBin dEq (mVar 1) (asV (mLst mNil)))) (mB (mBin dLt (mVar 3) (mBin dIx (mBin dIx (mVar 1) (mUn dNeg (mC (.int 1)))) (mC (.int 1)))))) [L, some (.loc S.length), some (.int p.1), some (.int p.2)] (S ++ [OB.lst (([] : List P).map pD)]) = .ok true (S ++ [OB.lst (([] : List P).map pD)]) := by
      rw [x_mOr, hl]; rfl
    rw [if_pos (.inl rfl)]
    exact (if_t ht).trans app
  · rw [List.concat_eq_append] at e
    subst e
    have ht : (mOr (mB (mBin dEq (mVar 1) (asV (mLst mNil)))) (mB (mBin dLt (mVar 3) (mBin dIx (mBin dIx (mVar 1) (mUn dNeg (mC (.int 1)))) (mC (.int 1)))))) [L, some (.loc S.length), some (.int p.1), some (.int p.2)] (S ++ [OB.lst ((acc' ++ [q]).map pD)]) = .ok (decide (p.2 < q.2)) (S ++ [OB.lst ((acc' ++ [q]).map pD)]) := by
      rw [x_mOr, hl, Res.bind_ok, if_neg (by simp)]
      refine b_ok (bin_ok (var_ok rfl) (bin_ok (bin_ok (var_ok rfl) (neg_ok 1 _) (ix_m1 (xs := acc'.map pD) (d := pD q) ?_)) rfl (ix_p1 q)) x_lt)
      rw [get_last, List.map_append]; rfl
    rw [lastL_snoc]
    by_cases h : p.2 < q.2
    · rw [if_pos (.inr ⟨q.2, rfl, h⟩)]
      exact (if_t (ht.trans (by rw [decide_eq_true h]))).trans app
    · rw [if_neg (by rintro (z | ⟨v, z, k⟩); · cases z
                     · cases z; exact h k)]
      exact if_skip (ht.trans (by rw [decide_eq_false h]))
theorem lfront_loop {L : Option D} {xs : List D} : ∀ (l acc : List P) (o2 o3 : Option D), acc.length + l.length ≤ 90000 →
    ∃ o2' o3', M.forM ⟨xs, []⟩ (gTup 2 (gCons (gN 2) (gCons (gN 3) gNil))) l__law_front_2 (l.map pD) [L, some (.loc S.length), o2, o3] (S ++ [OB.lst (acc.map pD)]) =
      some (.nx, [L, some (.loc S.length), o2', o3'], S ++ [OB.lst ((acc ++ fro (lastL acc) l).map pD)])
  | [], acc, o2, o3, _ => ⟨o2, o3, by
    have : fro (lastL acc) [] = [] := by cases lastL acc <;> rfl
    rw [this, List.append_nil]; exact for_nil⟩
  | p :: l, acc, o2, o3, hz => by
    simp only [List.length_cons] at hz
    have h1 := lfront_turn (S := S) (L := L) acc p (by omega)
    have hstep : ∀ acc2 : List P, acc2.length ≤ acc.length + 1 → acc2 ++ fro (lastL acc2) l = acc ++ fro (lastL acc) (p :: l) → l__law_front_2 [L, some (.loc S.length), some (.int p.1), some (.int p.2)] (S ++ [OB.lst (acc.map pD)]) = some (.nx, [L, some (.loc S.length), some (.int p.1), some (.int p.2)], S ++ [OB.lst (acc2.map pD)]) →
        ∃ o2' o3', M.forM ⟨xs, []⟩ (gTup 2 (gCons (gN 2) (gCons (gN 3) gNil))) l__law_front_2 ((p :: l).map pD) [L, some (.loc S.length), o2, o3] (S ++ [OB.lst (acc.map pD)]) =
          some (.nx, [L, some (.loc S.length), o2', o3'], S ++ [OB.lst ((acc ++ fro (lastL acc) (p :: l)).map pD)]) := by
      intro acc2 hl he h
      obtain ⟨a, b, h2⟩ := lfront_loop (L := L) (xs := xs) l acc2 (some (.int p.1)) (some (.int p.2)) (by omega)
      rw [he] at h2
      exact ⟨a, b, (for_cons rfl h).trans h2⟩
    cases hL : lastL acc with
    | none =>
      rw [hL, if_pos (.inl rfl)] at h1
      rw [← hL]
      refine hstep (acc ++ [p]) (by simp) ?_ h1
      rw [lastL_snoc, hL, List.append_assoc]; rfl
    | some v =>
      rw [hL] at h1
      rw [← hL]
      by_cases h : p.2 < v
      · rw [if_pos (.inr ⟨v, rfl, h⟩)] at h1
        refine hstep (acc ++ [p]) (by simp) ?_ h1
        rw [lastL_snoc, hL, List.append_assoc]
        simp [fro, h]
      · rw [if_neg (by rintro (z | ⟨w, z, k⟩); · cases z
                       · cases z; exact h k)] at h1
        refine hstep acc (by omega) ?_ h1
        rw [hL]
        simp [fro, h]
theorem lfront_ok (hS : clS S.length S = true) {n : Nat} {r : List P} (h : S[n]? = some (.lst (r.map pD))) (hr : r.length ≤ 4000) : m__law_front [.loc n] S = .ok (fD (front r)) S := by
  have hn : n < S.length := (List.getElem?_eq_some_iff.mp h).1
  have hst : lstOf (S ++ [OB.lst []]) (.loc n) = some (r.map pD) := by
    simp only [lstOf]
    rw [List.getElem?_append_left hn, h]
  obtain ⟨o2, o3, hf⟩ := lfront_loop (S := S) (L := some (.loc n)) (xs := (isort lexB r).map pD) (isort lexB r) [] none none (by rw [(isort_perm r).length_eq]; simp; omega)
  have e : [] ++ fro (lastL []) (isort lexB r) = front r := rfl
  rw [e] at hf
  refine (retV_ok (d := fD (front r)) (d' := fD (front r)) (S' := S ++ [OB.lst ((front r).map pD)]) (run_rt (e' := [some (.loc n), some (.loc S.length), o2, o3]) ?_) (by simpa using hS) ?_).trans (by simp)
  · show b__law_front [some (.loc n), none, none, none] S = _
    unfold b__law_front
    refine (seq_nx (set_ok (asL_ok (lst_ok rfl (Nat.zero_le _))))).trans ?_
    refine (seq_nx (for_ok (S1 := S ++ [OB.lst []]) (src_lst (asV_ok (ds := (isort lexB r).map pD) ?_)) hf)).trans (ret_ok ?_)
    · rw [x_mCallN, one_ok (var_ok (d := .loc n) rfl), Res.bind_ok, sorted_ok hst]; rfl
    · refine call_ok (one_ok (var_ok rfl)) ?_
      simp [dTuple, seqOf, lstOf]
  · simp only [fz, cl, cls_pD, if_true]
/-! drawn fronts -/
def Fit (p : P) : Prop := (0 ≤ p.1 ∧ p.1 < 40) ∧ 0 ≤ p.2 ∧ p.2 < 200
structure Good (F : List P) : Prop where
  fro : Fro F
  ne : F ≠ []
  len : F.length ≤ 7
  fit : ∀ p ∈ F, Fit p
theorem front_ne {r : List P} (h : r ≠ []) : front r ≠ [] := by
  obtain ⟨p, r', rfl⟩ := List.exists_cons_of_ne_nil h
  obtain ⟨q, hq, _⟩ := front_dom (r := p :: r') (q := p) (by simp)
  intro e
  rw [e] at hq
  cases hq
theorem drawn_turn (l : List Int) (acc : List P) (o2 : Option D) (hz : acc.length ≤ 1000) : ∃ p l', Fit p ∧ l__law_drawn_front_1 [some (.loc 0), some (.loc 1), o2] [OB.lst (I l), OB.lst (acc.map pD)] = some (.nx, [some (.loc 0), some (.loc 1), o2], [OB.lst (I l'), OB.lst ((acc ++ [p]).map pD)]) := by
  have hR : clS ([OB.lst (acc.map pD)].length + 1) [OB.lst (acc.map pD)] = true := by simp [clS, clO, cls_pD]
  obtain ⟨a, l1, a0, a1, q1⟩ := take_exG 40 (by decide) l [OB.lst (acc.map pD)] hR
  obtain ⟨k, l2, hk, q2⟩ := take_natG 2 (by decide) l1 [OB.lst (acc.map pD)] hR
  obtain ⟨m, hm, hx⟩ : ∃ m : Int, (0 < m ∧ m ≤ 200) ∧ dIx (.lst [.int 9, .int 200]) (.int (k : Int)) [OB.lst (I l2), OB.lst (acc.map pD)] = some (.int m) := by
    have : k = 0 ∨ k = 1 := by omega
    rcases this with rfl | rfl
    · exact ⟨9, by decide, rfl⟩
    · exact ⟨200, by decide, rfl⟩
  obtain ⟨b, l3, b0, b1, q3⟩ := take_exG m hm.1 l2 [OB.lst (acc.map pD)] hR
  refine ⟨(a, b), l3, ⟨⟨a0, a1⟩, b0, by show b < 200; omega⟩, ?_⟩
  refine expr_ok (d := .non) (meth_ok (var_ok rfl) rfl (one_ok (tup_ok (cons_ok (callF_ok (cons_ok (var_ok rfl) (one_ok rfl)) q1) (one_ok (callF_ok (cons_ok (var_ok rfl) (one_ok (bin_ok (asV_ok (lst_ok (cons_ok rfl (one_ok rfl)) (by show 2 ≤ sizeLine; decide))) (callF_ok (cons_ok (var_ok rfl) (one_ok rfl)) q2) hx))) q3))) (by show 2 ≤ sizeLine; decide))) ?_)
  have := app_last (S := St l3) (xs := acc.map pD) (y := pD (a, b)) (by rw [List.length_map]; omega)
  refine Eq.trans this ?_
  rw [List.map_append]
  rfl
theorem drawn_ex (l : List Int) : ∃ F l', Good F ∧ m__law_drawn_front [.loc 0] (St l) = .ok (fD F) (St l') := by
  obtain ⟨t, l1, ht, q⟩ := take_natG 7 (by decide) l [OB.lst []] (by simp [clS, clO, M.cls])
  obtain ⟨e', S', ⟨acc, l2, o2, rfl, rfl, hlen, hfit⟩, hf⟩ := for_ex (xs := rng 0 (1 + t)) (g := gN 2) (b := l__law_drawn_front_1) (fun k e S => ∃ (acc : List P) (l : List Int) (o2 : Option D), e = [some (.loc 0), some (.loc 1), o2] ∧ S = [OB.lst (I l), OB.lst (acc.map pD)] ∧ acc.length = k ∧ ∀ p ∈ acc, Fit p) (rng 0 (1 + t)) 0
    [some (.loc 0), some (.loc 1), none] [OB.lst (I l1), OB.lst (([] : List P).map pD)] ⟨[], l1, none, rfl, rfl, rfl, by simp⟩ (by
      rintro d hd k e S hk ⟨acc, l, o2, rfl, rfl, hlen, hfit⟩
      rw [rng_len] at hk
      obtain ⟨p, l', hp, h⟩ := drawn_turn l acc (some d) (by omega)
      refine ⟨_, _, _, rfl, h, acc ++ [p], l', some d, rfl, rfl, by simp [hlen], fun x hx => ?_⟩
      rcases List.mem_append.mp hx with hx | hx
      · exact hfit x hx
      · rw [List.mem_singleton] at hx; subst hx; exact hp)
  rw [rng_len] at hlen
  have hne : acc ≠ [] := by intro e; subst e; simp at hlen; omega
  refine ⟨front acc, l2, ⟨front_fro _, front_ne hne, Nat.le_trans (front_len _) (by omega), fun p hp => hfit p (front_mem hp)⟩, ?_⟩
  have hS2 : clS [OB.lst (I l2), OB.lst (acc.map pD)].length [OB.lst (I l2), OB.lst (acc.map pD)] = true := clS_push (S := St l2) (clS_St _ _) (cls_pD _ _)
  refine (retV_ok (d := fD (front acc)) (d' := fD (front acc)) (S' := [OB.lst (I l2), OB.lst (acc.map pD)]) (run_rt (e' := [some (.loc 0), some (.loc 1), o2]) ?_) (clS_St l2 _) ?_).trans rfl
  · show b__law_drawn_front [some (.loc 0), none, none] (St l) = _
    unfold b__law_drawn_front
    refine (seq_nx (set_ok (asL_ok (lst_ok rfl (Nat.zero_le _))))).trans ?_
    refine (seq_nx (for_ok (src_rng' (1 + t) (by omega) (S := [OB.lst (I l), OB.lst []]) (S1 := [OB.lst (I l1), OB.lst []]) (bin_ok rfl (callF_ok (cons_ok (var_ok rfl) (one_ok rfl)) q) (x_add.trans ?_))) hf)).trans (ret_ok (callF_ok (one_ok (var_ok rfl)) (lfront_ok hS2 (n := 1) (r := acc) rfl (by omega))))
    congr 2
  · simp only [fz, cl, cls_pD, if_true]
end
end K68


set_option Elab.async false
set_option linter.all false
set_option maxRecDepth 100000
set_option maxHeartbeats 4000000
namespace K68
open PySem PySem.Spec PyProof.Rows L2 M M.Fo
/-! plain -/
theorem bstL_spec {a b : Int} {l : List P} (h : Fro l) (n : l ≠ []) : bstL a b l ∈ l ∧ ∀ q ∈ l, wt a b (bstL a b l) ≤ wt a b q := by
  obtain ⟨f, r, rfl⟩ := List.exists_cons_of_ne_nil n
  have := bst_spec (a := a) (b := b) r f h
  exact ⟨this.1, fun q hq => (this.2 q hq).1⟩
theorem best_sum {a b : Int} (ha : 0 < a) (hb : 0 < b) {F G : List P} (hF : Fro F) (hG : Fro G) (nF : F ≠ []) (nG : G ≠ []) (nP : put F G ≠ []) : wt a b (bstL a b F) + wt a b (bstL a b G) = wt a b (bstL a b (put F G)) := by
  have sF := bstL_spec (a := a) (b := b) hF nF
  have sG := bstL_spec (a := a) (b := b) hG nG
  have sP := bstL_spec (a := a) (b := b) (front_fro (sums F G)) nP
  refine Int.le_antisymm ?_ ?_
  · obtain ⟨p, hp, q, hq, e⟩ := mem_sums.mp (front_mem sP.1)
    rw [show put F G = front (sums F G) from rfl, e, wt_add]
    exact Int.add_le_add (sF.2 p hp) (sG.2 q hq)
  · obtain ⟨x, hx, d⟩ := front_dom (mem_sums.mpr ⟨_, sF.1, _, sG.1, rfl⟩ : add (bstL a b F) (bstL a b G) ∈ sums F G)
    have h1 := sP.2 x hx
    rw [← wt_add]
    refine Int.le_trans h1 ?_
    unfold wt
    exact Int.add_le_add (Int.mul_le_mul_of_nonneg_left d.1 (by omega)) (Int.mul_le_mul_of_nonneg_left d.2 (by omega))
theorem best_mono {a a' b : Int} (h : a < a') {l : List P} (hl : Fro l) (n : l ≠ []) : (bstL a' b l).1 ≤ (bstL a b l).1 := by
  have s := bstL_spec (a := a) (b := b) hl n
  have s' := bstL_spec (a := a') (b := b) hl n
  have h1 := s.2 _ s'.1
  have h2 := s'.2 _ s.1
  unfold wt at h1 h2
  generalize (bstL a' b l) = p at *
  generalize (bstL a b l) = q at *
  by_cases hh : p.1 ≤ q.1
  · exact hh
  · have : 0 < (a' - a) * (p.1 - q.1) := Int.mul_pos (by omega) (by omega)
    have e : (a' - a) * (p.1 - q.1) = a' * p.1 - a' * q.1 - (a * p.1 - a * q.1) := by grind
    omega
theorem bound_le {T a b v : Int} {p : P} (ha : 1 ≤ a) (hb : 1 ≤ b) (h : T ≤ wt a b p) (hv : p.2 ≤ v) (h0 : 0 ≤ p.1) : Fo.bound T a b v ≤ p.1 := by
  have h1 : b * p.2 ≤ b * v := Int.mul_le_mul_of_nonneg_left hv (by omega)
  unfold wt at h
  have h2 : T - b * v + a - 1 < (p.1 + 1) * a := by grind
  have h3 : (T - b * v + a - 1) / a < p.1 + 1 := (Int.ediv_lt_iff_lt_mul (by omega)).mpr h2
  unfold Fo.bound
  split <;> omega
theorem find_last {l : List P} {v : Int} {p : P} (h : p ∈ l) (hv : p.2 ≤ v) : ∃ q, l.find? (fun p => decide (p.2 ≤ v)) = some q := by
  cases e : l.find? (fun p => decide (p.2 ≤ v)) with
  | some q => exact ⟨q, rfl⟩
  | none =>
    have := List.find?_eq_none.mp e p h
    simp [hv] at this
theorem find_up : ∀ {l : List P} {v w : Int} {p : P}, Fro l → v ≤ w → l.find? (fun p => decide (p.2 ≤ v)) = some p → ∃ q, l.find? (fun p => decide (p.2 ≤ w)) = some q ∧ q.1 ≤ p.1
  | [], v, w, p, _, _, h => by cases h
  | f :: l, v, w, p, hf, hw, h => by
    have h1 := List.pairwise_cons.mp hf
    rw [List.find?_cons] at h ⊢
    by_cases hv : f.2 ≤ w
    · rw [decide_eq_true hv]
      refine ⟨f, rfl, ?_⟩
      by_cases hv2 : f.2 ≤ v
      · rw [decide_eq_true hv2] at h
        cases h
        exact Int.le_refl _
      · rw [decide_eq_false hv2] at h
        have := h1.1 p (List.mem_of_find?_eq_some h)
        omega
    · rw [decide_eq_false hv]
      rw [decide_eq_false (by omega)] at h
      exact find_up h1.2 hw h
section
variable [Tabs]
theorem put_ne {F G : List P} (nF : F ≠ []) (nG : G ≠ []) : put F G ≠ [] := by
  obtain ⟨f, r, rfl⟩ := List.exists_cons_of_ne_nil nF
  obtain ⟨g, s, rfl⟩ := List.exists_cons_of_ne_nil nG
  exact front_ne (by simp [sums])
theorem Good.tame {F : List P} (h : Good F) : Tame F := fun p hp => by
  have := h.fit p hp
  unfold Fit at this
  omega
theorem put_fit {F G : List P} (hF : Good F) (hG : Good G) : ∀ p ∈ put F G, (0 ≤ p.1 ∧ p.1 ≤ 80) ∧ 0 ≤ p.2 ∧ p.2 ≤ 400 := by
  intro p hp
  obtain ⟨x, hx, y, hy, rfl⟩ := mem_sums.mp (front_mem hp)
  have h1 := hF.fit x hx
  have h2 := hG.fit y hy
  unfold Fit at h1 h2
  simp only [add]
  omega
theorem put_len2 {F G : List P} (hF : Good F) (hG : Good G) : (put F G).length ≤ 49 := Nat.le_trans (put_len F G) (Nat.mul_le_mul hF.len hG.len)
/-! calls -/
variable {S : Store} {e : M.Env} {x y z : ME} (hS : clS S.length S = true)
include hS
theorem c_best {a b : Int} (h : Fair a b) {l : List P} (hl : l ≠ []) (hx : x e S = .ok (fD l) S) (hy : y e S = .ok (pD (a, b)) S) : mCallF 2 m_best_at (mCons x (mCons y mNil)) e S = .ok (pD (bstL a b l)) S := callF_ok (cons_ok hx (one_ok hy)) (best_okL hS h hl)
theorem c_wt {a b : Int} (h : Fair a b) {p : P} (hx : x e S = .ok (pD (a, b)) S) (hy : y e S = .ok (pD p) S) : mCallF 2 m_weighed (mCons x (mCons y mNil)) e S = .ok (.int (wt a b p)) S := callF_ok (cons_ok hx (one_ok hy)) (weighed_ok hS h p)
omit hS
theorem neP' {p q : P} (h : p = q) : dNe (pD p) (pD q) S = some (.bl false) := (cP.dNe (by show 1 ≤ 64; decide) p q S).trans (by rw [decide_eq_true h]; rfl)
theorem neF {l m : List P} (h : l = m) : dNe (fD l) (fD m) S = some (.bl false) := (ne_fD l m).trans (by rw [decide_eq_true h]; rfl)
theorem inF (p : P) (l : List P) : dIn (pD p) (fD l) S = some (.bl (decide (p ∈ l))) := (cP.dIn_tup (by show 1 ≤ 63; decide) p l S).trans (congrArg (fun b => some (D.bl b)) (decide_eq_decide.mpr Iff.rfl))
theorem notinF (p : P) (l : List P) : dNotIn (pD p) (fD l) S = some (.bl (!decide (p ∈ l))) := by
  unfold dNotIn
  rw [inF]
  rfl
theorem ix_tm1 (xs : List D) (d : D) : dIx (.tup (xs ++ [d])) (.int (-1)) S = some d := by
  show atI (xs ++ [d]) (-1) = _
  unfold atI ixN
  rw [if_neg (by decide), if_pos (by simp; omega)]
  have : ((-1 : Int) + ((xs ++ [d]).length : Int)).toNat = xs.length := by simp; omega
  rw [this]
  simp
/-! at one price -/
abbrev IE (o0 o2 : Option D) (A B : List P) (o5 o6 : Option D) (m w s t : Int) (o13 o14 o17 o18 o19 o20 : Option D) : M.Env :=
  [o0, some (.loc 0), o2, some (fD A), some (fD B), o5, o6, some (fD (put A B)), some (.int m), some (.int w), some (.int s), some (.int t), some (fD (A.map (mv (m, w)))), o13, o14, some (fD (A.map (sc s t))), some (fD (hull A)), o17, o18, o19, o20]
theorem goal_turn {A B : List P} (hA : Good A) (hB : Good B) {a b : Int} (hab : Fair a b) {o0 o2 o5 o6 o13 o17 o18 o20 : Option D} {m w s t : Int} {v : Int} {q : P} (hq : q ∈ put A B) (hv : q.2 ≤ v) (hS : clS S.length S = true) :
    ∃ o17', b_law_10 (IE o0 o2 A B o5 o6 m w s t o13 (some (.int v)) o17 o18 (some (pD (a, b))) o20) S = some (.nx, IE o0 o2 A B o5 o6 m w s t o13 (some (.int v)) o17' o18 (some (pD (a, b))) o20, S) := by
  have fP : Fro (put A B) := front_fro _
  have nP := put_ne hA.ne hB.ne
  obtain ⟨p, hp⟩ := find_last hq hv
  have hpm := List.mem_of_find?_eq_some hp
  have hpv : p.2 ≤ v := by simpa using List.find?_some hp
  have pf := put_fit hA hB p hpm
  have hbest := best_sum (a := a) (b := b) (by have := hab.1; omega) (by have := hab.2; omega) hA.fro hB.fro hA.ne hB.ne nP
  have hT : wt a b (bstL a b A) + wt a b (bstL a b B) ≤ wt a b p := by
    rw [hbest]
    exact (bstL_spec fP nP).2 p hpm
  refine ⟨some (pD p), ?_⟩
  unfold b_law_10
  refine (seq_nx (set_ok (callF_ok (cons_ok (var_ok rfl) (one_ok (var_ok rfl))) (least_bits_ok hS hp)))).trans ?_
  refine (seq_nx (if_skip (or_ff ?_ (or_ff ?_ ?_)))).trans ?_
  · refine b_ok (bin_ok (bin_ok (var_ok rfl) rfl (ix_p0 p)) (callF_ok (cons_ok (tup_ok (cons_ok (var_ok rfl) (one_ok (var_ok rfl))) (by show 2 ≤ sizeLine; decide)) (cons_ok (var_ok rfl) (one_ok (var_ok rfl)))) (bound_ok hS hab hA.ne hB.ne)) (x_lt.trans ?_))
    have := bound_le (v := v) hab.1.1 hab.2.1 hT hpv pf.1.1
    rw [decide_eq_false (by omega)]
  · exact ne_ff (callF_ok (cons_ok (var_ok rfl) (one_ok (bin_ok (var_ok rfl) rfl (ix_p0 p)))) (least_loss_ok hS fP hpm)) (var_ok rfl) (neP' rfl)
  · refine b_ok (bin_ok (callF_ok (one_ok (var_ok rfl)) (is_front_ok hS fP nP (by have := put_len2 hA hB; omega) fun x hx => ?_)) rfl rfl)
    have := put_fit hA hB x hx
    omega
  · obtain ⟨f, r, er⟩ := List.exists_cons_of_ne_nil nP
    obtain ⟨p', hp', hle⟩ := find_up fP (show p.2 ≤ p.2 + 1 by omega) (w := p.2 + 1) (v := p.2) (p := p) (by
      clear hT hbest
      rw [List.find?_eq_some_iff_append] at hp ⊢
      obtain ⟨_, as, bs, e, hn⟩ := hp
      refine ⟨by simp, as, bs, e, fun x hx => ?_⟩
      have : p.2 < x.2 := by
        have := fP
        rw [e] at this
        exact ((List.pairwise_append.mp this).2.2 x hx p (by simp)).2
      simp; omega)
    have h0 : mBin dIx (mVar 7) (mC (.int 0)) (IE o0 o2 A B o5 o6 m w s t o13 (some (.int v)) (some (pD p)) o18 (some (pD (a, b))) o20) S = .ok (pD f) S := bin_ok (var_ok rfl) rfl (by rw [er]; exact ix0 _ _ _)
    refine if_skip ?_
    have h1 : mB (mBin dNe (mVar 17) (mBin dIx (mVar 7) (mC (.int 0)))) (IE o0 o2 A B o5 o6 m w s t o13 (some (.int v)) (some (pD p)) o18 (some (pD (a, b))) o20) S = .ok (!decide (p = f)) S := b_ok (bin_ok (var_ok rfl) h0 (cP.dNe (by show 1 ≤ 64; decide) p f S))
    by_cases hpf : p = f
    · rw [decide_eq_true hpf] at h1
      exact and_f h1
    · rw [decide_eq_false hpf] at h1
      refine and_t h1 (b_ok (bin_ok (bin_ok (callF_ok (cons_ok (var_ok rfl) (one_ok (bin_ok (bin_ok (var_ok rfl) rfl (ix_p1 p)) rfl x_add))) (least_bits_ok hS hp')) rfl (ix_p0 p')) (bin_ok (var_ok rfl) rfl (ix_p0 p)) (x_gt.trans ?_)))
      rw [decide_eq_false (by omega)]
theorem price_turn {A B : List P} (hA : Good A) (hB : Good B) {o0 o2 o5 o6 o13 : Option D} {m w s t : Int} (hs : 0 < s ∧ s ≤ 5) (ht : 0 < t ∧ t ≤ 5) (l : List Int) (o14 o17 o18 o19 o20 : Option D) :
    ∃ o14' o17' o19' o20' l', l_law_11 (IE o0 o2 A B o5 o6 m w s t o13 o14 o17 o18 o19 o20) (St l) = some (.nx, IE o0 o2 A B o5 o6 m w s t o13 o14' o17' o18 o19' o20', St l') := by
  have hS : ∀ l : List Int, clS (St l).length (St l) = true := fun l => clS_St l _
  obtain ⟨a, l1, a0, a1, q1⟩ := take_exG 60 (by decide) l [] rfl
  obtain ⟨b, l2, b0, b1, q2⟩ := take_exG 60 (by decide) l1 [] rfl
  obtain ⟨v, l3, v0, v1, q3⟩ := take_exG 420 (by decide) l2 [] rfl
  obtain ⟨c, l4, c0, c1, q4⟩ := take_exG 9 (by decide) l3 [] rfl
  have hab : Fair (1 + a) (1 + b) := by unfold Fair; omega
  generalize ha : 1 + a = a' at hab
  generalize hb : 1 + b = b' at hab
  have la : a' ≤ 60 := by omega
  have lb : b' ≤ 60 := by omega
  have fP : Fro (put A B) := front_fro _
  have nP := put_ne hA.ne hB.ne
  obtain ⟨f, r, er⟩ := List.exists_cons_of_ne_nil hA.ne
  have hbest : bstL a' b' A = bst a' b' f r := by rw [er]; rfl
  generalize hp : bstL a' b' A = p at hbest
  have e1 : ∀ o14 o17, mBin dIx (mVar 19) (mC (.int 0)) (IE o0 o2 A B o5 o6 m w s t o13 o14 o17 o18 (some (pD (a', b'))) (some (pD p))) = fun S => .ok (.int a') S := fun _ _ => funext fun S => bin_ok (var_ok rfl) rfl (ix_p0 (a', b'))
  have e2 : ∀ o14 o17, mBin dIx (mVar 19) (mC (.int 1)) (IE o0 o2 A B o5 o6 m w s t o13 o14 o17 o18 (some (pD (a', b'))) (some (pD p))) = fun S => .ok (.int b') S := fun _ _ => funext fun S => bin_ok (var_ok rfl) rfl (ix_p1 (a', b'))
  have e3 : ∀ o14 o17, mBin dIx (mVar 20) (mC (.int 0)) (IE o0 o2 A B o5 o6 m w s t o13 o14 o17 o18 (some (pD (a', b'))) (some (pD p))) = fun S => .ok (.int p.1) S := fun _ _ => funext fun S => bin_ok (var_ok rfl) rfl (ix_p0 p)
  have e4 : ∀ o14 o17, mBin dIx (mVar 20) (mC (.int 1)) (IE o0 o2 A B o5 o6 m w s t o13 o14 o17 o18 (some (pD (a', b'))) (some (pD p))) = fun S => .ok (.int p.2) S := fun _ _ => funext fun S => bin_ok (var_ok rfl) rfl (ix_p1 p)
  have hfair2 : Fair (a' * t) (b' * s) := by
    obtain ⟨⟨h1, _⟩, h2, _⟩ := hab
    have k1 : a' * t ≤ 60 * 5 := Int.mul_le_mul la ht.2 (by omega) (by omega)
    have k2 : b' * s ≤ 60 * 5 := Int.mul_le_mul lb hs.2 (by omega) (by omega)
    have k3 : 0 < a' * t := Int.mul_pos (by omega) (by omega)
    have k4 : 0 < b' * s := Int.mul_pos (by omega) (by omega)
    unfold Fair; omega
  have hgreat : bstL (a' * t) (b' * s) (A.map (sc s t)) = sc s t p := by
    rw [er, hbest]
    exact bst_map (wt_sc hs.1 ht.1 a' b') r f
  have hmoved : bstL a' b' (A.map (mv (m, w))) = mv (m, w) p := by
    rw [er, hbest]
    exact bst_map (wt_mv a' b' (m, w)) r f
  have nMap : ∀ g : P → P, A.map g ≠ [] := fun g => by rw [er]; simp
  have hin : p ∈ hull A := by
    rw [hbest, er]
    exact bst_hull (by have := hab.1; omega) (by have := hab.2; omega) (er ▸ hA.fro)
  have hsum := best_sum (a := a') (b := b') (by have := hab.1; omega) (by have := hab.2; omega) hA.fro hB.fro hA.ne hB.ne nP
  rw [hp] at hsum
  obtain ⟨P', z, eP⟩ : ∃ P' z, put A B = P' ++ [z] := by
    rcases List.eq_nil_or_concat (put A B) with h | ⟨P', z, h⟩
    · exact absurd h nP
    · exact ⟨P', z, by rw [h, List.concat_eq_append]⟩
  have last : ∀ (o14 o17 : Option D) (S : Store), mBin dIx (mBin dIx (mVar 7) (mUn dNeg (mC (.int 1)))) (mC (.int 1)) (IE o0 o2 A B o5 o6 m w s t o13 o14 o17 o18 (some (pD (a', b'))) (some (pD p))) S = .ok (.int z.2) S := by
    intro o14 o17 S
    refine bin_ok (bin_ok (v := .int (-1)) (var_ok rfl) rfl ?_) rfl (ix_p1 z)
    rw [eP]
    show dIx (.tup ((P' ++ [z]).map pD)) _ _ = _
    rw [List.map_append]
    exact ix_tm1 _ _
  have s1 : sSet (gN 19) (mTup (mCons (mBin dAdd (mC (.int 1)) (mCallF 2 m__law_take (mCons (mVar 1) (mCons (mC (.int 60)) mNil)))) (mCons (mBin dAdd (mC (.int 1)) (mCallF 2 m__law_take (mCons (mVar 1) (mCons (mC (.int 60)) mNil)))) mNil))) (IE o0 o2 A B o5 o6 m w s t o13 o14 o17 o18 o19 o20) (St l) =
      some (.nx, IE o0 o2 A B o5 o6 m w s t o13 o14 o17 o18 (some (pD (a', b'))) o20, St l2) := by
    rw [← ha, ← hb]
    exact set_ok (tup_ok (cons_ok (bin_ok rfl (callF_ok (cons_ok (var_ok rfl) (one_ok rfl)) q1) x_add) (one_ok (bin_ok rfl (callF_ok (cons_ok (var_ok rfl) (one_ok rfl)) q2) x_add))) (by show 2 ≤ sizeLine; decide))
  have s2 : sSet (gN 20) (mCallF 2 m_best_at (mCons (mVar 3) (mCons (mVar 19) mNil))) (IE o0 o2 A B o5 o6 m w s t o13 o14 o17 o18 (some (pD (a', b'))) o20) (St l2) =
      some (.nx, IE o0 o2 A B o5 o6 m w s t o13 o14 o17 o18 (some (pD (a', b'))) (some (pD p)), St l2) := by
    rw [← hp]
    exact set_ok (c_best (hS _) hab hA.ne (var_ok rfl) (var_ok rfl))
  obtain ⟨o17', s6⟩ : ∃ o17', sIf (mB (mBin dGe (mVar 14) (mBin dIx (mBin dIx (mVar 7) (mUn dNeg (mC (.int 1)))) (mC (.int 1))))) b_law_10 sSkip (IE o0 o2 A B o5 o6 m w s t o13 (some (.int v)) o17 o18 (some (pD (a', b'))) (some (pD p))) (St l3) =
      some (.nx, IE o0 o2 A B o5 o6 m w s t o13 (some (.int v)) o17' o18 (some (pD (a', b'))) (some (pD p)), St l3) := by
    have ht : mB (mBin dGe (mVar 14) (mBin dIx (mBin dIx (mVar 7) (mUn dNeg (mC (.int 1)))) (mC (.int 1)))) (IE o0 o2 A B o5 o6 m w s t o13 (some (.int v)) o17 o18 (some (pD (a', b'))) (some (pD p))) (St l3) = .ok (decide (z.2 ≤ v)) (St l3) := b_ok (bin_ok (var_ok rfl) (last _ _ _) x_ge)
    by_cases hz : z.2 ≤ v
    · rw [decide_eq_true hz] at ht
      obtain ⟨o17', h⟩ := goal_turn hA hB hab (o0 := o0) (o2 := o2) (o5 := o5) (o6 := o6) (o13 := o13) (o17 := o17) (o18 := o18) (o20 := some (pD p)) (m := m) (w := w) (s := s) (t := t) (q := z) (by rw [eP]; simp) hz (hS l3)
      exact ⟨o17', (if_t ht).trans h⟩
    · rw [decide_eq_false hz] at ht
      exact ⟨o17, if_skip ht⟩
  refine ⟨some (.int v), o17', some (pD (a', b')), some (pD p), l4, ?_⟩
  unfold l_law_11
  refine (seq_nx s1).trans ((seq_nx s2).trans ?_)
  refine (seq_nx (if_skip (or_ff ?_ ?_))).trans ?_
  · exact b_ok (bin_ok (var_ok rfl) (var_ok rfl) ((notinF p (hull A)).trans (by rw [decide_eq_true hin]; rfl)))
  · exact ne_ff (bin_ok (c_wt (hS _) hab (var_ok rfl) (var_ok rfl)) (c_wt (hS _) hab (var_ok rfl) (c_best (hS _) hab hB.ne (var_ok rfl) (var_ok rfl))) x_add) (c_wt (hS _) hab (var_ok rfl) (c_best (hS _) hab nP (var_ok rfl) (var_ok rfl))) (neI hsum)
  refine (seq_nx (if_skip (or_ff ?_ ?_))).trans ?_
  · refine ne_ff (c_best (hS _) hfair2 (nMap _) (var_ok rfl) (tup_ok (cons_ok (bin_ok (congrFun (e1 _ _) _) (var_ok rfl) (x_mul (.inr (by omega)))) (one_ok (bin_ok (congrFun (e2 _ _) _) (var_ok rfl) (x_mul (.inr (by omega)))))) (by show 2 ≤ sizeLine; decide))) (tup_ok (cons_ok (bin_ok (var_ok rfl) (congrFun (e3 _ _) _) (x_mul (.inl (by omega)))) (one_ok (bin_ok (var_ok rfl) (congrFun (e4 _ _) _) (x_mul (.inl (by omega)))))) (by show 2 ≤ sizeLine; decide)) ?_
    exact neP' (q := sc s t p) hgreat
  · refine ne_ff (c_best (hS _) hab (nMap _) (var_ok rfl) (var_ok rfl)) (tup_ok (cons_ok (bin_ok (congrFun (e3 _ _) _) (var_ok rfl) x_add) (one_ok (bin_ok (congrFun (e4 _ _) _) (var_ok rfl) x_add))) (by show 2 ≤ sizeLine; decide)) ?_
    exact neP' (q := mv (m, w) p) hmoved
  refine (seq_nx (set_ok (callF_ok (cons_ok (var_ok rfl) (one_ok rfl)) q3))).trans ((seq_nx s6).trans ?_)
  have hfair3 : Fair (a' + 1 + c) b' := by have h1 := hab.1; have h2 := hab.2; unfold Fair; omega
  have hmono := best_mono (a := a') (a' := a' + 1 + c) (b := b') (by omega) hA.fro hA.ne
  rw [hp] at hmono
  refine if_skip (b_ok (bin_ok (bin_ok (callF_ok (cons_ok (var_ok rfl) (one_ok (tup_ok (cons_ok (bin_ok (bin_ok (congrFun (e1 _ _) _) rfl x_add) (callF_ok (cons_ok (var_ok rfl) (one_ok rfl)) q4) x_add) (one_ok (congrFun (e2 _ _) _))) (by show 2 ≤ sizeLine; decide)))) (best_okL (hS l4) hfair3 hA.ne)) rfl (ix_p0 _)) (congrFun (e3 _ _) _) (x_gt.trans ?_)))
  rw [decide_eq_false (by omega)]
end
end K68


set_option Elab.async false
set_option linter.all false
set_option maxRecDepth 100000
set_option maxHeartbeats 4000000
namespace K68
open PySem PySem.Spec PyProof.Rows L2 M M.Fo
theorem list21 {α : Type} : ∀ (e : List α), e.length = 21 → ∃ a0 a1 a2 a3 a4 a5 a6 a7 a8 a9 a10 a11 a12 a13 a14 a15 a16 a17 a18 a19 a20, e = [a0, a1, a2, a3, a4, a5, a6, a7, a8, a9, a10, a11, a12, a13, a14, a15, a16, a17, a18, a19, a20]
  | [a0, a1, a2, a3, a4, a5, a6, a7, a8, a9, a10, a11, a12, a13, a14, a15, a16, a17, a18, a19, a20], _ => ⟨_, _, _, _, _, _, _, _, _, _, _, _, _, _, _, _, _, _, _, _, _, rfl⟩
theorem three {P : D → Prop} : ∀ {ys : List D}, ys.length = 3 → (∀ y ∈ ys, P y) → ∃ a b c, ys = [a, b, c] ∧ P a ∧ P b ∧ P c
  | [a, b, c], _, h => ⟨a, b, c, rfl, h a (by simp), h b (by simp), h c (by simp)⟩
section
variable [Tabs]
variable {S : Store} {e : M.Env} {x y z : ME}
theorem ei_len {F G : List P} {m n : Nat} (hF : F.length ≤ m) (hG : G.length ≤ n) : (front (F ++ G)).length ≤ m + n := Nat.le_trans (front_len _) (by rw [List.length_append]; omega)
theorem pu_len {F G : List P} {m n : Nat} (hF : F.length ≤ m) (hG : G.length ≤ n) : (put F G).length ≤ m * n := Nat.le_trans (put_len _ _) (Nat.mul_le_mul hF hG)
theorem c_put (hS : clS S.length S = true) {F G : List P} {m n : Nat} (hF : F.length ≤ m) (hG : G.length ≤ n) (hx : x e S = .ok (fD F) S) (hy : y e S = .ok (fD G) S) (h : m * n ≤ 4000 := by decide) (h2 : n ≤ 4000 := by decide) : mCallF 2 m_put_together (mCons x (mCons y mNil)) e S = .ok (fD (put F G)) S :=
  callF_ok (cons_ok hx (one_ok hy)) (put_ok hS F G (Nat.le_trans (Nat.mul_le_mul hF hG) h) (Nat.le_trans hG h2))
theorem c_ei (hS : clS S.length S = true) {F G : List P} {m n : Nat} (hF : F.length ≤ m) (hG : G.length ≤ n) (hx : x e S = .ok (fD F) S) (hy : y e S = .ok (fD G) S) (h : m + n ≤ 4000 := by decide) : mCallF 2 m_either (mCons x (mCons y mNil)) e S = .ok (fD (front (F ++ G))) S :=
  callF_ok (cons_ok hx (one_ok hy)) (either_ok hS F G (by omega))
theorem c_hull (hS : clS S.length S = true) {F : List P} (hs : ∀ p ∈ F, Small p) (hF : F.length ≤ 4000) (hx : x e S = .ok (fD F) S) : mCallF 1 m_hull (mCons x mNil) e S = .ok (fD (hull F)) S :=
  callF_ok (one_ok hx) (hull_ok hS hs hF)
theorem c_map {i : Nat} {me : ME} {F : List P} {f : P → P} (hi : (wipeE e [13, 14])[i]? = (wipeE e [13, 14])[i]?) (hx : e[i]? = some (some (fD F))) (hz : F.length ≤ 100000) (h : ∀ q : P, me (((wipeE e [13, 14]).set 13 (some (.int q.1))).set 14 (some (.int q.2))) S = .ok (pD (f q)) S) :
    mCall dTuple (mCons (asV (mLc (mSrc (mVar i)) (gTup 2 (gCons (gN 13) (gCons (gN 14) gNil))) mYes me [13, 14])) mNil) e S = .ok (fD (F.map f)) S := by
  refine tuple_ok ((x_mLc' (src_tup (xs := F.map pD) (var_ok hx)) (by rw [List.length_map]; omega)).trans ?_)
  have := lc_map (xs := F.map pD) (t := gTup 2 (gCons (gN 13) (gCons (gN 14) gNil))) (me := me) (e := wipeE e [13, 14]) (S := S) pD (fun q => pD (f q)) F fun q hq => ⟨_, rfl, h q⟩
  rw [this, List.map_map]
  rfl
theorem not_tru' (h : x e S = .ok (.bl true) S) : mNot (mTru x) e S = .ok false S := by rw [x_mNot, x_mTru, h]; rfl
theorem pl_fD {l : List P} (h : l.length ≤ 100000) : pl 7 (fD l) = true := by
  have : ∀ l : List P, pls 6 (l.map pD) = true := fun l => by
    induction l with
    | nil => rfl
    | cons p l ih => rw [List.map_cons, pls, ih, Bool.and_true]; rfl
  simp [fD, pl, this, h]
theorem c_alike' (hS : clS S.length S = true) {d : D} (hx : x e S = .ok d S) (hy : y e S = .ok d S) (h : pl 7 d = true) : mCallF 2 m__law_alike (mCons x (mCons y mNil)) e S = .ok (.bl true) S := callF_ok (cons_ok hx (one_ok hy)) (alike_ok hS d h)
theorem c_list {F : List P} (hx : x e S = .ok (fD F) S) : asV (mCallN nList (mCons x mNil)) e S = .ok (.lst (F.map pD)) S := by
  refine asV_ok ?_
  rw [x_mCallN, one_ok hx]; rfl
theorem fit_small {m : Int} {F : List P} (h : ∀ p ∈ F, p.1.natAbs ≤ 100000 ∧ p.2.natAbs ≤ 100000) : ∀ p ∈ F, Small p := fun p hp => by have := h p hp; unfold Small; omega
theorem mv_small {F : List P} (hF : Good F) {m w : Int} (hm : 0 ≤ m ∧ m < 30) (hw : 0 ≤ w ∧ w < 30) : ∀ p ∈ F.map (mv (m, w)), Small p := fun p hp => by
  obtain ⟨q, hq, rfl⟩ := List.mem_map.mp hp
  have := hF.fit q hq
  unfold Fit at this
  simp only [Small, mv, add]
  omega
theorem sc_small {F : List P} (hF : Good F) {s t : Int} (hs : 0 < s ∧ s ≤ 5) (ht : 0 < t ∧ t ≤ 5) : ∀ p ∈ F.map (sc s t), Small p := fun p hp => by
  obtain ⟨q, hq, rfl⟩ := List.mem_map.mp hp
  have := hF.fit q hq
  unfold Fit at this
  have k1 : s * q.1 ≤ 5 * 40 := Int.mul_le_mul hs.2 (by omega) (by omega) (by omega)
  have k2 : t * q.2 ≤ 5 * 200 := Int.mul_le_mul ht.2 (by omega) (by omega) (by omega)
  have k3 : 0 ≤ s * q.1 := Int.mul_nonneg (by omega) (by omega)
  have k4 : 0 ≤ t * q.2 := Int.mul_nonneg (by omega) (by omega)
  simp only [Small, sc]
  omega
theorem turn (o0 o2 : Option D) (l : List Int) (o3 o4 o5 o6 o7 o8 o9 o10 o11 o12 o13 o14 o15 o16 o17 o18 o19 o20 : Option D) :
    ∃ e' l', e'.length = 21 ∧ e'[0]? = some o0 ∧ e'[1]? = some (some (.loc 0)) ∧ l_law_12 [o0, some (.loc 0), o2, o3, o4, o5, o6, o7, o8, o9, o10, o11, o12, o13, o14, o15, o16, o17, o18, o19, o20] (St l) = some (.nx, e', St l') := by
  have hS : ∀ l : List Int, clS (St l).length (St l) = true := fun l => clS_St l _
  obtain ⟨ys, l1, y1, y2, y3⟩ := lc_run (t := gN 6) (me := e_law_1) (e := wipeE [o0, some (.loc 0), o2, o3, o4, o5, o6, o7, o8, o9, o10, o11, o12, o13, o14, o15, o16, o17, o18, o19, o20] [6]) (xs := rng 0 3) (P := fun y => ∃ F, y = fD F ∧ Good F) St (rng 0 3) l (fun d hd l => by
    obtain ⟨F, l', hF, h⟩ := drawn_ex l
    exact ⟨_, fD F, l', rfl, ⟨F, rfl, hF⟩, callF_ok (one_ok (var_ok rfl)) h⟩)
  rw [rng_len] at y1
  obtain ⟨_, _, _, rfl, ⟨A, rfl, hA⟩, ⟨B, rfl, hB⟩, ⟨C, rfl, hC⟩⟩ := three y1 y2
  have s1 : sSet (gLst 3 (gCons (gN 3) (gCons (gN 4) (gCons (gN 5) gNil)))) (asV (mLc (mSrcA srcR1 (mCons (mC (.int 3)) mNil)) (gN 6) mYes e_law_1 [6])) [o0, some (.loc 0), o2, o3, o4, o5, o6, o7, o8, o9, o10, o11, o12, o13, o14, o15, o16, o17, o18, o19, o20] (St l) =
      some (.nx, [o0, some (.loc 0), o2, some (fD A), some (fD B), some (fD C), o6, o7, o8, o9, o10, o11, o12, o13, o14, o15, o16, o17, o18, o19, o20], St l1) :=
    setg_ok (asV_ok ((x_mLc' (src_rng 3 (by decide) rfl) (by rw [rng_len]; decide)).trans y3)) rfl
  obtain ⟨m, l2, m0, m1, q1⟩ := take_exG 30 (by decide) l1 [] rfl
  obtain ⟨w, l3, w0, w1, q2⟩ := take_exG 30 (by decide) l2 [] rfl
  obtain ⟨s, l4, z0, z1, q3⟩ := take_exG 5 (by decide) l3 [] rfl
  obtain ⟨t, l5, t0, t1, q4⟩ := take_exG 5 (by decide) l4 [] rfl
  generalize hs : 1 + s = s'
  generalize ht : 1 + t = t'
  have bs : 0 < s' ∧ s' ≤ 5 := by omega
  have bt : 0 < t' ∧ t' ≤ 5 := by omega
  have fA := hA.fro
  have fB := hB.fro
  have fP : Fro (put A B) := front_fro _
  have nP := put_ne hA.ne hB.ne
  have lP := put_len2 hA hB
  have lE : (put A B).length ≤ 100000 := by omega
  have pS : ∀ p ∈ put A B, Small p := fun p hp => by have := put_fit hA hB p hp; unfold Small; omega
  have hHA : ∀ p ∈ hull A, Small p := fun p hp => hA.tame.small p (hull_mem fA hp)
  have hlA : (hull A).length ≤ 7 := Nat.le_trans (hull_len A) hA.len
  have hlB : (hull B).length ≤ 7 := Nat.le_trans (hull_len B) hB.len
  have lA : A.length ≤ 7 := hA.len
  have lB : B.length ≤ 7 := hB.len
  have lC : C.length ≤ 7 := hC.len
  obtain ⟨e', S', ⟨l', o14', o17', o18', o19', o20', rfl, rfl⟩, hf⟩ := for_ex (xs := rng 0 4) (g := gN 18) (b := l_law_11) (fun _ e S => ∃ l o14 o17 o18 o19 o20, e = IE o0 o2 A B (some (fD C)) o6 m w s' t' o13 o14 o17 o18 o19 o20 ∧ S = St l) (rng 0 4) 0
    (IE o0 o2 A B (some (fD C)) o6 m w s' t' o13 o14 o17 o18 o19 o20) (St l5) ⟨l5, o14, o17, o18, o19, o20, rfl, rfl⟩ (by
      rintro d hd k e S hk ⟨l, o14, o17, o18, o19, o20, rfl, rfl⟩
      obtain ⟨p14, p17, p19, p20, l', h⟩ := price_turn hA hB (o0 := o0) (o2 := o2) (o5 := some (fD C)) (o6 := o6) (o13 := o13) (m := m) (w := w) bs bt l o14 o17 (some d) o19 o20
      exact ⟨_, _, _, rfl, h, l', p14, p17, some d, p19, p20, rfl, rfl⟩)
  refine ⟨IE o0 o2 A B (some (fD C)) o6 m w s' t' o13 o14' o17' o18' o19' o20', l', rfl, rfl, rfl, ?_⟩
  unfold l_law_12
  refine (seq_nx s1).trans ?_
  refine (seq_nx (set_ok (c_put (hS l1) lA lB (var_ok rfl) (var_ok rfl)))).trans ?_
  refine (seq_nx (if_skip (or_ff (not_tru' (c_alike' (hS l1) (d := fD (put A B)) (var_ok rfl) ((c_put (hS l1) lB lA (var_ok rfl) (var_ok rfl)).trans (by rw [put_comm])) (pl_fD lE))) (or_ff ?_ ?_)))).trans ?_
  · exact ne_ff (c_put (hS l1) lP lC (var_ok rfl) (var_ok rfl)) (c_put (hS l1) lA (pu_len lB lC) (var_ok rfl) (c_put (hS l1) lB lC (var_ok rfl) (var_ok rfl))) (neF (put_assoc A B C))
  · exact ne_ff (callF_ok (one_ok (tup_ok (cons_ok (var_ok rfl) (cons_ok (var_ok rfl) (one_ok (var_ok rfl)))) (by show 3 ≤ sizeLine; decide))) (all3_ok (hS l1) fA (by omega) (by omega) (by omega))) (c_put (hS l1) lP lC (var_ok rfl) (var_ok rfl)) (neF rfl)
  refine (seq_nx (if_skip (or_ff ?_ (or_ff ?_ (or_ff ?_ ?_))))).trans ?_
  · exact ne_ff (c_ei (hS l1) lA lB (var_ok rfl) (var_ok rfl)) (c_ei (hS l1) lB lA (var_ok rfl) (var_ok rfl)) (neF (ei_comm A B))
  · exact ne_ff (c_ei (hS l1) (ei_len lA lB) lC (c_ei (hS l1) lA lB (var_ok rfl) (var_ok rfl)) (var_ok rfl)) (c_ei (hS l1) lA (ei_len lB lC) (var_ok rfl) (c_ei (hS l1) lB lC (var_ok rfl) (var_ok rfl))) (neF (ei_assoc A B C))
  · exact ne_ff (c_ei (hS l1) lA lA (var_ok rfl) (var_ok rfl)) (var_ok rfl) (neF (ei_self fA))
  · refine ne_ff (callF_ok (one_ok (d := .lst ((A ++ B).map pD)) ?_) (front_ok (hS l1) (r := A ++ B) rfl trivial (by rw [List.length_append]; omega))) (c_ei (hS l1) lA lB (var_ok rfl) (var_ok rfl)) (neF rfl)
    refine bin_ok (c_list (var_ok rfl)) (c_list (var_ok rfl)) ?_
    · rw [List.map_append]
      exact if_pos (sz (by rw [List.length_map, List.length_map]; omega))
  refine (seq_nx (if_skip (or_ff ?_ ?_))).trans ?_
  · exact ne_ff (c_put (hS l1) lA (ei_len lB lC) (var_ok rfl) (c_ei (hS l1) lB lC (var_ok rfl) (var_ok rfl))) (c_ei (hS l1) lP (pu_len lA lC) (c_put (hS l1) lA lB (var_ok rfl) (var_ok rfl)) (c_put (hS l1) lA lC (var_ok rfl) (var_ok rfl))) (neF (put_ei A B C))
  · exact ne_ff (c_put (hS l1) (G := [(0, 0)]) lA (Nat.le_refl 1) (var_ok rfl) (tup_ok (one_ok (tup_ok (cons_ok rfl (one_ok rfl)) (by show 2 ≤ sizeLine; decide))) (by show 1 ≤ sizeLine; decide))) (var_ok rfl) (neF (put_zero fA))
  have s6 : sSet (gTup 4 (gCons (gN 8) (gCons (gN 9) (gCons (gN 10) (gCons (gN 11) gNil))))) (mTup (mCons (mCallF 2 m__law_take (mCons (mVar 1) (mCons (mC (.int 30)) mNil))) (mCons (mCallF 2 m__law_take (mCons (mVar 1) (mCons (mC (.int 30)) mNil))) (mCons (mBin dAdd (mC (.int 1)) (mCallF 2 m__law_take (mCons (mVar 1) (mCons (mC (.int 5)) mNil)))) (mCons (mBin dAdd (mC (.int 1)) (mCallF 2 m__law_take (mCons (mVar 1) (mCons (mC (.int 5)) mNil)))) mNil)))))
      [o0, some (.loc 0), o2, some (fD A), some (fD B), some (fD C), o6, some (fD (put A B)), o8, o9, o10, o11, o12, o13, o14, o15, o16, o17, o18, o19, o20] (St l1) =
      some (.nx, [o0, some (.loc 0), o2, some (fD A), some (fD B), some (fD C), o6, some (fD (put A B)), some (.int m), some (.int w), some (.int s'), some (.int t'), o12, o13, o14, o15, o16, o17, o18, o19, o20], St l5) := by
    rw [← hs, ← ht]
    exact setg_ok (tup_ok (cons_ok (callF_ok (cons_ok (var_ok rfl) (one_ok rfl)) q1) (cons_ok (callF_ok (cons_ok (var_ok rfl) (one_ok rfl)) q2) (cons_ok (bin_ok rfl (callF_ok (cons_ok (var_ok rfl) (one_ok rfl)) q3) x_add) (one_ok (bin_ok rfl (callF_ok (cons_ok (var_ok rfl) (one_ok rfl)) q4) x_add))))) (by show 4 ≤ sizeLine; decide)) rfl
  refine (seq_nx s6).trans ?_
  refine (seq_nx (set_ok (c_map (f := mv (m, w)) (F := A) rfl rfl (by omega) fun q => tup_ok (cons_ok (bin_ok (var_ok rfl) (var_ok rfl) x_add) (one_ok (bin_ok (var_ok rfl) (var_ok rfl) x_add))) (by show 2 ≤ sizeLine; decide)))).trans ?_
  have M5 : ∀ z : Int, dMul (.int s') (.int z) (St l5) = some (.int (s' * z)) := fun z => x_mul (.inl (by omega))
  have M6 : ∀ z : Int, dMul (.int t') (.int z) (St l5) = some (.int (t' * z)) := fun z => x_mul (.inl (by omega))
  refine (seq_nx (set_ok (c_map (f := sc s' t') (F := A) rfl rfl (by omega) fun q => tup_ok (cons_ok (bin_ok (var_ok rfl) (var_ok rfl) (M5 _)) (one_ok (bin_ok (var_ok rfl) (var_ok rfl) (M6 _)))) (by show 2 ≤ sizeLine; decide)))).trans ?_
  have lmA : ∀ f : P → P, (A.map f).length ≤ 7 := fun f => by rw [List.length_map]; exact lA
  have lmB : ∀ f : P → P, (B.map f).length ≤ 7 := fun f => by rw [List.length_map]; exact lB
  refine (seq_nx (if_skip (or_ff ?_ ?_))).trans ?_
  · exact ne_ff (c_put (hS l5) (lmA _) lB (var_ok rfl) (var_ok rfl)) (c_map (f := mv (m, w)) (F := put A B) rfl rfl lE fun q => tup_ok (cons_ok (bin_ok (var_ok rfl) (var_ok rfl) x_add) (one_ok (bin_ok (var_ok rfl) (var_ok rfl) x_add))) (by show 2 ≤ sizeLine; decide)) (neF (put_mv (m, w) A B))
  · exact ne_ff (c_put (hS l5) (G := [(m, w)]) lA (Nat.le_refl 1) (var_ok rfl) (tup_ok (one_ok (tup_ok (cons_ok (var_ok rfl) (one_ok (var_ok rfl))) (by show 2 ≤ sizeLine; decide))) (by show 1 ≤ sizeLine; decide))) (var_ok rfl) (neF (put_one fA (m, w)))
  refine (seq_nx (if_skip (S1 := St l5) ?_)).trans ?_
  · exact ne_ff (c_put (hS l5) (lmA _) (lmB _) (var_ok rfl) (c_map (f := sc s' t') (F := B) rfl rfl (by omega) fun q => tup_ok (cons_ok (bin_ok (var_ok rfl) (var_ok rfl) (M5 _)) (one_ok (bin_ok (var_ok rfl) (var_ok rfl) (M6 _)))) (by show 2 ≤ sizeLine; decide))) (c_map (f := sc s' t') (F := put A B) rfl rfl lE fun q => tup_ok (cons_ok (bin_ok (var_ok rfl) (var_ok rfl) (M5 _)) (one_ok (bin_ok (var_ok rfl) (var_ok rfl) (M6 _)))) (by show 2 ≤ sizeLine; decide)) (neF (put_sc bs.1 bt.1 A B))
  refine (seq_nx (set_ok (c_hull (hS l5) hA.tame.small (by omega) (var_ok rfl)))).trans ?_
  refine (seq_nx (if_skip (or_ff ?_ (or_ff ?_ ?_)))).trans ?_
  · exact ne_ff (c_hull (hS l5) hHA (by omega) (var_ok rfl)) (var_ok rfl) (neF (hull_hull fA))
  · exact ne_ff (c_hull (hS l5) (mv_small hA ⟨m0, m1⟩ ⟨w0, w1⟩) (by rw [List.length_map]; omega) (var_ok rfl)) (c_map (f := mv (m, w)) (F := hull A) rfl rfl (by omega) fun q => tup_ok (cons_ok (bin_ok (var_ok rfl) (var_ok rfl) x_add) (one_ok (bin_ok (var_ok rfl) (var_ok rfl) x_add))) (by show 2 ≤ sizeLine; decide)) (neF (hull_map (below_mv (m, w)) A))
  · exact ne_ff (c_hull (hS l5) (sc_small hA bs bt) (by rw [List.length_map]; omega) (var_ok rfl)) (c_map (f := sc s' t') (F := hull A) rfl rfl (by omega) fun q => tup_ok (cons_ok (bin_ok (var_ok rfl) (var_ok rfl) (M5 _)) (one_ok (bin_ok (var_ok rfl) (var_ok rfl) (M6 _)))) (by show 2 ≤ sizeLine; decide)) (neF (hull_map (below_sc bs.1 bt.1) A))
  have two : m_hull_together [.tup [fD A, fD B]] (St l5) = .ok (fD (hull (put A B))) (St l5) := two_ok (hS l5) fA fB hA.tame hB.tame (by omega) (by omega) hA.ne hB.ne
  refine (seq_nx (if_skip (or_ff ?_ (or_ff ?_ ?_)))).trans ?_
  · exact ne_ff (c_hull (hS l5) pS (by omega) (var_ok rfl)) (callF_ok (one_ok (tup_ok (cons_ok (var_ok rfl) (one_ok (var_ok rfl))) (by show 2 ≤ sizeLine; decide))) two) (neF rfl)
  · refine ne_ff (callF_ok (one_ok (tup_ok (cons_ok (var_ok rfl) (one_ok (var_ok rfl))) (by show 2 ≤ sizeLine; decide))) two) (c_hull (hS l5) (F := put (hull A) (hull B)) ?_ ?_ (c_put (hS l5) hlA hlB (var_ok rfl) (c_hull (hS l5) hB.tame.small (by omega) (var_ok rfl)))) (neF (hull_put fA fB).symm)
    · intro p hp
      obtain ⟨x, hx, y, hy, rfl⟩ := mem_sums.mp (front_mem hp)
      have h1 := hA.tame x (hull_mem fA hx)
      have h2 := hB.tame y (hull_mem fB hy)
      simp only [Small, add]
      omega
    · exact Nat.le_trans (pu_len hlA hlB) (by decide)
  · refine ne_ff (asV_ok ((x_mLc' (src_tup (xs := (hull A).map pD) (var_ok rfl)) (by rw [List.length_map]; omega)).trans (lcM_none _ fun d hd => ?_))) (asV_ok (lst_ok rfl (Nat.zero_le _))) (neL (x := []) (y := []) rfl)
    obtain ⟨p, hp, rfl⟩ := List.mem_map.mp hd
    refine ⟨_, rfl, b_ok (bin_ok (var_ok rfl) (var_ok rfl) ((notinF p A).trans ?_))⟩
    rw [decide_eq_true (hull_mem fA hp)]
    rfl
  exact for_ok (src_rng 4 (by decide) rfl) hf
theorem plain_law (ns : List Int) (hl : ns.length ≤ 63) (hb : ∀ z ∈ ns, Builtin.Int.intBits z ≤ 1048576) : ∃ S', m_law [.fro (ns.map D.int)] [] = .ok (.bl true) S' := by
  obtain ⟨l, hd⟩ := draws_ex ns hl
  obtain ⟨e', S', ⟨l', _, h0, _, rfl⟩, hf⟩ := for_ex (xs := rng 0 8) (g := gN 2) (b := l_law_12) (fun _ e S => ∃ l, e.length = 21 ∧ e[0]? = some (some (.fro (I ns))) ∧ e[1]? = some (some (.loc 0)) ∧ S = St l) (rng 0 8) 0
    [some (.fro (I ns)), some (.loc 0), none, none, none, none, none, none, none, none, none, none, none, none, none, none, none, none, none, none, none] (St l) ⟨l, rfl, rfl, rfl, rfl⟩ (by
      rintro d hd k e S hk ⟨l, hlen, h0, h1, rfl⟩
      obtain ⟨a0, a1, a2, a3, a4, a5, a6, a7, a8, a9, a10, a11, a12, a13, a14, a15, a16, a17, a18, a19, a20, rfl⟩ := list21 e hlen
      cases h0
      cases h1
      obtain ⟨e', l', k1, k2, k3, k4⟩ := turn (some (.fro (I ns))) (some d) l a3 a4 a5 a6 a7 a8 a9 a10 a11 a12 a13 a14 a15 a16 a17 a18 a19 a20
      exact ⟨_, e', St l', rfl, k4, l', k1, k2, k3, rfl⟩)
  refine ⟨(St l').take 0, (retV_ok (d := .bl true) (S' := St l') (run_rt (e' := e') ?_) rfl rfl)⟩
  refine (seq_nx (set_ok (callF_ok (one_ok (var_ok rfl)) hd))).trans ?_
  exact (seq_nx (for_ok (src_rng 8 (by decide) rfl) hf)).trans (ret_ok rfl)
end
end K68


set_option Elab.async false
set_option linter.all false
set_option maxRecDepth 100000
set_option maxHeartbeats 4000000
namespace M
open PySem PySem.Spec PyProof.Rows L2
theorem tabB_of {base : Heap} {mg : Str → Option Value} {c P : Addr} (t : LamX.TabB base mg c P) : GxR.TabB base mg c P := ⟨t.code, t.bm, t.gP⟩
theorem cx_false {P : Program} {w : World} {H : Hp} {s s' : Shared} {e : Value} (h : L2.CX P w [] H s (fun _ _ _ => False) e s') : False := by
  obtain ⟨a, B, H', cls, d, rfl, fl, h1, h2, h3, h4, h5, z⟩ := h
  exact z
theorem code_ref {K : PySem.W.Frag} {x : Str} {params : Arguments} {body : List Stmt} {scope : Scope} {fd : FuncData} (F : FunD K x x params body scope [] [] (He.fAd K (x, none)) fd) : fd.code = .ref (He.codeOf K (x, none)) := by
  obtain ⟨oc, od, dV, kV, doc, pm, an, cdv, ct, osl, rfl, lk, hcd, _, _⟩ := F.ex
  obtain ⟨c, rfl⟩ := He.codeIn_ref hcd
  show Value.ref c = _
  rw [He.codeOf_eq lk rfl]
theorem spM_start {K : PySem.W.Frag} {mg : Str → Option Value} {H : Hp} {a : Addr} {ns : List Int} {m : List D → Store → Res D} {S' : Store} (e : m [.fro (ns.map D.int)] [] = .ok (.bl true) S') {cs : List (Addr × Addr)}
    (hT : ∀ p ∈ cs, H p.2 = some (.tbl #[])) (hS : SqL K H a (ns.map V.int)) : @spM ⟨cs.map (·.2)⟩ K mg 1 m [.ref a] H (fun v _ => v = .bl true) fun _ _ _ => False := by
  letI : Tabs := ⟨cs.map (·.2)⟩
  refine ⟨⟨[], []⟩, [.fro (ns.map D.int)], [], rfl, .cons ?_ .nil, ⟨rfl, List.nodup_nil, fun n o a e => by simp at e, fun a h => by simp at h, fun b hb => ?_⟩, ?_⟩
  · rcases hS with h | h
    · exact .fro h (by simp) (by simp) (RepDs.of_ints ns)
    · exact .frk h (RepDs.of_ints ns)
  · obtain ⟨p, hp, rfl⟩ := List.mem_map.mp hb
    exact ⟨#[], hT p hp, trivial, fun pos cv hc => by simp [codeAmong] at hc⟩
  · rw [e]
    exact fun ρ' H' f R' v r => r.inj_bl
end M


set_option Elab.async false
set_option linter.all false
set_option maxRecDepth 100000
set_option maxHeartbeats 0
namespace K68
open PySem PySem.Spec PyProof.Rows L2 M
def d__law_draws : He.DefD := ⟨("_law_draws", none), "_law_draws", "_law_draws", defArgs s__law_draws, defBody s__law_draws, defScope s__law_draws, [], []⟩
def d__law_take : He.DefD := ⟨("_law_take", none), "_law_take", "_law_take", defArgs s__law_take, defBody s__law_take, defScope s__law_take, [], []⟩
def d__law_front : He.DefD := ⟨("_law_front", none), "_law_front", "_law_front", defArgs s__law_front, defBody s__law_front, defScope s__law_front, [], []⟩
def d__law_drawn_front : He.DefD := ⟨("_law_drawn_front", none), "_law_drawn_front", "_law_drawn_front", defArgs s__law_drawn_front, defBody s__law_drawn_front, defScope s__law_drawn_front, [], []⟩
def d_front_of : He.DefD := ⟨("front_of", none), "front_of", "front_of", defArgs s_front_of, defBody s_front_of, defScope s_front_of, [], []⟩
def d_put_together : He.DefD := ⟨("put_together", none), "put_together", "put_together", defArgs s_put_together, defBody s_put_together, defScope s_put_together, [], []⟩
def d__law_alike : He.DefD := ⟨("_law_alike", none), "_law_alike", "_law_alike", defArgs s__law_alike, defBody s__law_alike, defScope s__law_alike, [], []⟩
def d_all_together : He.DefD := ⟨("all_together", none), "all_together", "all_together", defArgs s_all_together, defBody s_all_together, defScope s_all_together, [], []⟩
def d_either : He.DefD := ⟨("either", none), "either", "either", defArgs s_either, defBody s_either, defScope s_either, [], []⟩
def d_is_below : He.DefD := ⟨("is_below", none), "is_below", "is_below", defArgs s_is_below, defBody s_is_below, defScope s_is_below, [], []⟩
def d_hull : He.DefD := ⟨("hull", none), "hull", "hull", defArgs s_hull, defBody s_hull, defScope s_hull, [], []⟩
def d_in_order : He.DefD := ⟨("in_order", none), "in_order", "in_order", defArgs s_in_order, defBody s_in_order, defScope s_in_order, [], []⟩
def d_hull_together : He.DefD := ⟨("hull_together", none), "hull_together", "hull_together", defArgs s_hull_together, defBody s_hull_together, defScope s_hull_together, [], []⟩
def d_is_number : He.DefD := ⟨("is_number", none), "is_number", "is_number", defArgs s_is_number, defBody s_is_number, defScope s_is_number, [], []⟩
def d_is_price : He.DefD := ⟨("is_price", none), "is_price", "is_price", defArgs s_is_price, defBody s_is_price, defScope s_is_price, [], []⟩
def d_weighed : He.DefD := ⟨("weighed", none), "weighed", "weighed", defArgs s_weighed, defBody s_weighed, defScope s_weighed, [], []⟩
def d_best_at : He.DefD := ⟨("best_at", none), "best_at", "best_at", defArgs s_best_at, defBody s_best_at, defScope s_best_at, [], []⟩
def d_least_bits : He.DefD := ⟨("least_bits", none), "least_bits", "least_bits", defArgs s_least_bits, defBody s_least_bits, defScope s_least_bits, [], []⟩
def d_bound_by : He.DefD := ⟨("bound_by", none), "bound_by", "bound_by", defArgs s_bound_by, defBody s_bound_by, defScope s_bound_by, [], []⟩
def d_least_loss : He.DefD := ⟨("least_loss", none), "least_loss", "least_loss", defArgs s_least_loss, defBody s_least_loss, defScope s_least_loss, [], []⟩
def d_is_pair : He.DefD := ⟨("is_pair", none), "is_pair", "is_pair", defArgs s_is_pair, defBody s_is_pair, defScope s_is_pair, [], []⟩
def d_is_front : He.DefD := ⟨("is_front", none), "is_front", "is_front", defArgs s_is_front, defBody s_is_front, defScope s_is_front, [], []⟩
def d_law : He.DefD := ⟨("law", none), "law", "law", defArgs s_law, defBody s_law, defScope s_law, [], []⟩
def fnl : List He.DefD := [d__law_draws, d__law_take, d__law_front, d__law_drawn_front, d_front_of, d_put_together, d__law_alike, d_all_together, d_either, d_is_below, d_hull, d_in_order, d_hull_together, d_is_number, d_is_price, d_weighed, d_best_at, d_least_bits, d_bound_by, d_least_loss, d_is_pair, d_is_front, d_law]
def fal : List He.Fa := [.glo "_law_draws", .glo "_law_take", .glo "_law_front", .glo "_law_drawn_front", .glo "front_of", .glo "put_together", .glo "_law_alike", .glo "all_together", .glo "either", .glo "is_below", .glo "hull", .glo "in_order", .glo "hull_together", .glo "is_number", .glo "is_price", .glo "weighed", .glo "best_at", .glo "least_bits", .glo "bound_by", .glo "least_loss", .glo "is_pair", .glo "is_front", .glo "law", .int "MOST_NUMBER" 1000000000, .int "MOST_PAIRS" 4000, .int "MOST_PRICE" 1000000, .free "abs", .free "all", .free "bool", .free "int", .free "isinstance", .free "len", .free "list", .free "max", .free "range", .free "reversed", .free "sorted", .free "str", .free "sum", .free "tuple", .free "zip"]
def tfl : List He.Defn := [("is_pair", none), ("is_front", none)]
abbrev Rw : PySem.W.OpenRow := PySem.W.OpenLaw.row PySem.Challenge.rw_lostastold_k68_whole_fronts_as_sums_and
abbrev hk : PySem.W.Hook := He.hookX 4 fal fnl [] tfl (fun _ => true)
def ob (s : PySem.W.SharedT) : He.AlX := He.obsX 4 fal fnl [] tfl (fun _ => true) (HandSHeadRun.getT s)
theorem ob_eq (s : PySem.W.SharedT) : ob s = hk.obs s.abs := He.obsX_eq (HandSHeadRun.getT_eq s)
def loose : List PySem.Str := ["LostError", "Malformed", "NotThere", "TooMuch", "is_number", "MOST_PAIRS", "MOST_NUMBER", "is_pair", "is_front", "front_of", "put_together", "either", "all_together", "least_bits", "least_loss", "MOST_PRICE", "is_price", "weighed", "best_at", "is_below", "hull", "hull_together", "in_order", "bound_by", "_law_draws", "_law_take", "_law_alike", "_law_front", "_law_drawn_front"]
theorem run (w : World) : HandSHeadRun.RunEq Rw (PySem.W.view Rw.prog [35]) hk ob 6000 loose w := by
  intro os
  kernel_rfl
theorem facts {P : Program} {w : World} {K : PySem.W.Frag} {h : Heap} {mg : Str → Option Value} {f : Addr} (X : K.In h) (G : h.Ns mainGlobals mg) (hfa : mg ("law" : Str) = some (.ref f)) (c : He.SaysX fal fnl [] tfl (fun _ => true) w h K) {l : PySem.W.OpenLaw} :
    LamX.LawAtS l w K (L2.CX l.prog w) 11 63 "script" mg f h := by
  have D := c.t.d
  obtain ⟨fd__law_draws, F__law_draws⟩ := D.def_ 0 (d := d__law_draws) rfl
  obtain ⟨fd__law_take, F__law_take⟩ := D.def_ 1 (d := d__law_take) rfl
  obtain ⟨fd__law_front, F__law_front⟩ := D.def_ 2 (d := d__law_front) rfl
  obtain ⟨fd__law_drawn_front, F__law_drawn_front⟩ := D.def_ 3 (d := d__law_drawn_front) rfl
  obtain ⟨fd_front_of, F_front_of⟩ := D.def_ 4 (d := d_front_of) rfl
  obtain ⟨fd_put_together, F_put_together⟩ := D.def_ 5 (d := d_put_together) rfl
  obtain ⟨fd__law_alike, F__law_alike⟩ := D.def_ 6 (d := d__law_alike) rfl
  obtain ⟨fd_all_together, F_all_together⟩ := D.def_ 7 (d := d_all_together) rfl
  obtain ⟨fd_either, F_either⟩ := D.def_ 8 (d := d_either) rfl
  obtain ⟨fd_is_below, F_is_below⟩ := D.def_ 9 (d := d_is_below) rfl
  obtain ⟨fd_hull, F_hull⟩ := D.def_ 10 (d := d_hull) rfl
  obtain ⟨fd_in_order, F_in_order⟩ := D.def_ 11 (d := d_in_order) rfl
  obtain ⟨fd_hull_together, F_hull_together⟩ := D.def_ 12 (d := d_hull_together) rfl
  obtain ⟨fd_is_number, F_is_number⟩ := D.def_ 13 (d := d_is_number) rfl
  obtain ⟨fd_is_price, F_is_price⟩ := D.def_ 14 (d := d_is_price) rfl
  obtain ⟨fd_weighed, F_weighed⟩ := D.def_ 15 (d := d_weighed) rfl
  obtain ⟨fd_best_at, F_best_at⟩ := D.def_ 16 (d := d_best_at) rfl
  obtain ⟨fd_least_bits, F_least_bits⟩ := D.def_ 17 (d := d_least_bits) rfl
  obtain ⟨fd_bound_by, F_bound_by⟩ := D.def_ 18 (d := d_bound_by) rfl
  obtain ⟨fd_least_loss, F_least_loss⟩ := D.def_ 19 (d := d_least_loss) rfl
  obtain ⟨fd_is_pair, F_is_pair⟩ := D.def_ 20 (d := d_is_pair) rfl
  obtain ⟨fd_is_front, F_is_front⟩ := D.def_ 21 (d := d_is_front) rfl
  obtain ⟨fd_law, F_law⟩ := D.def_ 22 (d := d_law) rfl
  have g__law_draws := He.glo_ok X G (D.fact 0 (f := .glo "_law_draws") rfl)
  have g__law_take := He.glo_ok X G (D.fact 1 (f := .glo "_law_take") rfl)
  have g__law_front := He.glo_ok X G (D.fact 2 (f := .glo "_law_front") rfl)
  have g__law_drawn_front := He.glo_ok X G (D.fact 3 (f := .glo "_law_drawn_front") rfl)
  have g_front_of := He.glo_ok X G (D.fact 4 (f := .glo "front_of") rfl)
  have g_put_together := He.glo_ok X G (D.fact 5 (f := .glo "put_together") rfl)
  have g__law_alike := He.glo_ok X G (D.fact 6 (f := .glo "_law_alike") rfl)
  have g_all_together := He.glo_ok X G (D.fact 7 (f := .glo "all_together") rfl)
  have g_either := He.glo_ok X G (D.fact 8 (f := .glo "either") rfl)
  have g_is_below := He.glo_ok X G (D.fact 9 (f := .glo "is_below") rfl)
  have g_hull := He.glo_ok X G (D.fact 10 (f := .glo "hull") rfl)
  have g_in_order := He.glo_ok X G (D.fact 11 (f := .glo "in_order") rfl)
  have g_hull_together := He.glo_ok X G (D.fact 12 (f := .glo "hull_together") rfl)
  have g_is_number := He.glo_ok X G (D.fact 13 (f := .glo "is_number") rfl)
  have g_is_price := He.glo_ok X G (D.fact 14 (f := .glo "is_price") rfl)
  have g_weighed := He.glo_ok X G (D.fact 15 (f := .glo "weighed") rfl)
  have g_best_at := He.glo_ok X G (D.fact 16 (f := .glo "best_at") rfl)
  have g_least_bits := He.glo_ok X G (D.fact 17 (f := .glo "least_bits") rfl)
  have g_bound_by := He.glo_ok X G (D.fact 18 (f := .glo "bound_by") rfl)
  have g_least_loss := He.glo_ok X G (D.fact 19 (f := .glo "least_loss") rfl)
  have g_is_pair := He.glo_ok X G (D.fact 20 (f := .glo "is_pair") rfl)
  have g_is_front := He.glo_ok X G (D.fact 21 (f := .glo "is_front") rfl)
  have g_law := He.glo_ok X G (D.fact 22 (f := .glo "law") rfl)
  obtain ⟨t_MOST_NUMBER, g_MOST_NUMBER⟩ := He.int_ok X G (D.fact 23 (f := .int "MOST_NUMBER" 1000000000) rfl)
  obtain ⟨t_MOST_PAIRS, g_MOST_PAIRS⟩ := He.int_ok X G (D.fact 24 (f := .int "MOST_PAIRS" 4000) rfl)
  obtain ⟨t_MOST_PRICE, g_MOST_PRICE⟩ := He.int_ok X G (D.fact 25 (f := .int "MOST_PRICE" 1000000) rfl)
  have n_abs := He.free_ok X G (D.fact 26 (f := .free "abs") rfl)
  have n_all := He.free_ok X G (D.fact 27 (f := .free "all") rfl)
  have n_bool := He.free_ok X G (D.fact 28 (f := .free "bool") rfl)
  have n_int := He.free_ok X G (D.fact 29 (f := .free "int") rfl)
  have n_isinstance := He.free_ok X G (D.fact 30 (f := .free "isinstance") rfl)
  have n_len := He.free_ok X G (D.fact 31 (f := .free "len") rfl)
  have n_list := He.free_ok X G (D.fact 32 (f := .free "list") rfl)
  have n_max := He.free_ok X G (D.fact 33 (f := .free "max") rfl)
  have n_range := He.free_ok X G (D.fact 34 (f := .free "range") rfl)
  have n_reversed := He.free_ok X G (D.fact 35 (f := .free "reversed") rfl)
  have n_sorted := He.free_ok X G (D.fact 36 (f := .free "sorted") rfl)
  have n_str := He.free_ok X G (D.fact 37 (f := .free "str") rfl)
  have n_sum := He.free_ok X G (D.fact 38 (f := .free "sum") rfl)
  have n_tuple := He.free_ok X G (D.fact 39 (f := .free "tuple") rfl)
  have n_zip := He.free_ok X G (D.fact 40 (f := .free "zip") rfl)
  have b__law_draws : Binds K fd__law_draws ["script"] [] := F__law_draws.bindsN fun _ _ _ _ _ _ us hl => match us, hl with | [_], _ => rfl
  have b__law_take : Binds K fd__law_take ["draws", "bound"] [] := F__law_take.bindsN fun _ _ _ _ _ _ us hl => match us, hl with | [_, _], _ => rfl
  have b__law_front : Binds K fd__law_front ["rows"] [] := F__law_front.bindsN fun _ _ _ _ _ _ us hl => match us, hl with | [_], _ => rfl
  have b__law_drawn_front : Binds K fd__law_drawn_front ["draws"] [] := F__law_drawn_front.bindsN fun _ _ _ _ _ _ us hl => match us, hl with | [_], _ => rfl
  have b_front_of : Binds K fd_front_of ["rows"] [] := F_front_of.bindsN fun _ _ _ _ _ _ us hl => match us, hl with | [_], _ => rfl
  have b_put_together : Binds K fd_put_together ["one", "other"] [] := F_put_together.bindsN fun _ _ _ _ _ _ us hl => match us, hl with | [_, _], _ => rfl
  have b__law_alike : Binds K fd__law_alike ["found", "due"] [] := F__law_alike.bindsN fun _ _ _ _ _ _ us hl => match us, hl with | [_, _], _ => rfl
  have b_all_together : Binds K fd_all_together ["rows"] [] := F_all_together.bindsN fun _ _ _ _ _ _ us hl => match us, hl with | [_], _ => rfl
  have b_either : Binds K fd_either ["one", "other"] [] := F_either.bindsN fun _ _ _ _ _ _ us hl => match us, hl with | [_, _], _ => rfl
  have b_is_below : Binds K fd_is_below ["one", "middle", "other"] [] := F_is_below.bindsN fun _ _ _ _ _ _ us hl => match us, hl with | [_, _, _], _ => rfl
  have b_hull : Binds K fd_hull ["front"] [] := F_hull.bindsN fun _ _ _ _ _ _ us hl => match us, hl with | [_], _ => rfl
  have b_in_order : Binds K fd_in_order ["steps"] [] := F_in_order.bindsN fun _ _ _ _ _ _ us hl => match us, hl with | [_], _ => rfl
  have b_hull_together : Binds K fd_hull_together ["rows"] [] := F_hull_together.bindsN fun _ _ _ _ _ _ us hl => match us, hl with | [_], _ => rfl
  have b_is_number : Binds K fd_is_number ["value", "least", "most"] [] := F_is_number.bindsN fun _ _ _ _ _ _ us hl => match us, hl with | [_, _, _], _ => rfl
  have b_is_price : Binds K fd_is_price ["value"] [] := F_is_price.bindsN fun _ _ _ _ _ _ us hl => match us, hl with | [_], _ => rfl
  have b_weighed : Binds K fd_weighed ["price", "pair"] [] := F_weighed.bindsN fun _ _ _ _ _ _ us hl => match us, hl with | [_, _], _ => rfl
  have b_best_at : Binds K fd_best_at ["front", "price"] [] := F_best_at.bindsN fun _ _ _ _ _ _ us hl => match us, hl with | [_, _], _ => rfl
  have b_least_bits : Binds K fd_least_bits ["front", "loss"] [] := F_least_bits.bindsN fun _ _ _ _ _ _ us hl => match us, hl with | [_, _], _ => rfl
  have b_bound_by : Binds K fd_bound_by ["rows", "price", "loss"] [] := F_bound_by.bindsN fun _ _ _ _ _ _ us hl => match us, hl with | [_, _, _], _ => rfl
  have b_least_loss : Binds K fd_least_loss ["front", "bits"] [] := F_least_loss.bindsN fun _ _ _ _ _ _ us hl => match us, hl with | [_, _], _ => rfl
  have b_is_pair : Binds K fd_is_pair ["value"] [] := F_is_pair.bindsN fun _ _ _ _ _ _ us hl => match us, hl with | [_], _ => rfl
  have b_is_front : Binds K fd_is_front ["value"] [] := F_is_front.bindsN fun _ _ _ _ _ _ us hl => match us, hl with | [_], _ => rfl
  have b_law : Binds K fd_law ["script"] [] := F_law.bindsN fun _ _ _ _ _ _ us hl => match us, hl with | [_], _ => rfl
  have hc_is_pair : fd_is_pair.code = .ref (He.codeOf K ("is_pair", none)) := code_ref F_is_pair
  have hc_is_front : fd_is_front.code = .ref (He.codeOf K ("is_front", none)) := code_ref F_is_front
  letI : Tabs := ⟨(tfl.map (He.cT K)).map (·.2)⟩
  have e := hfa.symm.trans g_law
  cases e
  have bA := FunD.bindsA (ps := ["script"]) F_law fun _ _ _ _ _ _ us hl => match us, hl with | [_], _ => rfl
  refine ⟨fd_law, tfl.map (He.cT K), spM K mg 1 m_law, ?_, ?_, ?_, fun s u => bA s [u] rfl, ?_, ?_⟩
  · intro p hp
    obtain ⟨q, hq, rfl⟩ := List.mem_map.mp hp
    exact c.empty q hq
  · intro p hp
    obtain ⟨q, hq, rfl⟩ := List.mem_map.mp hp
    exact c.out q hq
  · intro p hp
    obtain ⟨q, hq, rfl⟩ := List.mem_map.mp hp
    exact PySem.W.codeHd_of_K X (c.hd q hq)
  · intro H a ns hl hbits hT hS
    obtain ⟨S', e⟩ := plain_law ns hl hbits
    exact spM_start e hT hS
  · intro base KB GB TB
    exact fn_law (P := l.prog) (w := w) (K := K) (mg := mg) (base := base) ⟨fd__law_draws, F__law_draws, g__law_draws, b__law_draws, fd__law_take, F__law_take, g__law_take, b__law_take, fd__law_front, F__law_front, g__law_front, b__law_front, fd__law_drawn_front, F__law_drawn_front, g__law_drawn_front, b__law_drawn_front, fd_front_of, F_front_of, g_front_of, b_front_of, fd_put_together, F_put_together, g_put_together, b_put_together, fd__law_alike, F__law_alike, g__law_alike, b__law_alike, fd_all_together, F_all_together, g_all_together, b_all_together, fd_either, F_either, g_either, b_either, fd_is_below, F_is_below, g_is_below, b_is_below, fd_hull, F_hull, g_hull, b_hull, fd_in_order, F_in_order, g_in_order, b_in_order, fd_hull_together, F_hull_together, g_hull_together, b_hull_together, fd_is_number, F_is_number, g_is_number, b_is_number, fd_is_price, F_is_price, g_is_price, b_is_price, fd_weighed, F_weighed, g_weighed, b_weighed, fd_best_at, F_best_at, g_best_at, b_best_at, fd_least_bits, F_least_bits, g_least_bits, b_least_bits, fd_bound_by, F_bound_by, g_bound_by, b_bound_by, fd_least_loss, F_least_loss, g_least_loss, b_least_loss, fd_is_pair, F_is_pair, g_is_pair, b_is_pair, He.codeOf K ("is_pair", none), (He.cT K ("is_pair", none)).2, hc_is_pair, tabB_of (TB (He.cT K ("is_pair", none)) (List.mem_map.mpr ⟨_, by simp [tfl], rfl⟩)), List.mem_map.mpr ⟨_, List.mem_map.mpr ⟨("is_pair", none), by simp [tfl], rfl⟩, rfl⟩, fd_is_front, F_is_front, g_is_front, b_is_front, He.codeOf K ("is_front", none), (He.cT K ("is_front", none)).2, hc_is_front, tabB_of (TB (He.cT K ("is_front", none)) (List.mem_map.mpr ⟨_, by simp [tfl], rfl⟩)), List.mem_map.mpr ⟨_, List.mem_map.mpr ⟨("is_front", none), by simp [tfl], rfl⟩, rfl⟩, fd_law, F_law, g_law, b_law, _, g_MOST_NUMBER, ⟨t_MOST_NUMBER, rfl⟩, _, g_MOST_PAIRS, ⟨t_MOST_PAIRS, rfl⟩, _, g_MOST_PRICE, ⟨t_MOST_PRICE, rfl⟩, n_abs, n_all, n_bool, n_int, n_isinstance, n_len, n_list, n_max, n_range, n_reversed, n_sorted, n_str, n_sum, n_tuple, n_zip⟩
end K68
open PySem PySem.W PySem.Calls PyProof.Rows
theorem PySem.Challenge.cw_lostastold_k68_whole_fronts_as_sums_and_holds : PySem.Challenge.rw_lostastold_k68_whole_fronts_as_sums_and.Holds := by
  w_on; o_law
  refine HandSHeadRun.head_any (r := OpenLaw.row PySem.Challenge.rw_lostastold_k68_whole_fronts_as_sums_and) (q := view (OpenLaw.row PySem.Challenge.rw_lostastold_k68_whole_fronts_as_sums_and).prog [35]) (H := K68.hk) (ob := K68.ob) (M := 6000) (loose := K68.loose) (d := HandSHeadRun.topDef (OpenLaw.row PySem.Challenge.rw_lostastold_k68_whole_fronts_as_sums_and).prog 35) (kwd := []) K68.ob_eq
    (by kernel_rfl) (fun s => by kernel_rfl) K68.run (by kernel_rfl) (by kernel_rfl) (by kernel_rfl) (by rfl) (by first | assumption | decide +kernel) (by decide +kernel) ⟨rfl, rfl, rfl, rfl, rfl, by decide +kernel⟩ ?hw ?hc
  case hw => w_witness2
  case hc =>
    refine LamX.walk_ofTsE (l := PySem.Challenge.rw_lostastold_k68_whole_fronts_as_sums_and) (n := 63) (k := 11) (x := "script") (CX := fun w => L2.CX PySem.Challenge.rw_lostastold_k68_whole_fronts_as_sums_and.prog w) rfl (by decide) (by kernel_rfl) ⟨rfl, by decide, by decide⟩ ?F (fun w H s e s' z => M.cx_false z)
    intro w mg fa h Y G hmg0
    obtain ⟨K, KX, c⟩ := Y
    have hmg : mg ("law" : PySem.Str) = some (.ref fa) := by
      have e : (HandSHeadRun.topDef (OpenLaw.row PySem.Challenge.rw_lostastold_k68_whole_fronts_as_sums_and).prog 35).name = ("law" : PySem.Str) := by kernel_rfl
      rw [← e]
      exact hmg0
    exact ⟨K, KX, K68.facts (P := PySem.Challenge.rw_lostastold_k68_whole_fronts_as_sums_and.prog) KX G hmg c⟩

